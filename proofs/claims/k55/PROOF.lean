import PyProof.Rows.All
import Wide.All
import OpenK.AllK
import Wide.FinOn
import HandS.ForMost
import HandS.Wide
import HandS.TupAny
import HandS.TupMul
import HandS.IsInst
import HandS.Deep
import HandS.RaiseMore
import HandS.TupLe
import PyProof.ReprReads
import HandS.Style
import HandS.Zip
import HandS.More
import PyProof.SumWalkG
import PyProof.WalksMore
import PyProof.StrBlock2
import PySem.Challenge.RW_straightroads_k55_event_rows
set_option Elab.async false
set_option linter.all false
set_option maxRecDepth 100000
set_option maxHeartbeats 4000000
namespace PL
open PySem PySem.Spec PyProof.Rows L2

/-! ### values: nested tuples and lists that nobody changes are values, what is changed stands at an address -/
inductive D where
  | non | bl (b : Bool) | int (i : Int) | str (x : Str) | ty (n : String) | ref (a : Addr)
  | tup (xs : List D) | lst (xs : List D) | dct (ks vs : List D) | dtt (ks vs : List D) | scr (xs : List D)

inductive MO where
  | lst (xs : List D) | dct (ks vs : List D) | dtt (ks vs : List D) | ins (C : Addr) (fs : List (Str × D))

abbrev Sto := Addr → Option MO
abbrev Env' := List (Option D)
def sup (S : Sto) (a : Addr) (o : MO) : Sto := fun b => if b = a then some o else S b
def sdel (S : Sto) (a : Addr) : Sto := fun b => if b = a then none else S b
theorem sup_same {S : Sto} {a : Addr} {o : MO} : sup S a o a = some o := by unfold sup; rw [if_pos rfl]
theorem sup_ne {S : Sto} {a b : Addr} {o : MO} (h : b ≠ a) : sup S a o b = S b := by unfold sup; rw [if_neg h]
theorem sdel_same {S : Sto} {a : Addr} : sdel S a a = none := by unfold sdel; rw [if_pos rfl]
theorem sdel_ne {S : Sto} {a b : Addr} (h : b ≠ a) : sdel S a b = S b := by unfold sdel; rw [if_neg h]

/-- read-only things: tracked and out of the store, or of the written part -/
def RL (K : PySem.W.Frag) (S : Sto) (H : Hp) (a : Addr) (vs : List V) : Prop :=
  (S a = none ∧ Rd H a (.lst vs)) ∨
    ∃ (o : Obj) (its : Array Value) (n : Nat), K.lookup a = some o ∧ o.cls = .type "list" ∧ o.dict = none ∧ o.data = .seq its n ∧ its.size ≤ sizeLine ∧ Vals vs its.toList
def RT (K : PySem.W.Frag) (S : Sto) (H : Hp) (a : Addr) (vs : List V) : Prop :=
  (S a = none ∧ Rd H a (.tup vs)) ∨
    ∃ (o : Obj) (its : Array Value) (n : Nat), K.lookup a = some o ∧ o.cls = .type "tuple" ∧ o.data = .seq its n ∧ its.size ≤ sizeLine ∧ Vals vs its.toList
theorem RL.sq {K : PySem.W.Frag} {S : Sto} {H : Hp} {a : Addr} {vs : List V} (h : RL K S H a vs) : SqL K H a vs := h.imp (fun x => x.2) fun x => x
theorem RT.sq {K : PySem.W.Frag} {S : Sto} {H : Hp} {a : Addr} {vs : List V} (h : RT K S H a vs) : SqT K H a vs := h.imp (fun x => x.2) fun x => x

/-- a key of a dict as a value -/
inductive KyD : D → Key → Prop where
  | int (i : Int) : KyD (.int i) (.inl i)
  | str (x : Str) : KyD (.str x) (.inr x)
inductive KyT : D → List Key → Prop where
  | mk {ds : List D} {ks : List Key} (h : Paired KyD ds ks) : KyT (.tup ds) ks

mutual
inductive RepD (K : PySem.W.Frag) (S : Sto) (H : Hp) : D → V → Prop where
  | non : RepD K S H .non .non
  | bl (b : Bool) : RepD K S H (.bl b) (.bl b)
  | int (i : Int) : RepD K S H (.int i) (.int i)
  | str (x : Str) : RepD K S H (.str x) (.str x)
  | ty (n : String) : RepD K S H (.ty n) (.ty n)
  | ref (a : Addr) : RepD K S H (.ref a) (.ref a)
  | tup {a : Addr} {vs : List V} {ds : List D} (h : RT K S H a vs) (r : RepDs K S H ds vs) : RepD K S H (.tup ds) (.ref a)
  | lst {a : Addr} {vs : List V} {ds : List D} (n : S a = none) (h : H a = some (.lst vs)) (r : RepDs K S H ds vs) : RepD K S H (.lst ds) (.ref a)
  | scr {a : Addr} {vs : List V} {ds : List D} (h : RL K S H a vs) (r : RepDs K S H ds vs) : RepD K S H (.scr ds) (.ref a)
  | dctK {a : Addr} {ks : List Key} {vs : List V} {dk dv : List D} (n : S a = none) (h : H a = some (.dK (ks.zip vs))) (l : ks.length = vs.length) (k : Paired KyD dk ks) (r : RepDs K S H dv vs) : RepD K S H (.dct dk dv) (.ref a)
  | dctT {a : Addr} {ks : List (List Key)} {vs : List V} {dk dv : List D} (n : S a = none) (h : H a = some (.dT (ks.zip vs))) (l : ks.length = vs.length) (k : Paired KyT dk ks) (r : RepDs K S H dv vs) : RepD K S H (.dtt dk dv) (.ref a)
inductive RepDs (K : PySem.W.Frag) (S : Sto) (H : Hp) : List D → List V → Prop where
  | nil : RepDs K S H [] []
  | cons {d : D} {v : V} {ds : List D} {vs : List V} (h : RepD K S H d v) (r : RepDs K S H ds vs) : RepDs K S H (d :: ds) (v :: vs)
end

inductive RepFs (K : PySem.W.Frag) (S : Sto) (H : Hp) : List (Str × D) → List (Str × V) → Prop where
  | nil : RepFs K S H [] []
  | cons {x : Str} {d : D} {v : V} {fs : List (Str × D)} {gs : List (Str × V)} (h : RepD K S H d v) (r : RepFs K S H fs gs) : RepFs K S H ((x, d) :: fs) ((x, v) :: gs)

inductive RepM (K : PySem.W.Frag) (S : Sto) (H : Hp) : MO → HO → Prop where
  | lst {ds : List D} {vs : List V} (r : RepDs K S H ds vs) : RepM K S H (.lst ds) (.lst vs)
  | dK {dk dv : List D} {ks : List Key} {vs : List V} (l : ks.length = vs.length) (k : Paired KyD dk ks) (r : RepDs K S H dv vs) : RepM K S H (.dct dk dv) (.dK (ks.zip vs))
  | dT {dk dv : List D} {ks : List (List Key)} {vs : List V} (l : ks.length = vs.length) (k : Paired KyT dk ks) (r : RepDs K S H dv vs) : RepM K S H (.dtt dk dv) (.dT (ks.zip vs))
  | ins {C dx : Addr} {fs : List (Str × D)} {gs : List (Str × V)} (r : RepFs K S H fs gs) : RepM K S H (.ins C fs) (.ins C dx gs)

def RepS (K : PySem.W.Frag) (S : Sto) (H : Hp) : Prop := ∀ a o, S a = some o → ∃ u, H a = some u ∧ RepM K S H o u
/-- what isn't in the store stays as it is, and out of the store -/
def Ext (S : Sto) (H : Hp) (S' : Sto) (H' : Hp) : Prop := ∀ a u, S a = none → H a = some u → H' a = some u ∧ S' a = none
theorem Ext.refl {S : Sto} {H : Hp} : Ext S H S H := fun _ _ n h => ⟨h, n⟩
theorem Ext.trans {S S1 S2 : Sto} {H H1 H2 : Hp} (a : Ext S H S1 H1) (b : Ext S1 H1 S2 H2) : Ext S H S2 H2 := fun x u n h =>
  let ⟨h1, n1⟩ := a x u n h
  b x u n1 h1

section
variable {K : PySem.W.Frag} {S S' : Sto} {H H' : Hp}
theorem Rd.ext {a : Addr} {u : HO} (e : Ext S H S' H') (n : S a = none) (h : Rd H a u) : Rd H' a u ∧ S' a = none := by
  rcases h with h | ⟨o, h⟩
  · exact ⟨.inl (e a _ n h).1, (e a _ n h).2⟩
  · exact ⟨.inr ⟨o, (e a _ n h).1⟩, (e a _ n h).2⟩
theorem RL.ext {a : Addr} {vs : List V} (e : Ext S H S' H') (h : RL K S H a vs) : RL K S' H' a vs := h.imp (fun x => let q := Rd.ext e x.1 x.2; ⟨q.2, q.1⟩) fun x => x
theorem RT.ext {a : Addr} {vs : List V} (e : Ext S H S' H') (h : RT K S H a vs) : RT K S' H' a vs := h.imp (fun x => let q := Rd.ext e x.1 x.2; ⟨q.2, q.1⟩) fun x => x
mutual
theorem RepD.ext (e : Ext S H S' H') : ∀ {d : D} {v : V}, RepD K S H d v → RepD K S' H' d v
  | _, _, .non => .non
  | _, _, .bl b => .bl b
  | _, _, .int i => .int i
  | _, _, .str x => .str x
  | _, _, .ty n => .ty n
  | _, _, .ref a => .ref a
  | _, _, .tup h r => .tup (h.ext e) (RepDs.ext e r)
  | _, _, .lst n h r => .lst (e _ _ n h).2 (e _ _ n h).1 (RepDs.ext e r)
  | _, _, .scr h r => .scr (h.ext e) (RepDs.ext e r)
  | _, _, .dctK n h l k r => .dctK (e _ _ n h).2 (e _ _ n h).1 l k (RepDs.ext e r)
  | _, _, .dctT n h l k r => .dctT (e _ _ n h).2 (e _ _ n h).1 l k (RepDs.ext e r)
theorem RepDs.ext (e : Ext S H S' H') : ∀ {ds : List D} {vs : List V}, RepDs K S H ds vs → RepDs K S' H' ds vs
  | _, _, .nil => .nil
  | _, _, .cons h r => .cons (RepD.ext e h) (RepDs.ext e r)
end
theorem RepFs.ext (e : Ext S H S' H') : ∀ {fs : List (Str × D)} {gs : List (Str × V)}, RepFs K S H fs gs → RepFs K S' H' fs gs
  | _, _, .nil => .nil
  | _, _, .cons h r => .cons (h.ext e) (RepFs.ext e r)
theorem RepM.ext (e : Ext S H S' H') {o : MO} {u : HO} (h : RepM K S H o u) : RepM K S' H' o u := by
  cases h with
  | lst r => exact .lst (r.ext e)
  | dK l k r => exact .dK l k (r.ext e)
  | dT l k r => exact .dT l k (r.ext e)
  | ins r => exact .ins (r.ext e)
theorem RepDs.len : ∀ {ds : List D} {vs : List V}, RepDs K S H ds vs → ds.length = vs.length
  | _, _, .nil => rfl
  | _, _, .cons _ r => congrArg (· + 1) (RepDs.len r)
theorem RepDs.get : ∀ {ds : List D} {vs : List V} {i : Nat} {d : D}, RepDs K S H ds vs → ds[i]? = some d → ∃ v, vs[i]? = some v ∧ RepD K S H d v
  | _, _, _, _, .nil, e => by simp at e
  | _, _, 0, _, .cons h _, e => by simp at e; subst e; exact ⟨_, rfl, h⟩
  | _, _, i + 1, d, .cons _ t, e => by
    obtain ⟨u, h1, h2⟩ := RepDs.get (i := i) (d := d) t (by simpa using e)
    exact ⟨u, by simpa using h1, h2⟩
theorem RepDs.getV : ∀ {ds : List D} {vs : List V} {i : Nat} {v : V}, RepDs K S H ds vs → vs[i]? = some v → ∃ d, ds[i]? = some d ∧ RepD K S H d v
  | _, _, _, _, .nil, e => by simp at e
  | _, _, 0, _, .cons h _, e => by simp at e; subst e; exact ⟨_, rfl, h⟩
  | _, _, i + 1, v, .cons _ t, e => by
    obtain ⟨u, h1, h2⟩ := RepDs.getV (i := i) (v := v) t (by simpa using e)
    exact ⟨u, by simpa using h1, h2⟩
theorem RepDs.append : ∀ {ds es : List D} {vs us : List V}, RepDs K S H ds vs → RepDs K S H es us → RepDs K S H (ds ++ es) (vs ++ us)
  | _, _, _, _, .nil, s => s
  | _, _, _, _, .cons h r, s => .cons h (RepDs.append r s)
theorem RepDs.take : ∀ {ds : List D} {vs : List V} (n : Nat), RepDs K S H ds vs → RepDs K S H (ds.take n) (vs.take n)
  | _, _, 0, _ => .nil
  | _, _, _ + 1, .nil => .nil
  | _, _, n + 1, .cons h r => .cons h (RepDs.take n r)
theorem RepDs.drop : ∀ {ds : List D} {vs : List V} (n : Nat), RepDs K S H ds vs → RepDs K S H (ds.drop n) (vs.drop n)
  | _, _, 0, r => r
  | _, _, _ + 1, .nil => .nil
  | _, _, n + 1, .cons _ r => RepDs.drop n r
theorem RepDs.set {d : D} {v : V} (h : RepD K S H d v) : ∀ {ds : List D} {vs : List V} (i : Nat), RepDs K S H ds vs → RepDs K S H (ds.set i d) (vs.set i v)
  | _, _, _, .nil => .nil
  | _, _, 0, .cons _ r => .cons h r
  | _, _, i + 1, .cons q r => .cons q (RepDs.set h i r)
theorem RepDs.dropLast {ds : List D} {vs : List V} (r : RepDs K S H ds vs) : RepDs K S H ds.dropLast vs.dropLast := by
  rw [List.dropLast_eq_take, List.dropLast_eq_take, ← r.len]
  exact r.take _
theorem RepDs.one {d : D} {v : V} (h : RepD K S H d v) : RepDs K S H [d] [v] := .cons h .nil
theorem RepFs.lookup {f : Str} : ∀ {fs : List (Str × D)} {gs : List (Str × V)}, RepFs K S H fs gs → (∀ d, fs.lookup f = some d → ∃ v, gs.lookup f = some v ∧ RepD K S H d v) ∧ (fs.lookup f = none → gs.lookup f = none)
  | _, _, .nil => ⟨(fun _ e => by simp at e), (fun _ => rfl)⟩
  | _, _, .cons (x := x) h r => by
    obtain ⟨h1, h2⟩ := RepFs.lookup (f := f) r
    constructor
    · intro d e
      rw [List.lookup_cons] at e ⊢
      cases q : f == x with
      | true => rw [q] at e; cases e; exact ⟨_, rfl, h⟩
      | false => rw [q] at e; exact h1 d e
    · intro e
      rw [List.lookup_cons] at e ⊢
      cases q : f == x with
      | true => rw [q] at e; cases e
      | false => rw [q] at e; exact h2 e
/-- what is in the store is neither a tuple nor frozen -/
theorem RepS.ne {a : Addr} (h : RepS K S H) {u : HO} (e : H a = some u) (d : ∀ o, ¬ RepM K S H o u) : S a = none := by
  cases q : S a with
  | none => rfl
  | some o =>
    obtain ⟨u', h1, h2⟩ := h a o q
    rw [e] at h1; cases h1
    exact (d o h2).elim
theorem RepS.tup {a : Addr} {vs : List V} (h : RepS K S H) (e : H a = some (.tup vs)) : S a = none := h.ne e fun o q => by cases q
theorem RepS.frz {a : Addr} {ob : Obj} {u : HO} (h : RepS K S H) (e : H a = some (.frz ob u)) : S a = none := h.ne e fun o q => by cases q
theorem RepS.free {a : Addr} (h : RepS K S H) (e : H a = none) : S a = none := by
  cases q : S a with
  | none => rfl
  | some o => obtain ⟨u', h1, _⟩ := h a o q; rw [e] at h1; cases h1
/-- a new object that is not in the store -/
theorem Ext.new {p : Addr} {u : HO} (n : H p = none) : Ext S H S (upd H p u) := fun a x hs ha => by
  rw [upd_ne (ne_of_none ha n)]
  exact ⟨ha, hs⟩
theorem RepS.new {p : Addr} {u : HO} (h : RepS K S H) (n : H p = none) : RepS K S (upd H p u) := fun a o e => by
  obtain ⟨x, h1, h2⟩ := h a o e
  exact ⟨x, by rw [upd_ne (ne_of_none h1 n)]; exact h1, h2.ext (Ext.new n)⟩
/-- a new object that is in the store -/
theorem Ext.newS {p : Addr} {u : HO} {o : MO} (n : H p = none) : Ext S H (sup S p o) (upd H p u) := fun a x hs ha => by
  have hp : a ≠ p := ne_of_none ha n
  rw [upd_ne hp, sup_ne hp]
  exact ⟨ha, hs⟩
theorem RepS.newS {p : Addr} {u : HO} {o : MO} (h : RepS K S H) (n : H p = none) (r : RepM K S H o u) : RepS K (sup S p o) (upd H p u) := fun a o' e => by
  by_cases ha : a = p
  · subst ha
    rw [sup_same] at e; cases e
    exact ⟨u, upd_same, r.ext (Ext.newS n)⟩
  · rw [sup_ne ha] at e
    obtain ⟨x, h1, h2⟩ := h a o' e
    exact ⟨x, by rw [upd_ne ha]; exact h1, h2.ext (Ext.newS n)⟩
/-- an object of the store is written -/
theorem Ext.write {p : Addr} {u : HO} {o o' : MO} (i : S p = some o) : Ext S H (sup S p o') (upd H p u) := fun a x hs ha => by
  have hp : a ≠ p := fun e => by subst e; rw [hs] at i; cases i
  rw [upd_ne hp, sup_ne hp]
  exact ⟨ha, hs⟩
theorem RepS.write {p : Addr} {u : HO} {o o' : MO} (h : RepS K S H) (i : S p = some o) (r : RepM K S H o' u) : RepS K (sup S p o') (upd H p u) := fun a o1 e => by
  by_cases ha : a = p
  · subst ha
    rw [sup_same] at e; cases e
    exact ⟨u, upd_same, r.ext (Ext.write i)⟩
  · rw [sup_ne ha] at e
    obtain ⟨x, h1, h2⟩ := h a o1 e
    exact ⟨x, by rw [upd_ne ha]; exact h1, h2.ext (Ext.write i)⟩
/-- a lesser store -/
def SLe (S' S : Sto) : Prop := ∀ a o, S' a = some o → S a = some o
theorem SLe.none {a : Addr} (l : SLe S' S) (h : S a = none) : S' a = none := by
  cases q : S' a with
  | none => rfl
  | some o => rw [l a o q] at h; cases h
theorem SLe.ext (l : SLe S' S) : Ext S H S' H := fun a u n h => ⟨h, l.none n⟩
theorem SLe.rep (l : SLe S' S) (h : RepS K S H) : RepS K S' H := fun a o e =>
  let ⟨u, h1, h2⟩ := h a o (l a o e)
  ⟨u, h1, h2.ext l.ext⟩
theorem SLe.refl : SLe S S := fun _ _ h => h
theorem SLe.del {a : Addr} : SLe (sdel S a) S := fun b o h => by
  by_cases e : b = a
  · subst e; rw [sdel_same] at h; cases h
  · rw [sdel_ne e] at h; exact h
end

/-! ### frames -/
def RepEnv (K : PySem.W.Frag) (S : Sto) (H : Hp) (env : Env') (σ : L2.St) : Prop :=
  env.length = σ.length ∧ ∀ (i : Nat) (d : D), env[i]? = some (some d) → ∃ v, σ[i]? = some (some v) ∧ RepD K S H d v
theorem RepEnv.ext {K : PySem.W.Frag} {S S' : Sto} {H H' : Hp} {env : Env'} {σ : L2.St} (h : RepEnv K S H env σ) (e : Ext S H S' H') : RepEnv K S' H' env σ :=
  ⟨h.1, fun i d q => let ⟨v, a, b⟩ := h.2 i d q; ⟨v, a, b.ext e⟩⟩
theorem RepEnv.set {K : PySem.W.Frag} {S : Sto} {H : Hp} {env : Env'} {σ : L2.St} {i : Nat} {d : D} {v : V} (h : RepEnv K S H env σ) (r : RepD K S H d v) : RepEnv K S H (env.set i (some d)) (σ.set i (some v)) := by
  refine ⟨by simpa using h.1, fun j d' q => ?_⟩
  by_cases hj : i = j
  · subst hj
    have hl : i < env.length := by
      rcases Nat.lt_or_ge i env.length with h1 | h1
      · exact h1
      · rw [List.getElem?_eq_none (by simpa using h1)] at q; cases q
    rw [List.getElem?_set_self hl] at q
    cases q
    exact ⟨v, by rw [List.getElem?_set_self (by rw [← h.1]; exact hl)], r⟩
  · rw [List.getElem?_set_ne hj] at q
    obtain ⟨v', a, b⟩ := h.2 j d' q
    exact ⟨v', by rw [List.getElem?_set_ne hj]; exact a, b⟩
/-- forgetting a place -/
theorem RepEnv.forget {K : PySem.W.Frag} {S : Sto} {H : Hp} {env : Env'} {σ : L2.St} {i : Nat} {o : Option V} (h : RepEnv K S H env σ) : RepEnv K S H (env.set i none) (σ.set i o) := by
  refine ⟨by simpa using h.1, fun j d' q => ?_⟩
  by_cases hj : i = j
  · subst hj
    have hl : i < env.length := by
      rcases Nat.lt_or_ge i env.length with h1 | h1
      · exact h1
      · rw [List.getElem?_eq_none (by simpa using h1)] at q; cases q
    rw [List.getElem?_set_self hl] at q
    cases q
  · rw [List.getElem?_set_ne hj] at q
    obtain ⟨v', a, b⟩ := h.2 j d' q
    exact ⟨v', by rw [List.getElem?_set_ne hj]; exact a, b⟩

/-! ### readings over D -/
abbrev QD := D → Sto → Prop
abbrev TED := Env' → Sto → QD → Prop
abbrev TAD := Env' → Sto → (List D → Sto → Prop) → Prop
abbrev TTD := Env' → Sto → (Bool → Sto → Prop) → Prop
structure EndsD where
  nx : Env' → Sto → Prop
  rt : QD
  bk : Env' → Sto → Prop := fun _ _ => False
  ct : Env' → Sto → Prop := fun _ _ => False
abbrev TSD := EndsD → Env' → Sto → Prop
structure EndsD.Le (a b : EndsD) : Prop where
  nx : ∀ e s, a.nx e s → b.nx e s
  rt : ∀ d s, a.rt d s → b.rt d s
  bk : ∀ e s, a.bk e s → b.bk e s
  ct : ∀ e s, a.ct e s → b.ct e s
theorem EndsD.Le.refl (a : EndsD) : a.Le a := ⟨fun _ _ h => h, fun _ _ h => h, fun _ _ h => h, fun _ _ h => h⟩

def liftE (K : PySem.W.Frag) (t : TED) : TE := fun σ H Q => ∃ env S, RepEnv K S H env σ ∧ RepS K S H ∧
  t env S fun d S' => ∀ v H', RepD K S' H' d v → RepS K S' H' → Ext S H S' H' → Q v H'
def liftA (K : PySem.W.Frag) (t : TAD) : TA := fun σ H Q => ∃ env S, RepEnv K S H env σ ∧ RepS K S H ∧
  t env S fun ds S' => ∀ vs H', RepDs K S' H' ds vs → RepS K S' H' → Ext S H S' H' → Q vs H'
def liftT (K : PySem.W.Frag) (t : TTD) : TT := fun σ H Q => ∃ env S, RepEnv K S H env σ ∧ RepS K S H ∧
  t env S fun b S' => ∀ H', RepS K S' H' → Ext S H S' H' → Q b H'
structure EndsUp (K : PySem.W.Frag) (S : Sto) (H : Hp) (a : EndsD) (b : Ends) : Prop where
  nx : ∀ env S' σ H', RepEnv K S' H' env σ → RepS K S' H' → Ext S H S' H' → a.nx env S' → b.nx σ H'
  rt : ∀ d S' v H', RepD K S' H' d v → RepS K S' H' → Ext S H S' H' → a.rt d S' → b.rt v H'
  bk : ∀ env S' σ H', RepEnv K S' H' env σ → RepS K S' H' → Ext S H S' H' → a.bk env S' → b.bk σ H'
  ct : ∀ env S' σ H', RepEnv K S' H' env σ → RepS K S' H' → Ext S H S' H' → a.ct env S' → b.ct σ H'
theorem EndsUp.ext {K : PySem.W.Frag} {S S1 : Sto} {H H1 : Hp} {a : EndsD} {b : Ends} (u : EndsUp K S H a b) (e : Ext S H S1 H1) : EndsUp K S1 H1 a b :=
  ⟨fun env S' σ H' h1 h2 h3 => u.nx env S' σ H' h1 h2 (e.trans h3), fun d S' v H' h1 h2 h3 => u.rt d S' v H' h1 h2 (e.trans h3),
   fun env S' σ H' h1 h2 h3 => u.bk env S' σ H' h1 h2 (e.trans h3), fun env S' σ H' h1 h2 h3 => u.ct env S' σ H' h1 h2 (e.trans h3)⟩
def liftS (K : PySem.W.Frag) (t : TSD) : TS := fun D σ H => ∃ env S, RepEnv K S H env σ ∧ RepS K S H ∧ ∃ De, EndsUp K S H De D ∧ t De env S

structure DE (X : Cx) (e : Expr) (t : TED) : Prop where
  mono : ∀ env S (Q Q' : QD), (∀ d s, Q d s → Q' d s) → t env S Q → t env S Q'
  run : PE X e (liftE X.K t)
structure DA (X : Cx) (e : List Expr) (t : TAD) : Prop where
  mono : ∀ env S (Q Q' : List D → Sto → Prop), (∀ d s, Q d s → Q' d s) → t env S Q → t env S Q'
  run : PA X e (liftA X.K t)
structure DT (X : Cx) (e : Expr) (t : TTD) : Prop where
  mono : ∀ env S (Q Q' : Bool → Sto → Prop), (∀ d s, Q d s → Q' d s) → t env S Q → t env S Q'
  run : PT X e (liftT X.K t)
structure DS (X : Cx) (st : Stmt) (t : TSD) : Prop where
  mono : ∀ De De' env S, De.Le De' → t De env S → t De' env S
  run : PS X st (liftS X.K t)
structure DSs (X : Cx) (st : List Stmt) (t : TSD) : Prop where
  mono : ∀ De De' env S, De.Le De' → t De env S → t De' env S
  run : PSs X st (liftS X.K t)

theorem pe_imp {X : Cx} {e : Expr} {t t' : TE} (h : PE X e t) (i : ∀ σ H Q, t' σ H Q → t σ H Q) : PE X e t' := ⟨fun pins s σ H Q I q => h.run pins s σ H Q I (i σ H Q q)⟩
theorem pt_imp {X : Cx} {e : Expr} {t t' : TT} (h : PT X e t) (i : ∀ σ H Q, t' σ H Q → t σ H Q) : PT X e t' := ⟨fun pins s σ H Q I q => h.run pins s σ H Q I (i σ H Q q)⟩
theorem pa_imp {X : Cx} {e : List Expr} {t t' : TA} (h : PA X e t) (i : ∀ σ H Q, t' σ H Q → t σ H Q) : PA X e t' := ⟨fun pos pins s σ H Q I q => h.run pos pins s σ H Q I (i σ H Q q)⟩
theorem ps_imp {X : Cx} {e : Stmt} {t t' : TS} (h : PS X e t) (i : ∀ D σ H, t' D σ H → t D σ H) : PS X e t' := ⟨fun pins s σ H D I q => h.run pins s σ H D I (i D σ H q)⟩
theorem pss_imp {X : Cx} {e : List Stmt} {t t' : TS} (h : PSs X e t) (i : ∀ D σ H, t' D σ H → t D σ H) : PSs X e t' := ⟨fun pins s σ H D I q => h.run pins s σ H D I (i D σ H q)⟩
end PL

namespace PL
open PySem PySem.Spec PyProof.Rows L2

def up (K : PySem.W.Frag) (S : Sto) (H : Hp) (Q : VK) : QD := fun d S' => ∀ v H', RepD K S' H' d v → RepS K S' H' → Ext S H S' H' → Q v H'
theorem up_ext {K : PySem.W.Frag} {S S1 : Sto} {H H1 : Hp} {Q : VK} {d : D} {s : Sto} (e : Ext S H S1 H1) (h : up K S H Q d s) : up K S1 H1 Q d s := fun v H' a b c => h v H' a b (e.trans c)

section
variable {X : Cx} {pos : Pos}

/-! ### names, constants -/
def tdVar (i : Nat) : TED := fun env S Q => match env[i]? with
  | some (some d) => Q d S
  | _ => False
def tdC (d : D) : TED := fun _ S Q => Q d S
theorem de_var {i : Nat} {x : Str} (hN : X.N[i]? = some x) (hv : Vis X.env.scope x) (hd : (x == ("__debug__" : Str)) = false := by decide) (hcd : (x == ("__classdict__" : Str)) = false := by decide) : DE X (.Name x pos) (tdVar i) where
  mono := fun env S Q Q' h q => by
    unfold tdVar at q ⊢
    split at q
    · exact h _ _ q
    · exact q.elim
  run := pe_imp (pe_var hN hv hd hcd) fun σ H Q ⟨env, S, he, hs, q⟩ => by
    unfold tdVar at q
    split at q
    · rename_i d e
      obtain ⟨v, e1, r⟩ := he.2 i d e
      exact ⟨v, e1, q v H r hs Ext.refl⟩
    · exact q.elim
theorem de_c {e : Expr} {d : D} {v : V} (h : PE X e (tC v)) (r : ∀ S H, RepD X.K S H d v) : DE X e (tdC d) where
  mono := fun env S Q Q' h q => h _ _ q
  run := pe_imp h fun σ H Q ⟨env, S, he, hs, q⟩ => q v H (r S H) hs Ext.refl
theorem de_int {i j} : DE X (.Constant (.int i) j pos) (tdC (.int i)) := de_c pe_int fun _ _ => .int i
theorem de_bl {b j} : DE X (.Constant (.bool b) j pos) (tdC (.bl b)) := de_c pe_bl fun _ _ => .bl b
theorem de_non {j} : DE X (.Constant .none j pos) (tdC .non) := de_c pe_non fun _ _ => .non
theorem de_str {x j} : DE X (.Constant (.str x) j pos) (tdC (.str x)) := de_c pe_str fun _ _ => .str x
/-- a module's name, of a value that is always the same -/
theorem de_glob {x : Str} {d : D} {v : V} {u : Value} (hg : Gl X x) (hm : X.mg x = some u) (r : RelV v u) (rep : ∀ S H, RepD X.K S H d v) (hd : (x == ("__debug__" : Str)) = false := by decide) : DE X (.Name x pos) (tdC d) := de_c (pe_glob hg hm r hd) rep
theorem de_bltn {x : Str} {n : String} (hg : Gl X x) (hm : X.mg x = none) (hv : bootBuiltins x = some (.type n)) (hn : x ≠ "__name__" := by decide) (hd : (x == ("__debug__" : Str)) = false := by decide) : DE X (.Name x pos) (tdC (.ty n)) := de_c (pe_bltn (v := .ty n) hg hm hv rfl hn hd) fun _ _ => .ty n

/-! ### operators -/
structure DOp (X : Cx) (f : Value → Value → Sem Value) (rd : D → D → Sto → QD → Prop) : Prop where
  mono : ∀ x y S (Q Q' : QD), (∀ d s, Q d s → Q' d s) → rd x y S Q → rd x y S Q'
  run : OpR X f fun vx vy H Q => ∃ S x y, RepS X.K S H ∧ RepD X.K S H x vx ∧ RepD X.K S H y vy ∧ rd x y S (up X.K S H Q)
def tdOp (rd : D → D → Sto → QD → Prop) (ta tb : TED) : TED := fun env S Q => ta env S fun x S1 => tb env S1 fun y S2 => rd x y S2 Q
variable {a b c : Expr} {ta tb tc : TED} {rd rd' : D → D → Sto → QD → Prop}
theorem tdOp_mono (ho : ∀ x y S (Q Q' : QD), (∀ d s, Q d s → Q' d s) → rd x y S Q → rd x y S Q') (ha : DE X a ta) (hb : DE X b tb) : ∀ env S (Q Q' : QD), (∀ d s, Q d s → Q' d s) → tdOp rd ta tb env S Q → tdOp rd ta tb env S Q' :=
  fun env S Q Q' h q => ha.mono _ _ _ _ (fun x s q => hb.mono _ _ _ _ (fun y s q => ho x y s Q Q' h q) q) q
/-- both operands, then what is done with them -/
theorem lift2 (ha : DE X a ta) (hb : DE X b tb) {σ : L2.St} {H : Hp} {Q : VK} {f : V → V → Hp → VK → Prop} (ho : ∀ x y S (Q Q' : QD), (∀ d s, Q d s → Q' d s) → rd x y S Q → rd x y S Q')
    (hf : ∀ vx vy H Q, (∃ S x y, RepS X.K S H ∧ RepD X.K S H x vx ∧ RepD X.K S H y vy ∧ rd x y S (up X.K S H Q)) → f vx vy H Q) (q : liftE X.K (tdOp rd ta tb) σ H Q) :
    liftE X.K ta σ H fun vx H1 => liftE X.K tb σ H1 fun vy H2 => f vx vy H2 Q := by
  obtain ⟨env, S, he, hs, q⟩ := q
  refine ⟨env, S, he, hs, ha.mono _ _ _ _ (fun x S1 q1 v1 H1 r1 s1 e1 => ?_) q⟩
  refine ⟨env, S1, he.ext e1, s1, hb.mono _ _ _ _ (fun y S2 q2 v2 H2 r2 s2 e2 => ?_) q1⟩
  refine hf v1 v2 H2 Q ⟨S2, x, y, s2, r1.ext e2, r2, ho x y S2 _ _ (fun d s h => ?_) q2⟩
  exact up_ext (e1.trans e2) h
theorem de_op {op : Operator} (ho : DOp X (binaryOp op) rd) (ha : DE X a ta) (hb : DE X b tb) : DE X (.BinOp a op b pos) (tdOp rd ta tb) where
  mono := tdOp_mono ho.mono ha hb
  run := pe_imp (pe_op ho.run ha.run hb.run) fun σ H Q q => lift2 ha hb ho.mono (fun _ _ _ _ h => h) q
theorem de_cmp {op : CmpOp} (ho : DOp X (compareOp op) rd) (ha : DE X a ta) (hb : DE X b tb) (hm : behindInMarks op b = false) : DE X (.Compare a [op] [b] pos) (tdOp rd ta tb) where
  mono := tdOp_mono ho.mono ha hb
  run := pe_imp (pe_cmpR ho.run ha.run hb.run hm) fun σ H Q q => lift2 ha hb ho.mono (fun _ _ _ _ h => h) q
/-- what an answer of True or False comes to -/
def qb (Q : Bool → Sto → Prop) : QD := fun d S => match d with
  | .bl k => Q k S
  | _ => False
theorem qb_mono {Q Q' : Bool → Sto → Prop} (h : ∀ b s, Q b s → Q' b s) : ∀ d s, qb Q d s → qb Q' d s := fun d s q => by
  unfold qb at q ⊢
  split at q
  · exact h _ _ q
  · exact q.elim
def tdB (t : TED) : TTD := fun env S Q => t env S (qb Q)
theorem tdB_mono {t : TED} (hm : ∀ env S (Q Q' : QD), (∀ d s, Q d s → Q' d s) → t env S Q → t env S Q') : ∀ env S (Q Q' : Bool → Sto → Prop), (∀ d s, Q d s → Q' d s) → tdB t env S Q → tdB t env S Q' :=
  fun env S Q Q' h q => hm env S _ _ (qb_mono h) q
theorem qb_rep {K : PySem.W.Frag} {S : Sto} {H : Hp} {d : D} {v : V} {Q : Bool → Sto → Prop} (q : qb Q d S) (r : RepD K S H d v) : ∃ k, v = .bl k ∧ Q k S := by
  unfold qb at q
  split at q
  · cases r; exact ⟨_, rfl, q⟩
  · exact q.elim
theorem dt_val {e : Expr} {t : TED} (h : DE X e t) (he : ∀ whole, isTrue e X.env whole = (do let v ← whole; standAt e.pos; holding [v] (truthy v)) := by intro _; rfl) : DT X e (tdB t) where
  mono := tdB_mono h.mono
  run := pt_imp (pt_val h.run he) fun σ H Q ⟨env, S, he, hs, q⟩ =>
    ⟨env, S, he, hs, h.mono _ _ _ _ (fun d S' q v H' r s e => let ⟨k, e1, q1⟩ := qb_rep q r; ⟨k, e1, q1 H' s e⟩) q⟩
theorem dt_cmp {op : CmpOp} (ho : DOp X (compareOp op) rd) (ha : DE X a ta) (hb : DE X b tb) (hm : behindInMarks op b = false) : DT X (.Compare a [op] [b] pos) (tdB (tdOp rd ta tb)) where
  mono := tdB_mono (tdOp_mono ho.mono ha hb)
  run := pt_imp (pt_cmpR ho.run ha.run hb.run hm) fun σ H Q ⟨env, S, he, hs, q⟩ => by
    refine lift2 ha hb ho.mono (fun _ _ _ _ h => h) ⟨env, S, he, hs, tdOp_mono ho.mono ha hb _ _ _ _ (fun d S' q v H' r s e => ?_) q⟩
    obtain ⟨k, e1, q1⟩ := qb_rep q r
    exact ⟨k, e1, q1 H' s e⟩
/-- a < b < c -/
def tdChain (rd rd' : D → D → Sto → QD → Prop) (ta tb tc : TED) : TED := fun env S Q => ta env S fun x S1 => tb env S1 fun y S2 => rd x y S2 (qb fun k S3 => if k = true then tc env S3 fun z S4 => rd' y z S4 Q else Q (.bl false) S3)
theorem tdChain_mono (ho : ∀ x y S (Q Q' : QD), (∀ d s, Q d s → Q' d s) → rd x y S Q → rd x y S Q') (ho' : ∀ x y S (Q Q' : QD), (∀ d s, Q d s → Q' d s) → rd' x y S Q → rd' x y S Q') (ha : DE X a ta) (hb : DE X b tb) (hc : DE X c tc) :
    ∀ env S (Q Q' : QD), (∀ d s, Q d s → Q' d s) → tdChain rd rd' ta tb tc env S Q → tdChain rd rd' ta tb tc env S Q' := fun env S Q Q' h q => by
  refine ha.mono _ _ _ _ (fun x s q => hb.mono _ _ _ _ (fun y s q => ho x y s _ _ (qb_mono fun k s q => ?_) q) q) q
  cases k with
  | true => rw [if_pos rfl] at q ⊢; exact hc.mono _ _ _ _ (fun z s q => ho' y z s _ _ h q) q
  | false => rw [if_neg Bool.false_ne_true] at q ⊢; exact h _ _ q
theorem lift3 (ha : DE X a ta) (hb : DE X b tb) (hc : DE X c tc) {op op' : CmpOp} (ho : DOp X (compareOp op) rd) (ho' : DOp X (compareOp op') rd') {σ : L2.St} {H : Hp} {Q : VK} (q : liftE X.K (tdChain rd rd' ta tb tc) σ H Q) :
    tChain (fun vx vy H Q => ∃ S x y, RepS X.K S H ∧ RepD X.K S H x vx ∧ RepD X.K S H y vy ∧ rd x y S (up X.K S H Q)) (fun vx vy H Q => ∃ S x y, RepS X.K S H ∧ RepD X.K S H x vx ∧ RepD X.K S H y vy ∧ rd' x y S (up X.K S H Q)) (liftE X.K ta) (liftE X.K tb) (liftE X.K tc) σ H Q := by
  obtain ⟨env, S, he, hs, q⟩ := q
  refine ⟨env, S, he, hs, ha.mono _ _ _ _ (fun x S1 q1 v1 H1 r1 s1 e1 => ?_) q⟩
  refine ⟨env, S1, he.ext e1, s1, hb.mono _ _ _ _ (fun y S2 q2 v2 H2 r2 s2 e2 => ?_) q1⟩
  refine ⟨S2, x, y, s2, r1.ext e2, r2, ho.mono x y S2 _ _ (fun d S3 q3 v3 H3 r3 s3 e3 => ?_) q2⟩
  obtain ⟨k, rfl, q3⟩ := qb_rep q3 r3
  refine ⟨k, rfl, ?_⟩
  cases k with
  | true =>
    rw [if_pos rfl] at q3 ⊢
    have e13 := (e1.trans e2).trans e3
    refine ⟨env, S3, he.ext e13, s3, hc.mono _ _ _ _ (fun z S4 q4 v4 H4 r4 s4 e4 => ?_) q3⟩
    exact ⟨S4, y, z, s4, (r2.ext e3).ext e4, r4, ho'.mono y z S4 _ _ (fun d s h => up_ext (e13.trans e4) h) q4⟩
  | false =>
    rw [if_neg Bool.false_ne_true] at q3 ⊢
    exact q3 _ _ (.bl false) s3 ((e1.trans e2).trans e3)
theorem de_chain {op op' : CmpOp} (ho : DOp X (compareOp op) rd) (ho' : DOp X (compareOp op') rd') (ha : DE X a ta) (hb : DE X b tb) (hc : DE X c tc) (hm : lastMarks [op, op'] [b, c] = false := by with_unfolding_all rfl) :
    DE X (.Compare a [op, op'] [b, c] pos) (tdChain rd rd' ta tb tc) where
  mono := tdChain_mono ho.mono ho'.mono ha hb hc
  run := pe_imp (pe_chain ho.run ho'.run ha.run hb.run hc.run hm) fun σ H Q q => lift3 ha hb hc ho ho' q
theorem dt_chain {op op' : CmpOp} (ho : DOp X (compareOp op) rd) (ho' : DOp X (compareOp op') rd') (ha : DE X a ta) (hb : DE X b tb) (hc : DE X c tc) (hm : lastMarks [op, op'] [b, c] = false := by with_unfolding_all rfl) :
    DT X (.Compare a [op, op'] [b, c] pos) (tdB (tdChain rd rd' ta tb tc)) where
  mono := tdB_mono (tdChain_mono ho.mono ho'.mono ha hb hc)
  run := pt_imp (pt_chain ho.run ho'.run ha.run hb.run hc.run hm) fun σ H Q ⟨env, S, he, hs, q⟩ => by
    refine lift3 ha hb hc ho ho' ⟨env, S, he, hs, tdChain_mono ho.mono ho'.mono ha hb hc _ _ _ _ (fun d S' q v H' r s e => ?_) q⟩
    obtain ⟨k, e1, q1⟩ := qb_rep q r
    exact ⟨k, e1, q1 H' s e⟩

/-! ### one operand -/
structure DUn (X : Cx) (f : Value → Sem Value) (rd : D → Sto → QD → Prop) : Prop where
  mono : ∀ x S (Q Q' : QD), (∀ d s, Q d s → Q' d s) → rd x S Q → rd x S Q'
  run : UnR X f fun vx H Q => ∃ S x, RepS X.K S H ∧ RepD X.K S H x vx ∧ rd x S (up X.K S H Q)
def tdUn (rd : D → Sto → QD → Prop) (ta : TED) : TED := fun env S Q => ta env S fun x S1 => rd x S1 Q
theorem de_un {op : UnaryOp} {rd : D → Sto → QD → Prop} (ho : DUn X (unaryOp op) rd) (ha : DE X a ta) : DE X (.UnaryOp op a pos) (tdUn rd ta) where
  mono := fun env S Q Q' h q => ha.mono _ _ _ _ (fun x s q => ho.mono x s Q Q' h q) q
  run := pe_imp (pe_un ho.run ha.run) fun σ H Q ⟨env, S, he, hs, q⟩ =>
    ⟨env, S, he, hs, ha.mono _ _ _ _ (fun x S1 q1 v1 H1 r1 s1 e1 => ⟨S1, x, s1, r1, ho.mono x S1 _ _ (fun d s h => up_ext e1 h) q1⟩) q⟩
def rdNeg : D → Sto → QD → Prop := fun x S Q => match x with
  | .int i => Q (.int (-i)) S
  | _ => False
theorem dun_neg : DUn X (unaryOp .USub) rdNeg where
  mono := fun x S Q Q' h q => by
    unfold rdNeg at q ⊢
    split at q
    · exact h _ _ q
    · exact q.elim
  run := fun pins s σ H vx v Q I rx ⟨S, x, hs, r, q⟩ => by
    unfold rdNeg at q
    split at q
    · cases r
      exact un_neg pins s σ H _ v Q I rx ⟨_, rfl, q _ _ (.int _) hs Ext.refl⟩
    · exact q.elim

/-! ### and, or, not, if -/
variable {tA tB tC' : TTD} {rest : List Expr}
def tdAnd (t u : TTD) : TTD := fun env S Q => t env S fun k S1 => if k = true then u env S1 Q else Q false S1
def tdOr (t u : TTD) : TTD := fun env S Q => t env S fun k S1 => if k = true then Q true S1 else u env S1 Q
def tdNot (t : TTD) : TTD := fun env S Q => t env S fun k S1 => Q (!k) S1
structure DW (X : Cx) (e : Expr) (t : TTD) : Prop where
  mono : ∀ env S (Q Q' : Bool → Sto → Prop), (∀ d s, Q d s → Q' d s) → t env S Q → t env S Q'
  run : PW X e (liftT X.K t)
theorem pw_imp {e : Expr} {t t' : TT} (h : PW X e t) (i : ∀ σ H Q, t' σ H Q → t σ H Q) : PW X e t' := ⟨fun w pins s σ H Q I q => h.run w pins s σ H Q I (i σ H Q q)⟩
theorem DW.dt {e : Expr} {t : TTD} (h : DW X e t) : DT X e t := ⟨h.mono, h.run.pt⟩
theorem dw_and1 (ha : DT X a tA) : DW X (.BoolOp .And [a] pos) tA := ⟨ha.mono, pw_and1 ha.run⟩
theorem dw_or1 (ha : DT X a tA) : DW X (.BoolOp .Or [a] pos) tA := ⟨ha.mono, pw_or1 ha.run⟩
theorem dw_and (ha : DT X a tA) (hb : DW X (.BoolOp .And (b :: rest) pos) tB) : DW X (.BoolOp .And (a :: b :: rest) pos) (tdAnd tA tB) where
  mono := fun env S Q Q' h q => ha.mono _ _ _ _ (fun k s q => by
    cases k with
    | true => rw [if_pos rfl] at q ⊢; exact hb.mono _ _ _ _ h q
    | false => rw [if_neg Bool.false_ne_true] at q ⊢; exact h _ _ q) q
  run := pw_imp (pw_and ha.run hb.run) fun σ H Q ⟨env, S, he, hs, q⟩ => ⟨env, S, he, hs, ha.mono _ _ _ _ (fun k S1 q1 H1 s1 e1 => by
    cases k with
    | true =>
      rw [if_pos rfl] at q1 ⊢
      exact ⟨env, S1, he.ext e1, s1, hb.mono _ _ _ _ (fun b s q H2 s2 e2 => q H2 s2 (e1.trans e2)) q1⟩
    | false => rw [if_neg Bool.false_ne_true] at q1 ⊢; exact q1 H1 s1 e1) q⟩
theorem dw_or (ha : DT X a tA) (hb : DW X (.BoolOp .Or (b :: rest) pos) tB) : DW X (.BoolOp .Or (a :: b :: rest) pos) (tdOr tA tB) where
  mono := fun env S Q Q' h q => ha.mono _ _ _ _ (fun k s q => by
    cases k with
    | true => rw [if_pos rfl] at q ⊢; exact h _ _ q
    | false => rw [if_neg Bool.false_ne_true] at q ⊢; exact hb.mono _ _ _ _ h q) q
  run := pw_imp (pw_or ha.run hb.run) fun σ H Q ⟨env, S, he, hs, q⟩ => ⟨env, S, he, hs, ha.mono _ _ _ _ (fun k S1 q1 H1 s1 e1 => by
    cases k with
    | true => rw [if_pos rfl] at q1 ⊢; exact q1 H1 s1 e1
    | false =>
      rw [if_neg Bool.false_ne_true] at q1 ⊢
      exact ⟨env, S1, he.ext e1, s1, hb.mono _ _ _ _ (fun b s q H2 s2 e2 => q H2 s2 (e1.trans e2)) q1⟩) q⟩
theorem dt_not (ha : DT X a tA) : DT X (.UnaryOp .Not a pos) (tdNot tA) where
  mono := fun env S Q Q' h q => ha.mono _ _ _ _ (fun k s q => h _ _ q) q
  run := pt_imp (pt_not ha.run) fun σ H Q ⟨env, S, he, hs, q⟩ => ⟨env, S, he, hs, ha.mono _ _ _ _ (fun k S1 q1 H1 s1 e1 => q1 H1 s1 e1) q⟩
/-- .. as values: all but the last True or False -/
def tdAndV (t u : TED) : TED := fun env S Q => t env S (qb fun k S1 => if k = true then u env S1 Q else Q (.bl false) S1)
def tdOrV (t u : TED) : TED := fun env S Q => t env S (qb fun k S1 => if k = true then Q (.bl true) S1 else u env S1 Q)
theorem de_one {op} {t : TED} (h : DE X a t) : DE X (.BoolOp op [a] pos) t := ⟨h.mono, pe_one h.run⟩
theorem de_and (ha : DE X a ta) (hb : DE X (.BoolOp .And (b :: rest) pos) tb) : DE X (.BoolOp .And (a :: b :: rest) pos) (tdAndV ta tb) where
  mono := fun env S Q Q' h q => ha.mono _ _ _ _ (qb_mono fun k s q => by
    cases k with
    | true => rw [if_pos rfl] at q ⊢; exact hb.mono _ _ _ _ h q
    | false => rw [if_neg Bool.false_ne_true] at q ⊢; exact h _ _ q) q
  run := pe_imp (pe_and ha.run hb.run) fun σ H Q ⟨env, S, he, hs, q⟩ => ⟨env, S, he, hs, ha.mono _ _ _ _ (fun d S1 q1 v1 H1 r1 s1 e1 => by
    obtain ⟨k, rfl, q1⟩ := qb_rep q1 r1
    refine ⟨k, rfl, ?_⟩
    cases k with
    | true =>
      rw [if_pos rfl] at q1 ⊢
      exact ⟨env, S1, he.ext e1, s1, hb.mono _ _ _ _ (fun d s h => up_ext e1 h) q1⟩
    | false => rw [if_neg Bool.false_ne_true] at q1 ⊢; exact q1 _ H1 (.bl false) s1 e1) q⟩
theorem de_or (ha : DE X a ta) (hb : DE X (.BoolOp .Or (b :: rest) pos) tb) : DE X (.BoolOp .Or (a :: b :: rest) pos) (tdOrV ta tb) where
  mono := fun env S Q Q' h q => ha.mono _ _ _ _ (qb_mono fun k s q => by
    cases k with
    | true => rw [if_pos rfl] at q ⊢; exact h _ _ q
    | false => rw [if_neg Bool.false_ne_true] at q ⊢; exact hb.mono _ _ _ _ h q) q
  run := pe_imp (pe_or ha.run hb.run) fun σ H Q ⟨env, S, he, hs, q⟩ => ⟨env, S, he, hs, ha.mono _ _ _ _ (fun d S1 q1 v1 H1 r1 s1 e1 => by
    obtain ⟨k, rfl, q1⟩ := qb_rep q1 r1
    refine ⟨k, rfl, ?_⟩
    cases k with
    | true => rw [if_pos rfl] at q1 ⊢; exact q1 _ H1 (.bl true) s1 e1
    | false =>
      rw [if_neg Bool.false_ne_true] at q1 ⊢
      exact ⟨env, S1, he.ext e1, s1, hb.mono _ _ _ _ (fun d s h => up_ext e1 h) q1⟩) q⟩
def tdNotV (t : TED) : TED := fun env S Q => t env S (qb fun k S1 => Q (.bl (!k)) S1)
theorem de_not (ha : DE X a ta) : DE X (.UnaryOp .Not a pos) (tdNotV ta) where
  mono := fun env S Q Q' h q => ha.mono _ _ _ _ (qb_mono fun k s q => h _ _ q) q
  run := pe_imp (pe_not ha.run) fun σ H Q ⟨env, S, he, hs, q⟩ => ⟨env, S, he, hs, ha.mono _ _ _ _ (fun d S1 q1 v1 H1 r1 s1 e1 => by
    obtain ⟨k, rfl, q1⟩ := qb_rep q1 r1
    exact ⟨k, rfl, q1 _ H1 (.bl _) s1 e1⟩) q⟩
def tdIf (t : TTD) (ta tb : TED) : TED := fun env S Q => t env S fun k S1 => if k = true then ta env S1 Q else tb env S1 Q
theorem de_if (hc : DT X c tA) (ha : DE X a ta) (hb : DE X b tb) : DE X (.IfExp c a b pos) (tdIf tA ta tb) where
  mono := fun env S Q Q' h q => hc.mono _ _ _ _ (fun k s q => by
    cases k with
    | true => rw [if_pos rfl] at q ⊢; exact ha.mono _ _ _ _ h q
    | false => rw [if_neg Bool.false_ne_true] at q ⊢; exact hb.mono _ _ _ _ h q) q
  run := pe_imp (pe_ifExp hc.run ha.run hb.run) fun σ H Q ⟨env, S, he, hs, q⟩ => ⟨env, S, he, hs, hc.mono _ _ _ _ (fun k S1 q1 H1 s1 e1 => by
    cases k with
    | true =>
      rw [if_pos rfl] at q1 ⊢
      exact ⟨env, S1, he.ext e1, s1, ha.mono _ _ _ _ (fun d s h => up_ext e1 h) q1⟩
    | false =>
      rw [if_neg Bool.false_ne_true] at q1 ⊢
      exact ⟨env, S1, he.ext e1, s1, hb.mono _ _ _ _ (fun d s h => up_ext e1 h) q1⟩) q⟩

/-! ### argument lists, displays -/
def tdNil : TAD := fun _ S Q => Q [] S
def tdCons (ta : TED) (tr : TAD) : TAD := fun env S Q => ta env S fun x S1 => tr env S1 fun xs S2 => Q (x :: xs) S2
variable {e : Expr} {es : List Expr} {te : TED} {tr : TAD}
theorem da_nil : DA X [] tdNil where
  mono := fun env S Q Q' h q => h _ _ q
  run := pa_imp pa_nil fun σ H Q ⟨env, S, he, hs, q⟩ => q [] H .nil hs Ext.refl
theorem da_cons (ha : DE X e te) (hr : DA X es tr) (hs : starEach (e :: es) X.env = (false, eval e X.env) :: starEach es X.env := by rfl) : DA X (e :: es) (tdCons te tr) where
  mono := fun env S Q Q' h q => ha.mono _ _ _ _ (fun x s q => hr.mono _ _ _ _ (fun xs s q => h _ _ q) q) q
  run := pa_imp (pa_cons ha.run hr.run hs) fun σ H Q ⟨env, S, he, hs, q⟩ => ⟨env, S, he, hs, ha.mono _ _ _ _ (fun x S1 q1 v1 H1 r1 s1 e1 =>
    ⟨env, S1, he.ext e1, s1, hr.mono _ _ _ _ (fun xs S2 q2 vs H2 r2 s2 e2 => q2 (v1 :: vs) H2 (.cons (r1.ext e2) r2) s2 (e1.trans e2)) q1⟩) q⟩
def tdTup (t : TAD) : TED := fun env S Q => t env S fun ds S1 => ds.length ≤ sizeLine ∧ Q (.tup ds) S1
def tdLst (t : TAD) : TED := fun env S Q => t env S fun ds S1 => ds.length ≤ sizeLine ∧ Q (.lst ds) S1
/-- a list that will be changed -/
def tdLstR (t : TAD) : TED := fun env S Q => t env S fun ds S1 => ds.length ≤ sizeLine ∧ ∀ p, S1 p = none → Q (.ref p) (sup S1 p (.lst ds))
theorem rep_newT {K : PySem.W.Frag} {S : Sto} {H : Hp} {p : Addr} {ds : List D} {vs : List V} (r : RepDs K S H ds vs) (hs : RepS K S H) (n : H p = none) : RepD K S (upd H p (.tup vs)) (.tup ds) (.ref p) :=
  .tup (.inl ⟨hs.free n, .inl upd_same⟩) (r.ext (Ext.new n))
theorem rep_newL {K : PySem.W.Frag} {S : Sto} {H : Hp} {p : Addr} {ds : List D} {vs : List V} (r : RepDs K S H ds vs) (hs : RepS K S H) (n : H p = none) : RepD K S (upd H p (.lst vs)) (.lst ds) (.ref p) :=
  .lst (hs.free n) upd_same (r.ext (Ext.new n))
theorem de_tup {k} (h : DA X es tr) : DE X (.Tuple es k pos) (tdTup tr) where
  mono := fun env S Q Q' hq q => h.mono _ _ _ _ (fun ds s q => ⟨q.1, hq _ _ q.2⟩) q
  run := pe_imp (pe_tup h.run) fun σ H Q ⟨env, S, he, hs, q⟩ => ⟨env, S, he, hs, h.mono _ _ _ _ (fun ds S1 q1 vs H1 r1 s1 e1 =>
    ⟨by rw [← r1.len]; exact q1.1, fun p n => q1.2 _ _ (rep_newT r1 s1 n) (s1.new n) (e1.trans (Ext.new n))⟩) q⟩
theorem de_lst (h : DA X es tr) : DE X (.List es pos) (tdLst tr) where
  mono := fun env S Q Q' hq q => h.mono _ _ _ _ (fun ds s q => ⟨q.1, hq _ _ q.2⟩) q
  run := pe_imp (pe_lst h.run) fun σ H Q ⟨env, S, he, hs, q⟩ => ⟨env, S, he, hs, h.mono _ _ _ _ (fun ds S1 q1 vs H1 r1 s1 e1 =>
    ⟨by rw [← r1.len]; exact q1.1, fun p n => q1.2 _ _ (rep_newL r1 s1 n) (s1.new n) (e1.trans (Ext.new n))⟩) q⟩
theorem de_lstR (h : DA X es tr) : DE X (.List es pos) (tdLstR tr) where
  mono := fun env S Q Q' hq q => h.mono _ _ _ _ (fun ds s q => ⟨q.1, fun p n => hq _ _ (q.2 p n)⟩) q
  run := pe_imp (pe_lst h.run) fun σ H Q ⟨env, S, he, hs, q⟩ => ⟨env, S, he, hs, h.mono _ _ _ _ (fun ds S1 q1 vs H1 r1 s1 e1 =>
    ⟨by rw [← r1.len]; exact q1.1, fun p n => q1.2 p (s1.free n) _ _ (.ref p) (s1.newS n (.lst r1)) (e1.trans (Ext.newS n))⟩) q⟩
end
end PL

namespace PL
open PySem PySem.Spec PyProof.Rows L2

/-! ### data -/
mutual
def pyd : D → PyData
  | .non => .none
  | .bl b => .bool b
  | .int i => .int i
  | .str x => .str x
  | .tup ds => .tuple (pyds ds)
  | .lst ds => .list (pyds ds)
  | .ty _ => .none
  | .ref _ => .none
  | .dct _ _ => .none
  | .dtt _ _ => .none
  | .scr _ => .none
def pyds : List D → List PyData
  | [] => []
  | d :: r => pyd d :: pyds r
end
mutual
def isDt : D → Bool
  | .non => true
  | .bl _ => true
  | .int _ => true
  | .str _ => true
  | .tup ds => isDts ds
  | .lst ds => isDts ds
  | .ty _ => false
  | .ref _ => false
  | .dct _ _ => false
  | .dtt _ _ => false
  | .scr _ => false
def isDts : List D → Bool
  | [] => true
  | d :: r => isDt d && isDts r
end
section
variable {K : PySem.W.Frag} {S : Sto} {H : Hp}
mutual
theorem dp_of : ∀ {d : D} {v : V}, isDt d = true → RepD K S H d v → Dp K H v (pyd d)
  | .non, _, _, h => by cases h; exact .non
  | .bl b, _, _, h => by cases h; exact .bl b
  | .int i, _, _, h => by cases h; exact .int i
  | .str x, _, _, h => by cases h; exact .str x
  | .tup ds, _, e, h => by
    cases h with
    | tup h r => exact .tup h.sq (dps_of (by unfold isDt at e; exact e) r)
  | .lst ds, _, e, h => by
    cases h with
    | lst n h r => exact .lst (.inl (.inl h)) (dps_of (by unfold isDt at e; exact e) r)
  | .ty _, _, e, _ => by unfold isDt at e; cases e
  | .ref _, _, e, _ => by unfold isDt at e; cases e
  | .dct _ _, _, e, _ => by unfold isDt at e; cases e
  | .dtt _ _, _, e, _ => by unfold isDt at e; cases e
  | .scr _, _, e, _ => by unfold isDt at e; cases e
theorem dps_of : ∀ {ds : List D} {vs : List V}, isDts ds = true → RepDs K S H ds vs → DpAll K H vs (pyds ds)
  | [], _, _, h => by cases h; exact .nil
  | d :: r, _, e, h => by
    cases h with
    | cons h t =>
      unfold isDts at e
      have e2 := Bool.and_eq_true_iff.mp e
      exact .cons (dp_of e2.1 h) (dps_of e2.2 t)
end
end

/-- a list of the store is seen as what it holds -/
def res (S : Sto) : D → D
  | .ref a => match S a with
    | some (.lst ds) => .lst ds
    | _ => .ref a
  | d => d
def getL (S : Sto) : D → Option (List D)
  | .lst ds => some ds
  | .ref a => match S a with
    | some (.lst ds) => some ds
    | _ => none
  | _ => none
def getQ (S : Sto) : D → Option (List D)
  | .lst ds => some ds
  | .tup ds => some ds
  | .scr ds => some ds
  | .ref a => match S a with
    | some (.lst ds) => some ds
    | _ => none
  | _ => none
section
variable {K : PySem.W.Frag} {S : Sto} {H : Hp} {d : D} {v : V} {ds : List D}
theorem getL_rep (hs : RepS K S H) (r : RepD K S H d v) (e : getL S d = some ds) : ∃ a vs, v = .ref a ∧ H a = some (.lst vs) ∧ RepDs K S H ds vs := by
  unfold getL at e
  split at e
  · cases e
    cases r with
    | lst n h r => exact ⟨_, _, rfl, h, r⟩
  · split at e
    · cases e
      rename_i q
      obtain ⟨u, h1, h2⟩ := hs _ _ q
      cases h2 with
      | lst r2 => cases r; exact ⟨_, _, rfl, h1, r2⟩
    · cases e
  · cases e
theorem getQ_rep (hs : RepS K S H) (r : RepD K S H d v) (e : getQ S d = some ds) : ∃ a vs, v = .ref a ∧ (SqL K H a vs ∨ SqT K H a vs) ∧ RepDs K S H ds vs := by
  unfold getQ at e
  split at e
  · cases e
    cases r with
    | lst n h r => exact ⟨_, _, rfl, .inl (.inl (.inl h)), r⟩
  · cases e
    cases r with
    | tup h r => exact ⟨_, _, rfl, .inr h.sq, r⟩
  · cases e
    cases r with
    | scr h r => exact ⟨_, _, rfl, .inl h.sq, r⟩
  · split at e
    · cases e
      rename_i q
      obtain ⟨u, h1, h2⟩ := hs _ _ q
      cases h2 with
      | lst r2 => cases r; exact ⟨_, _, rfl, .inl (.inl (.inl h1)), r2⟩
    · cases e
  · cases e
/-- what is seen as data -/
theorem res_dp (hs : RepS K S H) (r : RepD K S H d v) (e : isDt (res S d) = true) : Dp K H v (pyd (res S d)) := by
  cases d with
  | ref a =>
    simp only [res] at e ⊢
    cases q : S a with
    | none => simp only [q] at e; unfold isDt at e; cases e
    | some o =>
      cases o with
      | lst ds =>
        simp only [q] at e ⊢
        obtain ⟨u, h1, h2⟩ := hs a _ q
        cases h2 with
        | lst r2 =>
          cases r
          unfold isDt at e
          unfold pyd
          exact .lst (.inl (.inl h1)) (dps_of e r2)
      | dct ks vs => simp only [q] at e; unfold isDt at e; cases e
      | dtt ks vs => simp only [q] at e; unfold isDt at e; cases e
      | ins C fs => simp only [q] at e; unfold isDt at e; cases e
  | non => exact dp_of e r
  | bl b => exact dp_of e r
  | int i => exact dp_of e r
  | str x => exact dp_of e r
  | ty n => exact dp_of e r
  | tup ds => exact dp_of e r
  | lst ds => exact dp_of e r
  | dct a b => exact dp_of e r
  | dtt a b => exact dp_of e r
  | scr a => exact dp_of e r
end

section
variable {X : Cx}

/-! ### operators whose answer is a value: a condition, the value -/
abbrev PR := Option (Prop × D)
def rdP (f : Sto → D → D → PR) : D → D → Sto → QD → Prop := fun x y S Q => match f S x y with
  | some p => p.1 ∧ Q p.2 S
  | none => False
theorem rdP_mono {f : Sto → D → D → PR} : ∀ x y S (Q Q' : QD), (∀ d s, Q d s → Q' d s) → rdP f x y S Q → rdP f x y S Q' := fun x y S Q Q' h q => by
  unfold rdP at q ⊢
  split at q
  · exact ⟨q.1, h _ _ q.2⟩
  · exact q.elim
theorem rdP_some {f : Sto → D → D → PR} {x y : D} {S : Sto} {Q : QD} (q : rdP f x y S Q) : ∃ c d, f S x y = some (c, d) ∧ c ∧ Q d S := by
  unfold rdP at q
  split at q
  · rename_i p e
    exact ⟨p.1, p.2, e, q.1, q.2⟩
  · exact q.elim
theorem dop_P {f : Value → Value → Sem Value} {g : Sto → D → D → PR} (h : ∀ (pins : List (Addr × Obj)) (s : Shared) (σ : L2.St) (H : Hp) (vx vy : V) (v u : Value) (Q : VK) (S : Sto) (x y : D) (c : Prop) (d : D),
    Inv X pins σ H s → RelV vx v → RelV vy u → RepS X.K S H → RepD X.K S H x vx → RepD X.K S H y vy → g S x y = some (c, d) → c → up X.K S H Q d S → wpAny (model X.prog X.w) X.A (f v u) (EP X pins σ Q) X.xe s) : DOp X f (rdP g) where
  mono := rdP_mono
  run := fun pins s σ H vx vy v u Q I rx ry ⟨S, x, y, hs, r1, r2, q⟩ => by
    obtain ⟨c, d, e, hc, q⟩ := rdP_some q
    exact h pins s σ H vx vy v u Q S x y c d I rx ry hs r1 r2 e hc q

/-! ### + - * // % ** -/
def intD (C : Int → Int → Prop) (g : Int → Int → D) : Sto → D → D → PR := fun _ x y => match x, y with
  | .int i, .int j => some (C i j, g i j)
  | _, _ => none
theorem dop_I {f : Value → Value → Sem Value} {C C' : Int → Int → Prop} {g : Int → Int → Int} {g' : Int → Int → Int} (h : OpR X f (rI C' fun i j => .int (g' i j))) (hc : ∀ i j, C i j → C' i j ∧ g i j = g' i j) : DOp X f (rdP (intD C fun i j => .int (g i j))) :=
  dop_P fun pins s σ H vx vy v u Q S x y c d I rx ry hs r1 r2 e hC q => by
    unfold intD at e
    split at e
    · cases e
      cases r1; cases r2
      rename_i i j
      obtain ⟨c, e⟩ := hc i j hC
      refine h pins s σ H _ _ v u Q I rx ry ⟨i, j, rfl, rfl, c, q _ _ ?_ hs Ext.refl⟩
      show RepD _ _ _ (.int (g i j)) (.int (g' i j))
      rw [e]
      exact .int _
    · cases e
theorem opI0' {f : Value → Value → Sem Value} {g : Int → Int → Int} (h : OpR X f (rI0 fun i j => .int (g i j))) : OpR X f (rI (fun _ _ => True) fun i j => .int (g i j)) :=
  fun pins s σ H vx vy v u Q I rx ry ⟨i, j, a, b, _, q⟩ => h pins s σ H vx vy v u Q I rx ry ⟨i, j, a, b, q⟩
theorem dop_sub : DOp X (binaryOp .Sub) (rdP (intD (fun _ _ => True) fun i j => .int (i - j))) := dop_I (opI0' op_sub) fun _ _ h => ⟨h, rfl⟩
def CFd (i j : Int) : Prop := (j ≠ 0 ∧ j.natAbs < 1073741824) ∨ (0 < j ∧ j.natAbs.log2 < 9000)
theorem dop_fdiv : DOp X (binaryOp .FloorDiv) (rdP (intD CFd fun i j => .int (i.fdiv j))) :=
  dop_P fun pins s σ H vx vy v u Q S x y c d I rx ry hs r1 r2 e hC q => by
    unfold intD at e
    split at e
    · cases e
      cases r1; cases r2
      rename_i i j
      rcases hC with c | c
      · exact op_fdivN pins s σ H _ _ v u Q I rx ry ⟨_, _, rfl, rfl, c, q _ _ (.int _) hs Ext.refl⟩
      · refine op_fdivW pins s σ H _ _ v u Q I rx ry ⟨i, j, rfl, rfl, c, q _ _ ?_ hs Ext.refl⟩
        show RepD _ _ _ (.int (i.fdiv j)) (.int (i / j))
        rw [Int.fdiv_eq_ediv_of_nonneg _ (Int.le_of_lt c.1)]
        exact .int _
    · cases e
theorem dop_mod : DOp X (binaryOp .Mod) (rdP (intD (fun _ j => j ≠ 0) fun i j => .int (i.fmod j))) := dop_I op_modN fun _ _ h => ⟨h, rfl⟩
theorem dop_pow : DOp X (binaryOp .Pow) (rdP (intD CPow fun i j => .int (i ^ j.toNat))) := dop_I op_pow fun _ _ h => ⟨h, rfl⟩

def addD : Sto → D → D → PR := fun S x y => match x, y with
  | .int i, .int j => some (True, .int (i + j))
  | .str a, .str b => some (a.length + b.length ≤ sizeLine, .str (a ++ b))
  | .tup xs, .tup ys => some (xs.length + ys.length ≤ sizeLine, .tup (xs ++ ys))
  | x, y => match getL S x, getL S y with
    | some xs, some ys => some (xs.length + ys.length ≤ sizeLine, .lst (xs ++ ys))
    | _, _ => none
theorem dop_add : DOp X (binaryOp .Add) (rdP addD) :=
  dop_P fun pins s σ H vx vy v u Q S x y c d I rx ry hs r1 r2 e hC q => by
    unfold addD at e
    split at e
    · cases e; cases r1; cases r2
      exact op_add pins s σ H _ _ v u Q I rx ry ⟨_, _, rfl, rfl, q _ _ (.int _) hs Ext.refl⟩
    · cases e; cases r1; cases r2
      exact op_add_str pins s σ H _ _ v u Q I rx ry ⟨_, _, rfl, rfl, hC, q _ _ (.str _) hs Ext.refl⟩
    · cases e
      cases r1 with
      | tup h1 q1 =>
        cases r2 with
        | tup h2 q2 =>
          refine op_catA pins s σ H _ _ v u Q I rx ry ⟨_, _, _, _, rfl, rfl, h1.sq, h2.sq, by rw [← q1.len, ← q2.len]; exact hC, fun e => ?_, fun _ e => ?_, fun _ _ p n => ?_⟩
          · subst e; cases q1
            exact q _ _ (.tup h2 q2) hs Ext.refl
          · subst e; cases q2
            rw [List.append_nil] at q
            exact q _ _ (.tup h1 q1) hs Ext.refl
          · exact q _ _ (rep_newT (q1.append q2) hs n) (hs.new n) (Ext.new n)
    · split at e
      · cases e
        rename_i e1 e2
        obtain ⟨a, vs, rfl, ha, q1⟩ := getL_rep hs r1 e1
        obtain ⟨b, us, rfl, hb, q2⟩ := getL_rep hs r2 e2
        exact op_cat pins s σ H _ _ v u Q I rx ry ⟨_, _, _, _, rfl, rfl, ha, hb, by rw [← q1.len, ← q2.len]; exact hC, fun p n => q _ _ (rep_newL (q1.append q2) hs n) (hs.new n) (Ext.new n)⟩
      · cases e
/-- list + list, a list that will be changed -/
def rdAddR : D → D → Sto → QD → Prop := fun x y S Q => match getL S x, getL S y with
    | some xs, some ys => xs.length + ys.length ≤ sizeLine ∧ ∀ p, S p = none → Q (.ref p) (sup S p (.lst (xs ++ ys)))
    | _, _ => False
theorem dop_addR : DOp X (binaryOp .Add) rdAddR where
  mono := fun x y S Q Q' h q => by
    unfold rdAddR at q ⊢
    split at q
    · rename_i e1 e2
      exact ⟨q.1, fun p n => h _ _ (q.2 p n)⟩
    · exact q.elim
  run := fun pins s σ H vx vy v u Q I rx ry ⟨S, x, y, hs, r1, r2, q⟩ => by
    unfold rdAddR at q
    split at q
    · rename_i e1 e2
      obtain ⟨a, vs, rfl, ha, q1⟩ := getL_rep hs r1 e1
      obtain ⟨b, us, rfl, hb, q2⟩ := getL_rep hs r2 e2
      exact op_cat pins s σ H _ _ v u Q I rx ry ⟨_, _, _, _, rfl, rfl, ha, hb, by rw [← q1.len, ← q2.len]; exact q.1, fun p n => q.2 p (hs.free n) _ _ (.ref p) (hs.newS n (.lst (q1.append q2))) (Ext.newS n)⟩
    · exact q.elim

theorem RepDs.rep {K : PySem.W.Frag} {S : Sto} {H : Hp} {ds : List D} {vs : List V} (r : RepDs K S H ds vs) : ∀ n : Nat, RepDs K S H (List.replicate n ds).flatten (List.replicate n vs).flatten
  | 0 => .nil
  | n + 1 => by
    rw [List.replicate_succ, List.replicate_succ, List.flatten_cons, List.flatten_cons]
    exact r.append (RepDs.rep r n)
def mulD : Sto → D → D → PR := fun _ x y => match x, y with
  | .int i, .int j => some (i.natAbs.log2 + j.natAbs.log2 < 1000000, .int (i * j))
  | .lst xs, .int k => some (-(2 ^ 63) ≤ k ∧ k < 2 ^ 63 ∧ xs.length * k.toNat ≤ sizeLine, .lst (List.replicate k.toNat xs).flatten)
  | .tup xs, .int k => some (xs ≠ [] ∧ 2 ≤ k ∧ k ≤ 1000 ∧ xs.length ≤ 1000, .tup (List.replicate k.toNat xs).flatten)
  | _, _ => none
theorem dop_mul : DOp X (binaryOp .Mult) (rdP mulD) :=
  dop_P fun pins s σ H vx vy v u Q S x y c d I rx ry hs r1 r2 e hC q => by
    unfold mulD at e
    split at e
    · cases e; cases r1; cases r2
      exact op_mulW pins s σ H _ _ v u Q I rx ry ⟨_, _, rfl, rfl, hC, q _ _ (.int _) hs Ext.refl⟩
    · cases e; cases r2
      cases r1 with
      | lst n h r =>
        exact op_rep pins s σ H _ _ v u Q I rx ry ⟨_, _, _, rfl, rfl, h, hC.1, hC.2.1, by rw [← r.len]; exact hC.2.2, fun p n => q _ _ (rep_newL (r.rep _) hs n) (hs.new n) (Ext.new n)⟩
    · cases e; cases r2
      cases r1 with
      | tup h r =>
        exact op_repT pins s σ H _ _ v u Q I rx ry ⟨_, _, _, rfl, rfl, h.sq, (fun e => by subst e; cases r; exact hC.1 rfl), hC.2.1, hC.2.2.1, by rw [← r.len]; exact hC.2.2.2, fun p n => q _ _ (rep_newT (r.rep _) hs n) (hs.new n) (Ext.new n)⟩
    · cases e

/-! ### comparisons -/
def slt (a b : Str) : Bool := decide (a.cps.toList < b.cps.toList)
def ordD (gi : Int → Int → Bool) (gs : Str → Str → Bool) : Sto → D → D → PR := fun _ x y => match x, y with
  | .int i, .int j => some (True, .bl (gi i j))
  | .str a, .str b => some (True, .bl (gs a b))
  | _, _ => none
theorem dop_ord {op : CmpOp} {gi : Int → Int → Bool} {gs : Str → Str → Bool} (h1 : OpR X (compareOp op) (rI0 fun i j => .bl (gi i j))) (h2 : OpR X (compareOp op) (fun x y H Q => ∃ i j, x = .str i ∧ y = .str j ∧ Q (.bl (gs i j)) H)) : DOp X (compareOp op) (rdP (ordD gi gs)) :=
  dop_P fun pins s σ H vx vy v u Q S x y c d I rx ry hs r1 r2 e hC q => by
    unfold ordD at e
    split at e
    · cases e; cases r1; cases r2
      exact h1 pins s σ H _ _ v u Q I rx ry ⟨_, _, rfl, rfl, q _ _ (.bl _) hs Ext.refl⟩
    · cases e; cases r1; cases r2
      exact h2 pins s σ H _ _ v u Q I rx ry ⟨_, _, rfl, rfl, q _ _ (.bl _) hs Ext.refl⟩
    · cases e
theorem dop_lt : DOp X (compareOp .Lt) (rdP (ordD (fun i j => decide (i < j)) slt)) := dop_ord op_lt op_lt_str
theorem dop_le : DOp X (compareOp .LtE) (rdP (ordD (fun i j => decide (i ≤ j)) fun a b => !slt b a)) := dop_ord op_le op_le_str
theorem dop_gt : DOp X (compareOp .Gt) (rdP (ordD (fun i j => decide (j < i)) fun a b => slt b a)) := dop_ord op_gt op_gt_str
theorem dop_ge : DOp X (compareOp .GtE) (rdP (ordD (fun i j => decide (j ≤ i)) fun a b => !slt a b)) := dop_ord op_ge op_ge_str

/-- data that can be compared -/
def okD (d : D) : Bool := isDt d && SeqAt.shaped (pyd d)
def eqD (x y : D) : Bool := PyData.eqv (pyd x) (pyd y)
def eqR (neg : Bool) : Sto → D → D → PR := fun S x y => some (okD (res S x) = true ∧ okD (res S y) = true, .bl (if neg then !eqD (res S x) (res S y) else eqD (res S x) (res S y)))
theorem dop_eq (hu : X.A.units + 200 < cLine) : DOp X (compareOp .Eq) (rdP (eqR false)) :=
  dop_P fun pins s σ H vx vy v u Q S x y c d I rx ry hs r1 r2 e hC q => by
    cases e
    have a1 := Bool.and_eq_true_iff.mp hC.1
    have a2 := Bool.and_eq_true_iff.mp hC.2
    exact op_eqD (by omega) pins s σ H _ _ v u Q I rx ry ⟨_, _, res_dp hs r1 a1.1, res_dp hs r2 a2.1, a1.2, a2.2, q _ _ (.bl _) hs Ext.refl⟩
theorem dop_ne (hu : X.A.units + 200 < cLine) : DOp X (compareOp .NotEq) (rdP (eqR true)) :=
  dop_P fun pins s σ H vx vy v u Q S x y c d I rx ry hs r1 r2 e hC q => by
    cases e
    have a1 := Bool.and_eq_true_iff.mp hC.1
    have a2 := Bool.and_eq_true_iff.mp hC.2
    exact op_neD (by omega) pins s σ H _ _ v u Q I rx ry ⟨_, _, res_dp hs r1 a1.1, res_dp hs r2 a2.1, a1.2, a2.2, q _ _ (.bl _) hs Ext.refl⟩
def isNon : D → Bool
  | .non => true
  | _ => false
def isNR (neg : Bool) : Sto → D → D → PR := fun _ x y => match y with
  | .non => some (True, .bl (if neg then !isNon x else isNon x))
  | .bl b => match x with
    | .bl a => some (True, .bl (if neg then !decide (a = b) else decide (a = b)))
    | _ => none
  | _ => none
theorem isNon_rep {K : PySem.W.Frag} {S : Sto} {H : Hp} {d : D} {v : V} (r : RepD K S H d v) : decide (v = .non) = isNon d := by
  cases r <;> simp [isNon]
theorem dop_isN : DOp X (compareOp .Is) (rdP (isNR false)) :=
  dop_P fun pins s σ H vx vy v u Q S x y c d I rx ry hs r1 r2 e hC q => by
    unfold isNR at e
    split at e
    · cases e; cases r2
      refine op_isN pins s σ H _ _ v u Q I rx ry ⟨rfl, ?_⟩
      rw [isNon_rep r1]
      exact q _ _ (.bl _) hs Ext.refl
    · split at e
      · cases e; cases r1; cases r2
        exact op_is_bl pins s σ H _ _ v u Q I rx ry ⟨_, _, rfl, rfl, q _ _ (.bl _) hs Ext.refl⟩
      · cases e
    · cases e
theorem dop_isntN : DOp X (compareOp .IsNot) (rdP (isNR true)) :=
  dop_P fun pins s σ H vx vy v u Q S x y c d I rx ry hs r1 r2 e hC q => by
    unfold isNR at e
    split at e
    · cases e; cases r2
      refine op_notN pins s σ H _ _ v u Q I rx ry ⟨rfl, ?_⟩
      rw [isNon_rep r1]
      exact q _ _ (.bl _) hs Ext.refl
    · split at e
      · cases e; cases r1; cases r2
        exact op_isnot_bl pins s σ H _ _ v u Q I rx ry ⟨_, _, rfl, rfl, q _ _ (.bl _) hs Ext.refl⟩
      · cases e
    · cases e

/-! ### in -/
def flD : D → Bool
  | .non => true
  | .bl _ => true
  | .int _ => true
  | .str _ => true
  | _ => false
def inD (x : D) (xs : List D) : Bool := xs.any fun y => eqD y x
theorem flat_rep {K : PySem.W.Frag} {S : Sto} {H : Hp} {d : D} {v : V} (r : RepD K S H d v) (f : flD d = true) : flatV v = true := by
  cases r <;> first | rfl | (simp [flD] at f)
theorem flats_rep {K : PySem.W.Frag} {S : Sto} {H : Hp} : ∀ {ds : List D} {vs : List V}, RepDs K S H ds vs → ds.all flD = true → vs.all flatV = true
  | _, _, .nil, _ => rfl
  | _, _, .cons h r, f => by
    rw [List.all_cons, Bool.and_eq_true_iff] at f
    rw [List.all_cons, flat_rep h f.1, flats_rep r f.2]
    rfl
theorem eqV_rep {K : PySem.W.Frag} {S : Sto} {H : Hp} {d e : D} {v u : V} (r : RepD K S H d v) (q : RepD K S H e u) (fd : flD d = true) (fe : flD e = true) : eqV v u = eqD d e := by
  cases r <;> first | (simp [flD] at fd; done) | (cases q <;> first | (simp [flD] at fe; done) | (unfold eqD; simp [eqV, pyd, PyData.eqv]))
theorem inV_rep {K : PySem.W.Frag} {S : Sto} {H : Hp} {d : D} {v : V} (r : RepD K S H d v) (fd : flD d = true) : ∀ {ds : List D} {vs : List V}, RepDs K S H ds vs → ds.all flD = true → inV v vs = inD d ds
  | _, _, .nil, _ => rfl
  | _, _, .cons h t, f => by
    rw [List.all_cons, Bool.and_eq_true_iff] at f
    have ih := inV_rep r fd t f.2
    unfold inV inD at ih ⊢
    rw [List.any_cons, List.any_cons, ih, eqV_rep h r f.1 fd]
def inR (neg : Bool) : Sto → D → D → PR := fun S x y => match x, y with
  | .str ⟨⟨[c]⟩⟩, .str z => some (True, .bl (if neg then !decide (c ∈ z.cps.toList) else decide (c ∈ z.cps.toList)))
  | x, .tup ds => some (flD x = true ∧ ds.all flD = true, .bl (if neg then !inD x ds else inD x ds))
  | x, y => match getL S y with
    | some ds => some (okD x = true ∧ okD (.lst ds) = true, .bl (if neg then !inD x ds else inD x ds))
    | none => none
theorem any_pyds (x : D) : ∀ ds : List D, ((pyds ds).any fun z => PyData.eqv z (pyd x)) = inD x ds
  | [] => rfl
  | d :: r => by
    unfold pyds
    have ih := any_pyds x r
    unfold inD eqD at ih ⊢
    rw [List.any_cons, List.any_cons, ih]
theorem dop_inG {op : CmpOp} {neg : Bool} (h1 : OpR X (compareOp op) (fun x y H Q => ∃ (c : Nat) (z : Str), x = .str ⟨#[c]⟩ ∧ y = .str z ∧ Q (.bl (if neg then !decide (c ∈ z.cps.toList) else decide (c ∈ z.cps.toList))) H))
    (h2 : OpR X (compareOp op) (rIn X.K neg)) (h3 : OpR X (compareOp op) fun x y H Q => ∃ d ds, Dp X.K H x d ∧ Dp X.K H y (.list ds) ∧ SeqAt.shaped d = true ∧ SeqAt.shaped (.list ds) = true ∧ Q (.bl (if neg then !ds.any fun z => PyData.eqv z d else ds.any fun z => PyData.eqv z d)) H) :
    DOp X (compareOp op) (rdP (inR neg)) :=
  dop_P fun pins s σ H vx vy v u Q S x y c d I rx ry hs r1 r2 e hC q => by
    unfold inR at e
    split at e
    · cases e; cases r1; cases r2
      exact h1 pins s σ H _ _ v u Q I rx ry ⟨_, _, rfl, rfl, q _ _ (.bl _) hs Ext.refl⟩
    · cases e
      cases r2 with
      | tup h r =>
        refine h2 pins s σ H _ _ v u Q I rx ry ⟨_, _, rfl, .inr h.sq, flat_rep r1 hC.1, flats_rep r hC.2, ?_⟩
        rw [inV_rep r1 hC.1 r hC.2]
        exact q _ _ (.bl _) hs Ext.refl
    · split at e
      · rename_i ds e1
        cases e
        obtain ⟨a, vs, rfl, ha, r⟩ := getL_rep hs r2 e1
        have a1 := Bool.and_eq_true_iff.mp hC.1
        have a2 := Bool.and_eq_true_iff.mp hC.2
        have hd : isDts ds = true := by have := a2.1; unfold isDt at this; exact this
        refine h3 pins s σ H _ _ v u Q I rx ry ⟨_, pyds ds, dp_of a1.1 r1, .lst (.inl (.inl ha)) (dps_of hd r), a1.2, by have := a2.2; unfold pyd at this; exact this, ?_⟩
        rw [any_pyds]
        exact q _ _ (.bl _) hs Ext.refl
      · cases e
theorem dop_in (hu : X.A.units + 200 < cLine) : DOp X (compareOp .In) (rdP (inR false)) :=
  dop_inG (neg := false) op_in_sign op_in_seq (op_inD (by omega))
theorem dop_notIn (hu : X.A.units + 200 < cLine) : DOp X (compareOp .NotIn) (rdP (inR true)) :=
  dop_inG (neg := true) op_notIn_sign op_notIn_seq (op_notInD (by omega))
end
end PL

namespace PL
open PySem PySem.Spec PyProof.Rows L2

section
variable {X : Cx} {pos : Pos} {a b e o : Expr} {es : List Expr} {ta tb te to : TED} {t : TAD}

/-! ### items -/
def ixD : Sto → D → D → PR := fun S x y => match y with
  | .int i => match getQ S x with
    | some ds => match atI ds i with
      | some d => some (True, d)
      | none => none
    | none => match x with
      | .str z => match atI z.cps.toList i with
        | some c => some (z.length ≤ sizeLine, .str ⟨#[c]⟩)
        | none => none
      | _ => none
  | _ => none
theorem RepDs.atI {K : PySem.W.Frag} {S : Sto} {H : Hp} {ds : List D} {vs : List V} {i : Int} {d : D} (r : RepDs K S H ds vs) (e : atI ds i = some d) : ∃ v, atI vs i = some v ∧ RepD K S H d v := by
  unfold L2.atI at e ⊢
  rw [← r.len]
  cases q : ixN ds.length i with
  | none => rw [q] at e; cases e
  | some j =>
    rw [q] at e
    exact r.get e
theorem dix : IxR X (fun vx vy H Q => ∃ S x y, RepS X.K S H ∧ RepD X.K S H x vx ∧ RepD X.K S H y vy ∧ rdP ixD x y S (up X.K S H Q)) := by
  intro value slice pins s σ H vx vy v u Q I rx ry h hsub
  obtain ⟨S, x, y, hs, r1, r2, q⟩ := h
  obtain ⟨c, d, e, hc, q1⟩ := rdP_some q
  unfold ixD at e
  split at e
  · cases r2
    split at e
    · rename_i ds eg
      split at e
      · rename_i d' ea
        cases e
        obtain ⟨p, vs, rfl, hq, r⟩ := getQ_rep hs r1 eg
        obtain ⟨w, ew, rw'⟩ := r.atI ea
        rcases hq with hq | hq
        · exact ix_list value slice pins s σ H _ _ v u Q I rx ry ⟨_, _, _, _, rfl, rfl, hq, ew, q1 _ _ rw' hs Ext.refl⟩ hsub
        · exact ix_tup value slice pins s σ H _ _ v u Q I rx ry ⟨_, _, _, _, rfl, rfl, hq, ew, q1 _ _ rw' hs Ext.refl⟩ hsub
      · cases e
    · split at e
      · split at e
        · rename_i ea
          cases e
          cases r1
          exact ix_str value slice pins s σ H _ _ v u Q I rx ry ⟨_, _, _, rfl, rfl, hc, ea, q1 _ _ (.str _) hs Ext.refl⟩ hsub
        · cases e
      · cases e
  · cases e
theorem de_ix (ha : DE X a ta) (hb : DE X b tb) (hs : PlainIx b) : DE X (.Subscript a b pos) (tdOp (rdP ixD) ta tb) where
  mono := tdOp_mono rdP_mono ha hb
  run := pe_imp (pe_ix dix ha.run hb.run hs) fun σ H Q q => lift2 ha hb rdP_mono (fun _ _ _ _ h => h) q

/-! ### slices -/
def cutD {α : Type} (xs : List α) (lo hi : Option Int) : List α := (xs.drop (HT.sIx xs.length 0 lo)).take (HT.sIx xs.length xs.length hi - HT.sIx xs.length 0 lo)
theorem RepDs.cut {K : PySem.W.Frag} {S : Sto} {H : Hp} {ds : List D} {vs : List V} (r : RepDs K S H ds vs) (lo hi : Option Int) : RepDs K S H (cutD ds lo hi) (cutV vs lo hi) := by
  unfold cutD cutV
  rw [← r.len]
  exact (r.drop _).take _
abbrev TOD := Env' → Sto → (Option Int → Sto → Prop) → Prop
structure DO (X : Cx) (e : Option Expr) (t : TOD) : Prop where
  mono : ∀ env S (Q Q' : Option Int → Sto → Prop), (∀ d s, Q d s → Q' d s) → t env S Q → t env S Q'
  run : PO X e (fun σ H Q => ∃ env S, RepEnv X.K S H env σ ∧ RepS X.K S H ∧ t env S fun o S' => ∀ H', RepS X.K S' H' → Ext S H S' H' → Q o H')
theorem po_imp {e : Option Expr} {t t' : TO} (h : PO X e t) (i : ∀ σ H Q, t' σ H Q → t σ H Q) : PO X e t' := ⟨fun pins s σ H Q I q => h.run pins s σ H Q I (i σ H Q q)⟩
def tdNoPart : TOD := fun _ S Q => Q none S
def tdPart (t : TED) : TOD := fun env S Q => t env S fun d S1 => match d with
  | .int i => Q (some i) S1
  | _ => False
theorem do_none : DO X none tdNoPart where
  mono := fun env S Q Q' h q => h _ _ q
  run := po_imp po_none fun σ H Q ⟨env, S, he, hs, q⟩ => q H hs Ext.refl
theorem do_some (h : DE X e te) : DO X (some e) (tdPart te) where
  mono := fun env S Q Q' hq q => h.mono _ _ _ _ (fun d s q => by
    split at q
    · exact hq _ _ q
    · exact q.elim) q
  run := po_imp (po_some h.run) fun σ H Q ⟨env, S, he, hs, q⟩ => ⟨env, S, he, hs, h.mono _ _ _ _ (fun d S1 q v H1 r1 s1 e1 => by
    split at q
    · cases r1; exact ⟨_, rfl, q H1 s1 e1⟩
    · exact q.elim) q⟩
def slD (lo hi : Option Int) : Sto → D → PR := fun S x => match x with
  | .tup ds => some (True, .tup (cutD ds lo hi))
  | .scr ds => some (True, .lst (cutD ds lo hi))
  | .str z => some (z.length ≤ sizeLine, .str (cutS z lo hi))
  | x => match getL S x with
    | some ds => some (True, .lst (cutD ds lo hi))
    | none => none
def onP (o : PR) (S : Sto) (Q : QD) : Prop := match o with
  | some p => p.1 ∧ Q p.2 S
  | none => False
theorem onP_mono {o : PR} {S : Sto} {Q Q' : QD} (h : ∀ d s, Q d s → Q' d s) (q : onP o S Q) : onP o S Q' := by
  unfold onP at q ⊢
  split at q
  · exact ⟨q.1, h _ _ q.2⟩
  · exact q.elim
def tdSl (te : TED) (tl th : TOD) : TED := fun env S Q => te env S fun x S1 => tl env S1 fun lo S2 => th env S2 fun hi S3 => onP (slD lo hi S3 x) S3 Q
theorem cut_whole {α : Type} {xs : List α} {lo hi : Option Int} (h : HT.sIx xs.length 0 lo = 0 ∧ HT.sIx xs.length xs.length hi = xs.length) : cutD xs lo hi = xs := by
  unfold cutD
  rw [h.1, h.2]
  simp
theorem dsl : SlR X (fun vx lo hi H Q => ∃ S x, RepS X.K S H ∧ RepD X.K S H x vx ∧ onP (slD lo hi S x) S (up X.K S H Q)) := by
  intro pins s σ H vx v vl vu lo hi sl Q I rx hsl pl pu h
  obtain ⟨S, x, hs, r1, q⟩ := h
  unfold onP at q
  split at q
  · rename_i p e
    obtain ⟨hc, q⟩ := q
    unfold slD at e
    split at e
    · cases e
      cases r1 with
      | tup h r =>
        refine sl_tupA pins s σ H _ v vl vu lo hi sl Q I rx hsl pl pu ⟨_, _, rfl, h.sq, fun hw => ?_, fun hw p n => q _ _ (rep_newT (r.cut lo hi) hs n) (hs.new n) (Ext.new n)⟩
        rw [← r.len] at hw
        have q2 : up X.K S H Q (.tup (cutD _ lo hi)) S := q
        rw [cut_whole hw] at q2
        exact q2 _ _ (.tup h r) hs Ext.refl
    · cases e
      cases r1 with
      | scr h r => exact sl_list pins s σ H _ v vl vu lo hi sl Q I rx hsl pl pu ⟨_, _, rfl, h.sq, fun p n => q _ _ (rep_newL (r.cut lo hi) hs n) (hs.new n) (Ext.new n)⟩
    · cases e
      cases r1
      exact sl_str pins s σ H _ v vl vu lo hi sl Q I rx hsl pl pu ⟨_, rfl, hc, q _ _ (.str _) hs Ext.refl⟩
    · split at e
      · rename_i ds eg
        cases e
        obtain ⟨p, vs, rfl, hq, r⟩ := getL_rep hs r1 eg
        exact sl_list pins s σ H _ v vl vu lo hi sl Q I rx hsl pl pu ⟨_, _, rfl, .inl (.inl hq), fun p n => q _ _ (rep_newL (r.cut lo hi) hs n) (hs.new n) (Ext.new n)⟩
      · cases e
  · exact q.elim
theorem de_slice {lo hi : Option Expr} {tl th : TOD} {p2 : Pos} (he : DE X e te) (hl : DO X lo tl) (hh : DO X hi th) : DE X (.Subscript e (.Slice lo hi none p2) pos) (tdSl te tl th) where
  mono := fun env S Q Q' h q => he.mono _ _ _ _ (fun x s q => hl.mono _ _ _ _ (fun l s q => hh.mono _ _ _ _ (fun u s q => onP_mono h q) q) q) q
  run := pe_imp (pe_slice dsl he.run hl.run hh.run) fun σ H Q ⟨env, S, hev, hs, q⟩ => ⟨env, S, hev, hs, he.mono _ _ _ _ (fun x S1 q1 v1 H1 r1 s1 e1 =>
    ⟨env, S1, hev.ext e1, s1, hl.mono _ _ _ _ (fun l S2 q2 H2 s2 e2 => ⟨env, S2, hev.ext (e1.trans e2), s2, hh.mono _ _ _ _ (fun u S3 q3 H3 s3 e3 =>
      ⟨S3, x, s3, r1.ext (e2.trans e3), onP_mono (fun d s h => up_ext ((e1.trans e2).trans e3) h) q3⟩) q2⟩) q1⟩) q⟩

/-! ### calls of what is built in -/
structure DCal (X : Cx) (f : Value) (rd : List D → Sto → QD → Prop) : Prop where
  mono : ∀ ds S (Q Q' : QD), (∀ d s, Q d s → Q' d s) → rd ds S Q → rd ds S Q'
  run : CallR X f fun vs H Q => ∃ S ds, RepS X.K S H ∧ RepDs X.K S H ds vs ∧ rd ds S (up X.K S H Q)
def tdCB (rd : List D → Sto → QD → Prop) (t : TAD) : TED := fun env S Q => t env S fun ds S1 => rd ds S1 Q
theorem tdCB_mono {rd : List D → Sto → QD → Prop} (hm : ∀ ds S (Q Q' : QD), (∀ d s, Q d s → Q' d s) → rd ds S Q → rd ds S Q') (ha : DA X es t) : ∀ env S (Q Q' : QD), (∀ d s, Q d s → Q' d s) → tdCB rd t env S Q → tdCB rd t env S Q' :=
  fun env S Q Q' h q => ha.mono _ _ _ _ (fun ds s q => hm ds s Q Q' h q) q
theorem liftCB {rd : List D → Sto → QD → Prop} (hm : ∀ ds S (Q Q' : QD), (∀ d s, Q d s → Q' d s) → rd ds S Q → rd ds S Q') (ha : DA X es t) {σ : L2.St} {H : Hp} {Q : VK} (q : liftE X.K (tdCB rd t) σ H Q) :
    tCB (fun vs H Q => ∃ S ds, RepS X.K S H ∧ RepDs X.K S H ds vs ∧ rd ds S (up X.K S H Q)) (liftA X.K t) σ H Q := by
  obtain ⟨env, S, he, hs, q⟩ := q
  exact ⟨env, S, he, hs, ha.mono _ _ _ _ (fun ds S1 q1 vs H1 r1 s1 e1 => ⟨S1, ds, s1, r1, hm ds S1 _ _ (fun d s h => up_ext e1 h) q1⟩) q⟩
theorem de_callB {id : String} {x : Str} {p : Pos} {rd : List D → Sto → QD → Prop} (hc : DCal X (.builtin id) rd) (hg : Gl X x) (hm : X.mg x = none) (hv : bootBuiltins x = some (.builtin id)) (ha : DA X (e :: es) t) (hn : x ≠ "__name__" := by decide) (hdb : (x == ("__debug__" : Str)) = false := by decide)
    (he : starEach (e :: es) X.env = (false, eval e X.env) :: starEach es X.env := by rfl) (hpl : (backTo pos (starEach es X.env)).any (·.1) = false := by rfl) : DE X (.Call (.Name x p) (e :: es) [] pos) (tdCB rd t) where
  mono := tdCB_mono hc.mono ha
  run := pe_imp (pe_callB hc.run hg hm hv ha.run hn hdb he hpl) fun σ H Q q => liftCB hc.mono ha q
theorem de_callTy {T : String} {x : Str} {p : Pos} {rd : List D → Sto → QD → Prop} (hc : DCal X (.type T) rd) (hg : Gl X x) (hm : X.mg x = none) (hv : bootBuiltins x = some (.type T)) (ha : DA X (e :: es) t) (hn : x ≠ "__name__" := by decide) (hdb : (x == ("__debug__" : Str)) = false := by decide)
    (he : starEach (e :: es) X.env = (false, eval e X.env) :: starEach es X.env := by rfl) (hpl : (backTo pos (starEach es X.env)).any (·.1) = false := by rfl) : DE X (.Call (.Name x p) (e :: es) [] pos) (tdCB rd t) where
  mono := tdCB_mono hc.mono ha
  run := pe_imp (pe_callTy hc.run hg hm hv ha.run hn hdb he hpl) fun σ H Q q => liftCB hc.mono ha q
def rdC (f : Sto → List D → PR) : List D → Sto → QD → Prop := fun ds S Q => match f S ds with
  | some p => p.1 ∧ Q p.2 S
  | none => False
theorem rdC_mono {f : Sto → List D → PR} : ∀ ds S (Q Q' : QD), (∀ d s, Q d s → Q' d s) → rdC f ds S Q → rdC f ds S Q' := fun ds S Q Q' h q => by
  unfold rdC at q ⊢
  split at q
  · exact ⟨q.1, h _ _ q.2⟩
  · exact q.elim
theorem dcal_P {f : Value} {g : Sto → List D → PR} (h : ∀ (pins : List (Addr × Obj)) (s : Shared) (σ : L2.St) (H : Hp) (vs : List V) (us : List Value) (Q : VK) (S : Sto) (ds : List D) (c : Prop) (d : D),
    Inv X pins σ H s → Vals vs us → RepS X.K S H → RepDs X.K S H ds vs → g S ds = some (c, d) → c → up X.K S H Q d S → wpAny (model X.prog X.w) X.A (call f us) (EP X pins σ Q) X.xe s) : DCal X f (rdC g) where
  mono := rdC_mono
  run := fun pins s σ H vs us Q I rv ⟨S, ds, hs, r, q⟩ => by
    unfold rdC at q
    split at q
    · rename_i p e
      exact h pins s σ H vs us Q S ds p.1 p.2 I rv hs r e q.1 q.2
    · exact q.elim
def lenD : Sto → List D → PR := fun S ds => match ds with
  | [x] => match getQ S x with
    | some xs => some (True, .int xs.length)
    | none => match x with
      | .str z => some (z.length ≤ sizeLine, .int z.length)
      | _ => none
  | _ => none
theorem RepDs.one_inv {K : PySem.W.Frag} {S : Sto} {H : Hp} {d : D} {vs : List V} (r : RepDs K S H [d] vs) : ∃ v, vs = [v] ∧ RepD K S H d v := by
  cases r with
  | cons h t => cases t; exact ⟨_, rfl, h⟩
theorem RepDs.two_inv {K : PySem.W.Frag} {S : Sto} {H : Hp} {d e : D} {vs : List V} (r : RepDs K S H [d, e] vs) : ∃ v u, vs = [v, u] ∧ RepD K S H d v ∧ RepD K S H e u := by
  cases r with
  | cons h t =>
    obtain ⟨u, rfl, h2⟩ := t.one_inv
    exact ⟨_, _, rfl, h, h2⟩
theorem dcal_len : DCal X (.builtin "len") (rdC lenD) := dcal_P fun pins s σ H vs us Q S ds c d I rv hs r e hC q => by
  unfold lenD at e
  split at e
  · obtain ⟨v, rfl, r1⟩ := r.one_inv
    split at e
    · rename_i xs eg
      cases e
      obtain ⟨p, ws, rfl, hq, r2⟩ := getQ_rep hs r1 eg
      refine call_len_seq pins s σ H _ us Q I rv ⟨_, _, rfl, hq, ?_⟩
      rw [← r2.len]
      exact q _ _ (.int _) hs Ext.refl
    · split at e
      · cases e; cases r1
        exact call_len_str pins s σ H _ us Q I rv ⟨_, rfl, hC, q _ _ (.int _) hs Ext.refl⟩
      · cases e
  · cases e
def asB : List D → Option (List Bool)
  | [] => some []
  | .bl b :: r => (asB r).map (b :: ·)
  | _ :: _ => none
def asI : List D → Option (List Int)
  | [] => some []
  | .int i :: r => (asI r).map (i :: ·)
  | _ :: _ => none
theorem asB_rep {K : PySem.W.Frag} {S : Sto} {H : Hp} : ∀ {ds : List D} {vs : List V} {bs : List Bool}, RepDs K S H ds vs → asB ds = some bs → vs = bs.map V.bl
  | _, _, _, .nil, e => by cases e; rfl
  | _, _, _, .cons h t, e => by
    unfold asB at e
    split at e
    · rename_i q; cases q
    · rename_i q; cases q
      rw [Option.map_eq_some_iff] at e
      obtain ⟨bs, e1, rfl⟩ := e
      cases h
      rw [asB_rep t e1]; rfl
    · cases e
theorem asI_rep {K : PySem.W.Frag} {S : Sto} {H : Hp} : ∀ {ds : List D} {vs : List V} {bs : List Int}, RepDs K S H ds vs → asI ds = some bs → vs = bs.map V.int
  | _, _, _, .nil, e => by cases e; rfl
  | _, _, _, .cons h t, e => by
    unfold asI at e
    split at e
    · rename_i q; cases q
    · rename_i q; cases q
      rw [Option.map_eq_some_iff] at e
      obtain ⟨bs, e1, rfl⟩ := e
      cases h
      rw [asI_rep t e1]; rfl
    · cases e
def qntD (g : List Bool → Bool) : Sto → List D → PR := fun S ds => match ds with
  | [x] => match (getL S x).bind asB with
    | some bs => some (True, .bl (g bs))
    | none => none
  | _ => none
theorem dcal_all (hc : X.calm = true) : DCal X (.builtin "all") (rdC (qntD fun bs => bs.all id)) := dcal_P fun pins s σ H vs us Q S ds c d I rv hs r e hC q => by
  unfold qntD at e
  split at e
  · obtain ⟨v, rfl, r1⟩ := r.one_inv
    split at e
    · rename_i bs eb
      cases e
      rw [Option.bind_eq_some_iff] at eb
      obtain ⟨xs, e1, e2⟩ := eb
      obtain ⟨p, ws, rfl, hq, r2⟩ := getL_rep hs r1 e1
      obtain rfl := asB_rep r2 e2
      exact cr_all hc pins s σ H _ us Q I rv ⟨_, _, rfl, .inl (.inl hq), q _ _ (.bl _) hs Ext.refl⟩
    · cases e
  · cases e
theorem dcal_any (hc : X.calm = true) : DCal X (.builtin "any") (rdC (qntD fun bs => bs.any id)) := dcal_P fun pins s σ H vs us Q S ds c d I rv hs r e hC q => by
  unfold qntD at e
  split at e
  · obtain ⟨v, rfl, r1⟩ := r.one_inv
    split at e
    · rename_i bs eb
      cases e
      rw [Option.bind_eq_some_iff] at eb
      obtain ⟨xs, e1, e2⟩ := eb
      obtain ⟨p, ws, rfl, hq, r2⟩ := getL_rep hs r1 e1
      obtain rfl := asB_rep r2 e2
      exact cr_any hc pins s σ H _ us Q I rv ⟨_, _, rfl, .inl (.inl hq), q _ _ (.bl _) hs Ext.refl⟩
    · cases e
  · cases e
def sumD : Sto → List D → PR := fun S ds => match ds with
  | [x] => match (getL S x).bind asI with
    | some ns => some (True, .int ns.sum)
    | none => none
  | _ => none
theorem dcal_sum (hc : X.calm = true) : DCal X (.builtin "sum") (rdC sumD) := dcal_P fun pins s σ H vs us Q S ds c d I rv hs r e hC q => by
  unfold sumD at e
  split at e
  · obtain ⟨v, rfl, r1⟩ := r.one_inv
    split at e
    · rename_i bs eb
      cases e
      rw [Option.bind_eq_some_iff] at eb
      obtain ⟨xs, e1, e2⟩ := eb
      obtain ⟨p, ws, rfl, hq, r2⟩ := getL_rep hs r1 e1
      obtain rfl := asI_rep r2 e2
      exact cr_sum hc pins s σ H _ us Q I rv ⟨_, _, rfl, .inl (.inl hq), q _ _ (.int _) hs Ext.refl⟩
    · cases e
  · cases e
def tupleD : Sto → List D → PR := fun S ds => match ds with
  | [.tup xs] => some (True, .tup xs)
  | [x] => match getL S x with
    | some xs => some (True, .tup xs)
    | none => none
  | _ => none
theorem dcal_tuple : DCal X (.type "tuple") (rdC tupleD) := dcal_P fun pins s σ H vs us Q S ds c d I rv hs r e hC q => by
  unfold tupleD at e
  split at e
  · cases e
    obtain ⟨v, rfl, r1⟩ := r.one_inv
    cases r1 with
    | tup h r2 => exact call_tuple_of pins s σ H _ us Q I rv ⟨_, _, rfl, .inr ⟨h.sq, q _ _ (.tup h r2) hs Ext.refl⟩⟩
  · obtain ⟨v, rfl, r1⟩ := r.one_inv
    split at e
    · rename_i xs eg
      cases e
      obtain ⟨p, ws, rfl, hq, r2⟩ := getL_rep hs r1 eg
      exact call_tuple_of pins s σ H _ us Q I rv ⟨_, _, rfl, .inl ⟨.inl (.inl hq), fun l n => q _ _ (rep_newT r2 hs n) (hs.new n) (Ext.new n)⟩⟩
    · cases e
  · cases e
def listD : Sto → List D → PR := fun S ds => match ds with
  | [x] => match getQ S x with
    | some xs => some (True, .lst xs)
    | none => none
  | _ => none
theorem dcal_list : DCal X (.type "list") (rdC listD) := dcal_P fun pins s σ H vs us Q S ds c d I rv hs r e hC q => by
  unfold listD at e
  split at e
  · obtain ⟨v, rfl, r1⟩ := r.one_inv
    split at e
    · rename_i xs eg
      cases e
      obtain ⟨p, ws, rfl, hq, r2⟩ := getQ_rep hs r1 eg
      exact call_list_of pins s σ H _ us Q I rv ⟨_, _, rfl, hq, fun l n => q _ _ (rep_newL r2 hs n) (hs.new n) (Ext.new n)⟩
    · cases e
  · cases e
/-- list(..), a list that will be changed -/
def rdListR : List D → Sto → QD → Prop := fun ds S Q => match ds with
  | [x] => match getQ S x with
    | some xs => ∀ p, S p = none → Q (.ref p) (sup S p (.lst xs))
    | none => False
  | _ => False
theorem dcal_listR : DCal X (.type "list") rdListR where
  mono := fun ds S Q Q' h q => by
    unfold rdListR at q ⊢
    split at q
    · split at q
      · exact fun p n => h _ _ (q p n)
      · exact q.elim
    · exact q.elim
  run := fun pins s σ H vs us Q I rv ⟨S, ds, hs, r, q⟩ => by
    unfold rdListR at q
    split at q
    · obtain ⟨v, rfl, r1⟩ := r.one_inv
      split at q
      · rename_i xs eg
        obtain ⟨p, ws, rfl, hq, r2⟩ := getQ_rep hs r1 eg
        exact call_list_of pins s σ H _ us Q I rv ⟨_, _, rfl, hq, fun l n => q l (hs.free n) _ _ (.ref l) (hs.newS n (.lst r2)) (Ext.newS n)⟩
      · exact q.elim
    · exact q.elim
def intD1 : Sto → List D → PR := fun S ds => match ds with
  | [.int i] => some (True, .int i)
  | [.bl b] => some (True, .int (if b then 1 else 0))
  | _ => none
theorem dcal_int : DCal X (.type "int") (rdC intD1) := dcal_P fun pins s σ H vs us Q S ds c d I rv hs r e hC q => by
  unfold intD1 at e
  split at e
  · cases e
    obtain ⟨v, rfl, r1⟩ := r.one_inv
    cases r1
    exact call_int1 pins s σ H _ us Q I rv (.inl ⟨_, rfl, q _ _ (.int _) hs Ext.refl⟩)
  · cases e
    obtain ⟨v, rfl, r1⟩ := r.one_inv
    cases r1
    exact call_int1 pins s σ H _ us Q I rv (.inr ⟨_, rfl, q _ _ (.int _) hs Ext.refl⟩)
  · cases e
def strD1 : Sto → List D → PR := fun S ds => match ds with
  | [.int i] => some (i.natAbs.log2 < 1920, .str (toString i))
  | [.str x] => some (True, .str x)
  | _ => none
theorem dcal_str : DCal X (.type "str") (rdC strD1) := dcal_P fun pins s σ H vs us Q S ds c d I rv hs r e hC q => by
  unfold strD1 at e
  split at e
  · cases e
    obtain ⟨v, rfl, r1⟩ := r.one_inv
    cases r1
    exact call_str_int pins s σ H _ us Q I rv ⟨_, rfl, hC, q _ _ (.str _) hs Ext.refl⟩
  · cases e
    obtain ⟨v, rfl, r1⟩ := r.one_inv
    cases r1
    exact SkE.call_str_str pins s σ H _ us Q I rv ⟨_, rfl, q _ _ (.str _) hs Ext.refl⟩
  · cases e
def ordD1 : Sto → List D → PR := fun S ds => match ds with
  | [.str x] => some (x.length = 1, .int (x.cps.getD 0 0 : Nat))
  | _ => none
theorem dcal_ord : DCal X (.builtin "ord") (rdC ordD1) := dcal_P fun pins s σ H vs us Q S ds c d I rv hs r e hC q => by
  unfold ordD1 at e
  split at e
  · cases e
    obtain ⟨v, rfl, r1⟩ := r.one_inv
    cases r1
    exact call_ord pins s σ H _ us Q I rv ⟨_, rfl, hC, q _ _ (.int _) hs Ext.refl⟩
  · cases e
/-- repr of data -/
def reprOk (d : D) : Prop := isDt d = true ∧ (pyd d).showable = true ∧ (pyd d).hasDict = false ∧ (pyd d).shown.length ≤ sizeLine ∧ (pyd d).depth ≤ 100
def reprR : Sto → List D → PR := fun S ds => match ds with
  | [x] => some (reprOk (res S x), .str (pyd (res S x)).shown)
  | _ => none
theorem dp_ref {K : PySem.W.Frag} {H : Hp} {a : Addr} {d : PyData} (h : Dp K H (.ref a) d) : (∃ xs, d = .list xs) ∨ ∃ xs, d = .tuple xs := by
  cases h with
  | lst h r => exact .inl ⟨_, rfl⟩
  | tup h r => exact .inr ⟨_, rfl⟩
theorem dcal_repr (hg : X.A.guards = some []) (hu : X.A.units + 200 < cLine) : DCal X (.builtin "repr") (rdC reprR) := dcal_P fun pins s σ H vs us Q S ds c d I rv hs r e hC q => by
  unfold reprR at e
  split at e
  · cases e
    obtain ⟨v, rfl, r1⟩ := r.one_inv
    obtain ⟨h1, h2, h3, h4, h5⟩ := hC
    have hd := res_dp hs r1 h1
    obtain ⟨u, rfl, ru⟩ := vals1 rv
    have fin : ∀ (h' : Heap) (tk : Nat) (t : Tok), (∀ b o, s.heap.get? b = some o → h'.get? b = some o) → EP X pins σ Q (.str (pyd (res S _)).shown t) { s with heap := h', toks := tk } := fun h' tk t hk =>
      ⟨.str _, H, I.kept (t' := tk) hk, ⟨_, rfl⟩, q _ _ (.str _) hs Ext.refl⟩
    generalize res S _ = x at hd h1 h2 h3 h4 h5 fin
    generalize pyd x = y at hd h2 h3 h4 h5 fin
    cases hd with
    | non => cases ru; exact PySem.P.repr_of_none (fin s.heap _ _ fun _ _ e => e)
    | bl b => cases ru; exact PySem.P.repr_of_bool (fin s.heap _ _ fun _ _ e => e)
    | int i => obtain ⟨t, rfl⟩ := ru; exact PySem.P.repr_of_int (by simpa [PyData.showable] using h2) (fin s.heap _ _ fun _ _ e => e)
    | str z => obtain ⟨t, rfl⟩ := ru; exact PySem.P.repr_of_str (fin s.heap _ _ fun _ _ e => e) (by simpa only [PyData.shown] using h4)
    | lst h r3 =>
      obtain rfl : u = Value.ref _ := ru
      obtain ⟨as, hr⟩ := Dp.reads I _ _ _ (.lst h r3) rfl
      exact repr_of_reads' hr h2 (PyData.noDict_hsm h3) hg (by omega) (fun _ _ e => e) (fun h' u tk hk => fin h' tk u hk) h4
    | tup h r3 =>
      obtain rfl : u = Value.ref _ := ru
      obtain ⟨as, hr⟩ := Dp.reads I _ _ _ (.tup h r3) rfl
      exact repr_of_reads' hr h2 (PyData.noDict_hsm h3) hg (by omega) (fun _ _ e => e) (fun h' u tk hk => fin h' tk u hk) h4
  · cases e

/-! ### isinstance of a class that is built in -/
def typD (S : Sto) : D → Option String
  | .non => some "NoneType"
  | .bl _ => some "bool"
  | .int _ => some "int"
  | .str _ => some "str"
  | .tup _ => some "tuple"
  | .lst _ => some "list"
  | .dct _ _ => some "dict"
  | .dtt _ _ => some "dict"
  | .ref a => match S a with
    | some (.lst _) => some "list"
    | some (.dct _ _) => some "dict"
    | some (.dtt _ _) => some "dict"
    | _ => none
  | _ => none
def isaB (a b : String) : Bool := a == b || (a == "bool" && b == "int")
theorem kit_isa : ∀ a ∈ ["NoneType", "bool", "int", "str", "tuple", "list", "dict"], ∀ b ∈ ["NoneType", "bool", "int", "str", "tuple", "list", "dict"], kitB a b = some (isaB a b) := by decide +kernel
theorem typ_rep {K : PySem.W.Frag} {S : Sto} {H : Hp} {d : D} {v : V} {t : String} (hs : RepS K S H) (r : RepD K S H d v) (e : typD S d = some t) : TyX K H v (.type t) ∧ t ∈ ["NoneType", "bool", "int", "str", "tuple", "list", "dict"] := by
  cases r with
  | non => cases e; exact ⟨.base .non, by decide⟩
  | bl b => cases e; exact ⟨.base (.bl b), by decide⟩
  | int i => cases e; exact ⟨.base (.int i), by decide⟩
  | str x => cases e; exact ⟨.base (.str x), by decide⟩
  | ty n => cases e
  | ref a =>
    unfold typD at e
    cases q : S a with
    | none => simp only [q] at e; cases e
    | some o =>
      obtain ⟨u, h1, h2⟩ := hs a o q
      cases h2 with
      | lst r => simp only [q] at e; cases e; exact ⟨.base (.lst h1), by decide⟩
      | dK l k r => simp only [q] at e; cases e; exact ⟨.base (.dK h1), by decide⟩
      | dT l k r => simp only [q] at e; cases e; exact ⟨.base (.dT h1), by decide⟩
      | ins r => simp only [q] at e; cases e
  | tup h r =>
    cases e
    refine ⟨?_, by decide⟩
    rcases h with ⟨_, h | ⟨o, h⟩⟩ | ⟨o, its, n, h1, h2, h3⟩
    · exact .base (.tup h)
    · exact .fTuple h
    · exact .kTuple h1 h2
  | lst n h r => cases e; exact ⟨.base (.lst h), by decide⟩
  | scr h r => cases e
  | dctK n h l k r => cases e; exact ⟨.base (.dK h), by decide⟩
  | dctT n h l k r => cases e; exact ⟨.base (.dT h), by decide⟩
def isiD : Sto → List D → PR := fun S ds => match ds with
  | [x, .ty n] => match typD S x with
    | some t => some (n ∈ ["NoneType", "bool", "int", "str", "tuple", "list", "dict"], .bl (isaB t n))
    | none => none
  | _ => none
theorem dcal_isi : DCal X (.builtin "isinstance") (rdC isiD) := dcal_P fun pins s σ H vs us Q S ds c d I rv hs r e hC q => by
  unfold isiD at e
  split at e
  · split at e
    · rename_i t et
      cases e
      obtain ⟨v, u, rfl, r1, r2⟩ := r.two_inv
      cases r2
      obtain ⟨h1, h2⟩ := typ_rep hs r1 et
      exact call_isi pins s σ H _ us Q I rv ⟨_, _, _, _, _, rfl, .ty _, h1, kit_ty (kit_isa _ h2 _ hC), q _ _ (.bl _) hs Ext.refl⟩
    · cases e
  · cases e
end
end PL

namespace PL
open PySem PySem.Spec PyProof.Rows L2

/-! ### targets: a name, a tuple of targets -/
mutual
inductive TPat where
  | nm (i : Nat)
  | tp (l : TPats)
inductive TPats where
  | nil
  | cons (p : TPat) (l : TPats)
end
def TPats.len : TPats → Nat
  | .nil => 0
  | .cons _ l => l.len + 1
mutual
def bindD : TPat → D → Env' → Option Env'
  | .nm i, d, env => some (env.set i (some d))
  | .tp l, d, env => match d with
    | .tup ds => bindDs l ds env
    | _ => none
def bindDs : TPats → List D → Env' → Option Env'
  | .nil, ds, env => match ds with
    | [] => some env
    | _ => none
  | .cons p l, ds, env => match ds with
    | [] => none
    | d :: r => match bindD p d env with
      | some env' => bindDs l r env'
      | none => none
end
mutual
def gOf (K : PySem.W.Frag) : TPat → TG
  | .nm i => gName i
  | .tp l => gTup K l.len (gsOf K l)
def gsOf (K : PySem.W.Frag) : TPats → TGs
  | .nil => gNil
  | .cons p l => gCons (gOf K p) (gsOf K l)
end
mutual
def slots : TPat → List Nat
  | .nm i => [i]
  | .tp l => slotsS l
def slotsS : TPats → List Nat
  | .nil => []
  | .cons p l => slots p ++ slotsS l
end
/-- two frames that are the same but at some places -/
def SameOut (vs : List Nat) (σ σ' : L2.St) : Prop := σ'.length = σ.length ∧ ∀ j, j ∉ vs → σ'[j]? = σ[j]?
theorem SameOut.refl {vs : List Nat} {σ : L2.St} : SameOut vs σ σ := ⟨rfl, fun _ _ => rfl⟩
theorem SameOut.trans {vs ws : List Nat} {σ σ1 σ2 : L2.St} (a : SameOut vs σ σ1) (b : SameOut ws σ1 σ2) : SameOut (vs ++ ws) σ σ2 :=
  ⟨b.1.trans a.1, fun j hj => by
    rw [List.mem_append, not_or] at hj
    exact (b.2 j hj.2).trans (a.2 j hj.1)⟩
theorem bindDs_len {env env' : Env'} : ∀ {l : TPats} {ds : List D} {env : Env'}, bindDs l ds env = some env' → ds.length = l.len
  | .nil, ds, env, e => by
    unfold bindDs at e
    split at e
    · rfl
    · cases e
  | .cons p l, ds, env, e => by
    unfold bindDs at e
    split at e
    · cases e
    · split at e
      · rw [List.length_cons, bindDs_len (env := env) e]; rfl
      · cases e
section
variable {K : PySem.W.Frag} {S : Sto} {H : Hp}
mutual
theorem bind_ok : ∀ (p : TPat) {d : D} {env env' : Env'} {v : V} {σ : L2.St} {Q : L2.St → Hp → Prop}, bindD p d env = some env' → RepD K S H d v → RepEnv K S H env σ → (∀ σ', RepEnv K S H env' σ' → SameOut (slots p) σ σ' → Q σ' H) → gOf K p v σ H Q
  | .nm i, d, env, env', v, σ, Q, e, r, he, q => by
    unfold bindD at e
    cases e
    unfold gOf
    refine q _ (he.set r) ⟨by simp, fun j hj => ?_⟩
    unfold slots at hj
    rw [List.getElem?_set_ne (fun e => hj (by simp [e]))]
  | .tp l, d, env, env', v, σ, Q, e, r, he, q => by
    unfold bindD at e
    split at e
    · cases r with
      | tup h r =>
        unfold gOf
        refine ⟨_, _, rfl, h.sq, by rw [← r.len]; exact bindDs_len (env := env) e, ?_⟩
        exact binds_ok l e r he fun σ' h1 h2 => q σ' h1 (by unfold slots; exact h2)
    · cases e
theorem binds_ok : ∀ (l : TPats) {ds : List D} {env env' : Env'} {vs : List V} {σ : L2.St} {Q : L2.St → Hp → Prop}, bindDs l ds env = some env' → RepDs K S H ds vs → RepEnv K S H env σ → (∀ σ', RepEnv K S H env' σ' → SameOut (slotsS l) σ σ' → Q σ' H) → gsOf K l vs σ H Q
  | .nil, ds, env, env', vs, σ, Q, e, r, he, q => by
    unfold bindDs at e
    split at e
    · cases e
      cases r
      unfold gsOf
      exact ⟨rfl, q _ he .refl⟩
    · cases e
  | .cons p l, ds, env, env', vs, σ, Q, e, r, he, q => by
    unfold bindDs at e
    split at e
    · cases e
    · split at e
      · rename_i d ds' env1 e1
        cases r with
        | cons h t =>
          unfold gsOf
          refine ⟨_, _, rfl, bind_ok p e1 h he fun σ1 h1 s1 => binds_ok l e t h1 fun σ2 h2 s2 => q σ2 h2 ?_⟩
          unfold slotsS
          exact s1.trans s2
      · cases e
end
end
theorem wipe_get (σ : L2.St) (j : Nat) : ∀ vs : List Nat, (wipe σ vs)[j]? = if j ∈ vs then (σ[j]?).map (fun _ => none) else σ[j]?
  | [] => by simp [wipe]
  | v :: vs => by
    unfold wipe
    rw [List.getElem?_set, wipe_length, wipe_get σ j vs]
    by_cases h : v = j
    · subst h
      rw [if_pos rfl, if_pos (List.mem_cons_self)]
      split
      · rename_i hl; rw [List.getElem?_eq_getElem hl]; rfl
      · rename_i hl; rw [List.getElem?_eq_none (by omega)]; rfl
    · rw [if_neg h]
      by_cases h2 : j ∈ vs
      · rw [if_pos h2, if_pos (List.mem_cons_of_mem _ h2)]
      · rw [if_neg h2, if_neg (by rw [List.mem_cons, not_or]; exact ⟨fun e => h e.symm, h2⟩)]
theorem wipe_same {σ σ' : L2.St} {vs ws : List Nat} (h : SameOut vs σ σ') (hs : ∀ j ∈ vs, j ∈ ws) : wipe σ' ws = wipe σ ws := by
  apply List.ext_getElem?
  intro j
  rw [wipe_get, wipe_get]
  by_cases hj : j ∈ ws
  · rw [if_pos hj, if_pos hj]
    by_cases hl : j < σ.length
    · rw [List.getElem?_eq_getElem hl, List.getElem?_eq_getElem (by rw [h.1]; exact hl)]; rfl
    · have h1 := h.1
      rw [List.getElem?_eq_none (l := σ') (by omega), List.getElem?_eq_none (l := σ) (by omega)]
  · rw [if_neg hj, if_neg hj]
    exact h.2 j fun e => hj (hs j e)
theorem wipe_idem (σ : L2.St) (vs : List Nat) : wipe (wipe σ vs) vs = wipe σ vs := by
  apply List.ext_getElem?
  intro j
  rw [wipe_get, wipe_get]
  by_cases hj : j ∈ vs
  · rw [if_pos hj, if_pos hj]
    cases σ[j]? <;> rfl
  · rw [if_neg hj, if_neg hj]
def wipeD (env : Env') : List Nat → Env'
  | [] => env
  | v :: vs => (wipeD env vs).set v none
theorem RepEnv.wipe {K : PySem.W.Frag} {S : Sto} {H : Hp} {env : Env'} {σ : L2.St} (h : RepEnv K S H env σ) : ∀ vs : List Nat, RepEnv K S H (wipeD env vs) (L2.wipe σ vs)
  | [] => h
  | v :: vs => by
    unfold wipeD L2.wipe
    exact (RepEnv.wipe h vs).forget

section
variable {X : Cx} {pos : Pos}
structure DP (X : Cx) (tg : Expr) (p : TPat) : Prop where
  run : PG X tg (gOf X.K p)
structure DPs (X : Cx) (tg : List Expr) (p : TPats) : Prop where
  run : PGs X tg (gsOf X.K p)
theorem dp_name {i : Nat} {x : Str} (hN : X.N.Nodup) (hi : X.N[i]? = some x) (hx : Loc X.env.scope x) (hf : X.fn x = true ∨ X.env.scope.names.lookup x = some .local := by first | exact .inl rfl | exact .inr rfl | assumption) : DP X (.Name x pos) (.nm i) :=
  ⟨by have h := pg_name (pos := pos) hN hi hx hf; unfold gOf; exact h⟩
theorem dps_nil : DPs X [] .nil := ⟨by have h := pgs_nil (X := X); unfold gsOf; exact h⟩
theorem dps_cons {e : Expr} {es : List Expr} {p : TPat} {l : TPats} (h1 : DP X e p) (h2 : DPs X es l)
    (hs : (assignEach (e :: es) X.env).map (·.2) = assign e X.env :: (assignEach es X.env).map (·.2) := by rfl) : DPs X (e :: es) (.cons p l) :=
  ⟨by have h := pgs_cons h1.run h2.run hs; unfold gsOf; exact h⟩
theorem dp_tup {es : List Expr} {k : Nat} {l : TPats} (hc : X.calm = true) (h : DPs X es l) (hn : (assignEach es X.env).length = l.len := by rfl) (hst : (assignEach es X.env).findIdx? (·.1) = none := by rfl) : DP X (.Tuple es k pos) (.tp l) :=
  ⟨by have h := pg_tup (pos := pos) (k := k) hc h.run hn hst; unfold gOf; exact h⟩

/-! ### statements -/
variable {e c o i : Expr} {te to ti : TED} {st : Stmt} {rest body : List Stmt} {t u : TSD} {tc : TTD}
def tdNext : TSD := fun De env S => De.nx env S
def tdSeq (t u : TSD) : TSD := fun De env S => t { De with nx := u De } env S
theorem dss_nil : DSs X [] tdNext where
  mono := fun De De' env S h q => h.nx _ _ q
  run := pss_imp pss_nil fun D σ H ⟨env, S, he, hs, De, eu, q⟩ => eu.nx env S σ H he hs Ext.refl q
theorem tdSeq_mono (m1 : ∀ De De' env S, EndsD.Le De De' → t De env S → t De' env S) (m2 : ∀ De De' env S, EndsD.Le De De' → u De env S → u De' env S) : ∀ De De' env S, EndsD.Le De De' → tdSeq t u De env S → tdSeq t u De' env S :=
  fun De De' env S h q => m1 { De with nx := u De } { De' with nx := u De' } _ _ ⟨fun e s q => m2 _ _ _ _ h q, h.rt, h.bk, h.ct⟩ q
theorem dss_cons (h1 : DS X st t) (h2 : DSs X rest u) : DSs X (st :: rest) (tdSeq t u) where
  mono := tdSeq_mono h1.mono h2.mono
  run := pss_imp (pss_cons h1.run h2.run) fun D σ H ⟨env, S, he, hs, De, eu, q⟩ =>
    ⟨env, S, he, hs, { De with nx := u De }, ⟨fun env1 S1 σ1 H1 he1 hs1 e1 q1 => ⟨env1, S1, he1, hs1, De, eu.ext e1, q1⟩, eu.rt, eu.bk, eu.ct⟩, q⟩
theorem dss_one (h1 : DS X st t) : DSs X [st] t := ⟨h1.mono, pss_one h1.run⟩
theorem ds_pass : DS X (.Pass pos) tdNext where
  mono := fun De De' env S h q => h.nx _ _ q
  run := ps_imp ps_pass fun D σ H ⟨env, S, he, hs, De, eu, q⟩ => eu.nx env S σ H he hs Ext.refl q
def tdBreak : TSD := fun De env S => De.bk env S
def tdCont : TSD := fun De env S => De.ct env S
theorem ds_break : DS X (.Break pos) tdBreak where
  mono := fun De De' env S h q => h.bk _ _ q
  run := ps_imp ps_break fun D σ H ⟨env, S, he, hs, De, eu, q⟩ => eu.bk env S σ H he hs Ext.refl q
theorem ds_continue : DS X (.Continue pos) tdCont where
  mono := fun De De' env S h q => h.ct _ _ q
  run := ps_imp ps_continue fun D σ H ⟨env, S, he, hs, De, eu, q⟩ => eu.ct env S σ H he hs Ext.refl q
def tdDrop (te : TED) : TSD := fun De env S => te env S fun _ S1 => De.nx env S1
theorem ds_expr (he : DE X e te) (hs : swapsWith e none pos.line X.env = pure false := by rfl) : DS X (.Expr e pos) (tdDrop te) where
  mono := fun De De' env S h q => he.mono _ _ _ _ (fun d s q => h.nx _ _ q) q
  run := ps_imp (ps_expr he.run hs) fun D σ H ⟨env, S, hev, hst, De, eu, q⟩ => ⟨env, S, hev, hst, he.mono _ _ _ _ (fun d S1 q v H1 r s1 e1 => eu.nx env S1 σ H1 (hev.ext e1) s1 e1 q) q⟩
def tdRet (te : TED) : TSD := fun De env S => te env S De.rt
theorem ds_ret (he : DE X e te) : DS X (.Return (some e) pos) (tdRet te) where
  mono := fun De De' env S h q => he.mono _ _ _ _ h.rt q
  run := ps_imp (ps_ret he.run) fun D σ H ⟨env, S, hev, hst, De, eu, q⟩ => ⟨env, S, hev, hst, he.mono _ _ _ _ (fun d S1 q v H1 r s1 e1 => eu.rt d S1 v H1 r s1 e1 q) q⟩
def tdRetN : TSD := fun De _ S => De.rt .non S
theorem ds_retN : DS X (.Return none pos) tdRetN where
  mono := fun De De' env S h q => h.rt _ _ q
  run := ps_imp ps_retN fun D σ H ⟨env, S, he, hs, De, eu, q⟩ => eu.rt .non S .non H .non hs Ext.refl q
def tdIfS (c : TTD) (t u : TSD) : TSD := fun De env S => c env S fun b S1 => if b = true then t De env S1 else u De env S1
theorem ds_if {a b : List Stmt} (hc : DT X c tc) (ha : DSs X a t) (hb : DSs X b u) : DS X (.If c a b pos) (tdIfS tc t u) where
  mono := fun De De' env S h q => hc.mono _ _ _ _ (fun k s q => by
    cases k with
    | true => rw [if_pos rfl] at q ⊢; exact ha.mono _ _ _ _ h q
    | false => rw [if_neg Bool.false_ne_true] at q ⊢; exact hb.mono _ _ _ _ h q) q
  run := ps_imp (ps_if hc.run ha.run hb.run) fun D σ H ⟨env, S, hev, hst, De, eu, q⟩ => ⟨env, S, hev, hst, hc.mono _ _ _ _ (fun k S1 q H1 s1 e1 => by
    cases k with
    | true => rw [if_pos rfl] at q ⊢; exact ⟨env, S1, hev.ext e1, s1, De, eu.ext e1, q⟩
    | false => rw [if_neg Bool.false_ne_true] at q ⊢; exact ⟨env, S1, hev.ext e1, s1, De, eu.ext e1, q⟩) q⟩
/-- target = value -/
def tdAsg (te : TED) (p : TPat) : TSD := fun De env S => te env S fun d S1 => match bindD p d env with
  | some env' => De.nx env' S1
  | none => False
theorem tdAsg_mono {p : TPat} (m : ∀ env S (Q Q' : QD), (∀ d s, Q d s → Q' d s) → te env S Q → te env S Q') : ∀ De De' env S, EndsD.Le De De' → tdAsg te p De env S → tdAsg te p De' env S :=
  fun De De' env S h q => m _ _ _ _ (fun d s q => by
    split at q
    · exact h.nx _ _ q
    · exact q.elim) q
theorem asg_run {p : TPat} (m : ∀ env S (Q Q' : QD), (∀ d s, Q d s → Q' d s) → te env S Q → te env S Q') {D : Ends} {σ : L2.St} {H : Hp} (h : liftS X.K (tdAsg te p) D σ H) : tAsg (liftE X.K te) (gOf X.K p) D σ H := by
  obtain ⟨env, S, hev, hst, De, eu, q⟩ := h
  refine ⟨env, S, hev, hst, m _ _ _ _ (fun d S1 q v H1 r s1 e1 => ?_) q⟩
  split at q
  · rename_i env' eb
    exact bind_ok p eb r (hev.ext e1) fun σ' h1 h2 => eu.nx _ _ _ _ h1 s1 e1 q
  · exact q.elim
theorem ds_asg {tg : Expr} {p : TPat} (he : DE X e te) (hp : DP X tg p) (hs : swapsWithSole [tg] e pos.line X.env = pure false := by rfl) (hw : swappedStores [tg] e X.env = pure none := by rfl)
    (h1 : (assignEach [tg] X.env).map (·.2) = [assign tg X.env] := by rfl) : DS X (.Assign [tg] e pos) (tdAsg te p) where
  mono := tdAsg_mono he.mono
  run := ps_imp (ps_asg he.run hp.run hs hw h1) fun D σ H q => asg_run he.mono q
/-- name = value -/
theorem ds_set {i : Nat} {x : Str} {pos' : Pos} (hN : X.N.Nodup) (hi : X.N[i]? = some x) (hx : Loc X.env.scope x) (he : DE X e te) (hs : swapsWith e (some (.Name x pos')) pos.line X.env = pure false := by rfl) (hf : X.fn x = true ∨ X.env.scope.names.lookup x = some .local := by first | exact .inl rfl | exact .inr rfl | assumption) :
    DS X (.Assign [.Name x pos'] e pos) (tdAsg te (.nm i)) where
  mono := tdAsg_mono he.mono
  run := ps_imp (ps_set hN hi hx he.run hs hf) fun D σ H q => by
    have h := asg_run he.mono q
    unfold gOf at h
    exact h
/-- a, b = x, y -/
def tdPar (vs : List Nat) (ta : TAD) : TSD := fun De env S => ta env S fun ds S1 => ds.length = vs.length ∧ De.nx ((vs.zip ds).foldl (fun e p => e.set p.1 (some p.2)) env) S1
theorem tdPar_mono {es : List Expr} {vs : List Nat} {ta : TAD} (ha : DA X es ta) : ∀ De De' env S, EndsD.Le De De' → tdPar vs ta De env S → tdPar vs ta De' env S :=
  fun De De' env S h q => ha.mono _ _ _ _ (fun d s q => ⟨q.1, h.nx _ _ q.2⟩) q
theorem ds_par {i j : Nat} {x y : Str} {a b : Expr} {ta : TAD} {px py pt : Pos} {kt k2 pt2} (hc : X.calm = true) (hN : X.N.Nodup) (hi : X.N[i]? = some x) (hj : X.N[j]? = some y) (hij : i ≠ j)
    (hx : X.env.scope.names.lookup x = some .local) (hy : X.env.scope.names.lookup y = some .local) (ha : DA X [a, b] ta)
    (hw : swappedStores [.Tuple [.Name x px, .Name y py] kt pt] (.Tuple [a, b] k2 pt2) X.env = pure (some [x, y]))
    (hs : swapsWithSole [.Tuple [.Name x px, .Name y py] kt pt] (.Tuple [a, b] k2 pt2) pos.line X.env = pure false := by rfl) :
    DS X (.Assign [.Tuple [.Name x px, .Name y py] kt pt] (.Tuple [a, b] k2 pt2) pos) (tdPar [i, j] ta) where
  mono := tdPar_mono ha
  run := ps_imp (ps_par hc hN hi hj hij hx hy ha.run hw hs) fun D σ H ⟨env, S, hev, hst, De, eu, q⟩ => ⟨env, S, hev, hst, ha.mono _ _ _ _ (fun ds S1 q vs H1 r s1 e1 => by
    obtain ⟨hl, q⟩ := q
    match ds, hl, r, q with
    | [d1, d2], _, r, q =>
      obtain ⟨v, u, rfl, r1, r2⟩ := r.two_inv
      exact ⟨v, u, rfl, eu.nx _ _ _ _ (((hev.ext e1).set r1).set r2) s1 e1 q⟩) q⟩
theorem RepDs.three_inv {K : PySem.W.Frag} {S : Sto} {H : Hp} {d e f : D} {vs : List V} (r : RepDs K S H [d, e, f] vs) : ∃ v u w, vs = [v, u, w] ∧ RepD K S H d v ∧ RepD K S H e u ∧ RepD K S H f w := by
  cases r with
  | cons h t =>
    obtain ⟨u, w, rfl, h2, h3⟩ := t.two_inv
    exact ⟨_, _, _, rfl, h, h2, h3⟩
theorem ds_par3 {i j l : Nat} {x y z : Str} {a b c : Expr} {ta : TAD} {px py pz pt pos : Pos} {kt k2 pt2} (hc : X.calm = true) (hN : X.N.Nodup) (hi : X.N[i]? = some x) (hj : X.N[j]? = some y) (hl : X.N[l]? = some z) (hij : i ≠ j) (hil : i ≠ l) (hjl : j ≠ l)
    (hx : X.env.scope.names.lookup x = some .local) (hy : X.env.scope.names.lookup y = some .local) (hz : X.env.scope.names.lookup z = some .local) (ha : DA X [a, b, c] ta)
    (hw : swappedStores [.Tuple [.Name x px, .Name y py, .Name z pz] kt pt] (.Tuple [a, b, c] k2 pt2) X.env = pure (some [x, y, z]))
    (hs : swapsWithSole [.Tuple [.Name x px, .Name y py, .Name z pz] kt pt] (.Tuple [a, b, c] k2 pt2) pos.line X.env = pure false := by rfl) :
    DS X (.Assign [.Tuple [.Name x px, .Name y py, .Name z pz] kt pt] (.Tuple [a, b, c] k2 pt2) pos) (tdPar [i, j, l] ta) where
  mono := tdPar_mono ha
  run := ps_imp (ps_par3 hc hN hi hj hl hij hil hjl hx hy hz ha.run hw hs) fun D σ H ⟨env, S, hev, hst, De, eu, q⟩ => ⟨env, S, hev, hst, ha.mono _ _ _ _ (fun ds S1 q vs H1 r s1 e1 => by
    obtain ⟨hl, q⟩ := q
    match ds, hl, r, q with
    | [d1, d2, d3], _, r, q =>
      obtain ⟨v, u, w, rfl, r1, r2, r3⟩ := r.three_inv
      exact ⟨v, u, w, rfl, eu.nx _ _ _ _ ((((hev.ext e1).set r1).set r2).set r3) s1 e1 q⟩) q⟩

/-! ### o[i] = e of a list of the store -/
def tdSetI (te to ti : TED) : TSD := fun De env S => te env S fun d S1 => to env S1 fun x S2 => ti env S2 fun y S3 => match x, y with
  | .ref a, .int k => match S3 a with
    | some (.lst ds) => match ixN ds.length k with
      | some j => De.nx env (sup S3 a (.lst (ds.set j d)))
      | none => False
    | _ => False
  | _, _ => False
theorem ds_setI {p1 : Pos} (he : DE X e te) (ho : DE X o to) (hi : DE X i ti)
    (ha : ∀ v, assign (.Subscript o i p1) X.env v = (do
      let ov ← holding [v] (eval o X.env)
      let iv ← holding [v, ov] (eval i X.env)
      standAt p1
      holding [v, ov, iv] (setItem ov iv v)
      release [v, ov, iv] []) := by intro _; rfl)
    (hs : swapsWithSole [.Subscript o i p1] e pos.line X.env = pure false := by rfl) (hw : swappedStores [.Subscript o i p1] e X.env = pure none := by rfl)
    (h1 : (assignEach [.Subscript o i p1] X.env).map (·.2) = [assign (.Subscript o i p1) X.env] := by rfl) : DS X (.Assign [.Subscript o i p1] e pos) (tdSetI te to ti) where
  mono := fun De De' env S h q => he.mono _ _ _ _ (fun d s q => ho.mono _ _ _ _ (fun x s q => hi.mono _ _ _ _ (fun y s q => by
    split at q
    · split at q
      · split at q
        · exact h.nx _ _ q
        · exact q.elim
      · exact q.elim
    · exact q.elim) q) q) q
  run := ps_imp (ps_asg he.run (pg_sub ho.run hi.run set_list ha) hs hw h1) fun D σ H ⟨env, S, hev, hst, De, eu, q⟩ => ⟨env, S, hev, hst, he.mono _ _ _ _ (fun d S1 q v H1 r s1 e1 =>
    ⟨env, S1, hev.ext e1, s1, ho.mono _ _ _ _ (fun x S2 q v2 H2 r2 s2 e2 => ⟨env, S2, hev.ext (e1.trans e2), s2, hi.mono _ _ _ _ (fun y S3 q v3 H3 r3 s3 e3 => by
      split at q
      · split at q
        · split at q
          · rename_i a k _ _ ds es _ j ej
            cases r2; cases r3

            obtain ⟨u, h1, h2⟩ := s3 a _ es
            cases h2 with
            | lst rl =>
              refine ⟨a, _, k, j, rfl, rfl, h1, by rw [← rl.len]; exact ej, ?_⟩
              have e13 := (e1.trans e2).trans e3
              exact eu.nx _ _ _ _ (hev.ext (e13.trans (Ext.write es))) (s3.write es (.lst (rl.set ((r.ext (e2.trans e3))) j))) (e13.trans (Ext.write es)) q
          · exact q.elim
        · exact q.elim
      · exact q.elim) q⟩) q⟩) q⟩

/-! ### loops -/
structure Yields (K : PySem.W.Frag) (S : Sto) (H : Hp) (J : It) (ds : List D) : Prop where
  go : ∀ S' H', Ext S H S' H' → RepS K S' H' → ∀ (i : Nat) (d : D), ds[i]? = some d → J.go i H' ∧ ∀ x H'', J.yld i H' x H'' → RepD K S' H'' d x ∧ RepS K S' H'' ∧ Ext S' H' S' H''
  stop : ∀ S' H', Ext S H S' H' → RepS K S' H' → J.stop ds.length H'
abbrev TID := Env' → Sto → (List D → Sto → Prop) → Prop
def liftI (K : PySem.W.Frag) (w : TID) : TI := fun σ H R => ∃ env S, RepEnv K S H env σ ∧ RepS K S H ∧ w env S fun ds S' => ∀ J H', Yields K S' H' J ds → RepS K S' H' → Ext S H S' H' → R J H'
structure DI (X : Cx) (tg iter : Expr) (w : TID) : Prop where
  mono : ∀ env S (Q Q' : List D → Sto → Prop), (∀ d s, Q d s → Q' d s) → w env S Q → w env S Q'
  run : PI X tg iter (liftI X.K w)
theorem pi_imp {tg iter : Expr} {w w' : TI} (h : PI X tg iter w) (i : ∀ σ H R, w' σ H R → w σ H R) : PI X tg iter w' := ⟨fun pins s σ H R I q => h.run pins s σ H R I (i σ H R q)⟩
def forD (p : TPat) (tb : TSD) : List D → TSD
  | [] => fun De env S => De.nx env S
  | d :: r => fun De env S => match bindD p d env with
    | some env' => tb { De with nx := forD p tb r De, ct := forD p tb r De, bk := De.nx } env' S
    | none => False
def tdFor (w : TID) (p : TPat) (tb : TSD) : TSD := fun De env S => w env S fun ds S1 => forD p tb ds De env S1
variable {tg iter : Expr} {w : TID} {p : TPat} {tb : TSD}
theorem forD_mono (m : ∀ De De' env S, EndsD.Le De De' → tb De env S → tb De' env S) : ∀ (ds : List D) De De' env S, EndsD.Le De De' → forD p tb ds De env S → forD p tb ds De' env S
  | [], De, De', env, S, h, q => h.nx _ _ q
  | d :: r, De, De', env, S, h, q => by
    unfold forD at q ⊢
    split at q
    · rename_i env' e
      exact m { De with nx := forD p tb r De, ct := forD p tb r De, bk := De.nx } _ _ _ ⟨fun e s q => forD_mono m r _ _ _ _ h q, h.rt, h.nx, fun e s q => forD_mono m r _ _ _ _ h q⟩ q
    · exact q.elim
theorem ds_for (hp : PassesOwn (model X.prog X.w) X.A X.env X.xe) (hc : X.calm = true) (hi : DI X tg iter w) (hg : DP X tg p) (hb : DSs X body tb) (hs : ∀ x, foldedSetIterable iter X.env x = pure x := by intro _; rfl) : DS X (.For tg iter body [] pos) (tdFor w p tb) where
  mono := fun De De' env S h q => hi.mono _ _ _ _ (fun ds s q => forD_mono hb.mono ds _ _ _ _ h q) q
  run := ps_imp (ps_for hp hc hi.run hg.run hb.run hs) fun D σ H ⟨env, S, hev, hst, De, eu, q⟩ => ⟨env, S, hev, hst, hi.mono _ _ _ _ (fun ds S1 q J H1 Y s1 e1 => by
    refine ⟨fun i m σ H => ∃ env S, RepEnv X.K S H env σ ∧ RepS X.K S H ∧ Ext S1 H1 S H ∧ i + m = ds.length ∧ forD p tb (ds.drop i) De env S, ⟨ds.length, env, S1, hev.ext e1, s1, Ext.refl, by omega, q⟩, fun i m σ2 H2 hW => ?_⟩
    obtain ⟨env2, S2, he2, s2, e2, hm, q2⟩ := hW
    by_cases hi : i < ds.length
    · have hd : ds[i]? = some ds[i] := List.getElem?_eq_getElem hi
      rw [List.drop_eq_getElem_cons hi] at q2
      unfold forD at q2
      split at q2
      · rename_i env3 eb
        obtain ⟨g1, g2⟩ := Y.go S2 H2 e2 s2 i _ hd
        refine .inr ⟨g1, fun σ' H' => ∃ env S, RepEnv X.K S H' env σ' ∧ RepS X.K S H' ∧ Ext S1 H1 S H' ∧ forD p tb (ds.drop (i + 1)) De env S, fun σ' H' ⟨en, Sn, a1, a2, a3, a4⟩ => ⟨m - 1, by omega, en, Sn, a1, a2, a3, by omega, a4⟩, fun x H3 hy => ?_⟩
        obtain ⟨rx, s3, e3⟩ := g2 x H3 hy
        refine bind_ok p eb rx (he2.ext e3) fun σ3 he3 _ => ?_
        refine ⟨env3, S2, he3, s3, _, ?_, q2⟩
        have e13 := e2.trans e3
        exact ⟨fun en Sn σn Hn a1 a2 a3 a4 => ⟨en, Sn, a1, a2, e13.trans a3, a4⟩, fun d Sn v Hn a1 a2 a3 a4 => eu.rt d Sn v Hn a1 a2 ((e1.trans e13).trans a3) a4,
          fun en Sn σn Hn a1 a2 a3 a4 => eu.nx en Sn σn Hn a1 a2 ((e1.trans e13).trans a3) a4, fun en Sn σn Hn a1 a2 a3 a4 => ⟨en, Sn, a1, a2, e13.trans a3, a4⟩⟩
      · exact q2.elim
    · have hi' : i = ds.length := by omega
      rw [List.drop_of_length_le (by omega)] at q2
      refine .inl ⟨hi' ▸ Y.stop S2 H2 e2 s2, eu.nx env2 S2 σ2 H2 he2 s2 (e1.trans e2) q2⟩) q⟩
/-- while, by a word and a number that falls -/
def tdWhile (c : TTD) (tb : TSD) : TSD := fun De env S => ∃ W : Nat → Env' → Sto → Prop, (∃ m, W m env S) ∧ ∀ m env S, W m env S →
  c env S fun b S1 => if b = true then tb { De with nx := fun en Sn => ∃ m', m' < m ∧ W m' en Sn, ct := fun en Sn => ∃ m', m' < m ∧ W m' en Sn, bk := De.nx } env S1 else De.nx env S1
theorem ds_while (hp : PassesOwn (model X.prog X.w) X.A X.env X.xe) (hc : DT X c tc) (hb : DSs X body tb) : DS X (.While c body [] pos) (tdWhile tc tb) where
  mono := fun De De' env S h ⟨W, h0, q⟩ => ⟨W, h0, fun m env S hw => hc.mono _ _ _ _ (fun b s q => by
    cases b with
    | true => rw [if_pos rfl] at q ⊢; exact hb.mono { De with nx := fun en Sn => ∃ m', m' < m ∧ W m' en Sn, ct := fun en Sn => ∃ m', m' < m ∧ W m' en Sn, bk := De.nx } _ _ _ ⟨fun _ _ q => q, h.rt, h.nx, fun _ _ q => q⟩ q
    | false => rw [if_neg Bool.false_ne_true] at q ⊢; exact h.nx _ _ q) (q m env S hw)⟩
  run := ps_imp (ps_while hp hc.run hb.run) fun D σ H ⟨env, S, hev, hst, De, eu, W, ⟨m0, w0⟩, q⟩ => by
    refine ⟨fun m σ' H' => ∃ en Sn, RepEnv X.K Sn H' en σ' ∧ RepS X.K Sn H' ∧ Ext S H Sn H' ∧ W m en Sn, ⟨m0, env, S, hev, hst, Ext.refl, w0⟩, fun m σ2 H2 ⟨env2, S2, he2, s2, e2, w2⟩ => ?_⟩
    refine ⟨env2, S2, he2, s2, hc.mono _ _ _ _ (fun b S3 q3 H3 s3 e3 => ?_) (q m env2 S2 w2)⟩
    have e13 := e2.trans e3
    cases b with
    | true =>
      rw [if_pos rfl] at q3
      refine iteT ?_
      refine ⟨fun σ' H' => ∃ m', m' < m ∧ ∃ en Sn, RepEnv X.K Sn H' en σ' ∧ RepS X.K Sn H' ∧ Ext S H Sn H' ∧ W m' en Sn, fun _ _ h => h, env2, S3, he2.ext e3, s3, _, ?_, q3⟩
      exact ⟨fun en Sn σn Hn a1 a2 a3 ⟨m', l, a4⟩ => ⟨m', l, en, Sn, a1, a2, e13.trans a3, a4⟩, fun d Sn v Hn a1 a2 a3 a4 => eu.rt d Sn v Hn a1 a2 (e13.trans a3) a4,
        fun en Sn σn Hn a1 a2 a3 a4 => eu.nx en Sn σn Hn a1 a2 (e13.trans a3) a4, fun en Sn σn Hn a1 a2 a3 ⟨m', l, a4⟩ => ⟨m', l, en, Sn, a1, a2, e13.trans a3, a4⟩⟩
    | false =>
      rw [if_neg Bool.false_ne_true] at q3
      refine iteF ?_
      exact eu.nx env2 S3 σ2 H3 (he2.ext e3) s3 e13 q3
end
end PL

namespace PL
open PySem PySem.Spec PyProof.Rows L2

/-! ### a def's promise where nothing is being shown (no guard of a repr stands around) -/
structure GFn (P : Program) (w : World) (K : PySem.W.Frag) (mg : Str → Option Value) (base : Heap) (CX : CXT) (k : Nat) (f : Addr) (fd : FuncData) (ps : List Str) (sp : Sp) : Prop where
  len : ∀ vs H Q E, sp vs H Q E → vs.length = ps.length
  go : ∀ (A : Around) (outer : List Env) (s : Shared) (H : Hp) (args : Args) (us : List Value) (vs : List V) (Q : VK) (E : XK),
    A.guards = some [] → Room k A → Env0 P w K mg base A outer s H → BindsTo s fd args (ps.zip us) → Vals vs us → sp vs H Q E → codeAny (model P w) A (.call (.ref f) args) (CR CX outer P w H s Q E) s
theorem GFn.mono {P : Program} {w : World} {K : PySem.W.Frag} {mg : Str → Option Value} {base : Heap} {CX : CXT} {j k : Nat} {f : Addr} {fd : FuncData} {ps : List Str} {sp : Sp} (F : GFn P w K mg base CX j f fd ps sp) (h : j ≤ k) : GFn P w K mg base CX k f fd ps sp where
  len := F.len
  go := fun A outer s H args us vs Q E g r => F.go A outer s H args us vs Q E g (r.mono h)

section
variable {P : Program} {w : World} {K : PySem.W.Frag} {mg : Str → Option Value} {base : Heap}
/-- a def of the text keeps its promise by its body -/
theorem gfn_of {CX : CXT} {k : Nat} {f : Addr} {fd : FuncData} {x qual : Str} {st : Stmt} {N ps : List Str} {sp : Sp} (F : Fun K x qual st f fd) (S : FnScope N ps (defScope st)) (len : ∀ vs H Q E, sp vs H Q E → vs.length = ps.length)
    (body : ∀ (cdv : Value) (A : Around) (outer : List Env) (s : Shared) (H : Hp) (vs : List V) (Q : VK) (E : XK), A.guards = some [] → Room k (A.deeper (envOfC qual (defScope st) s.heap.objs.size f cdv)) → sp vs H Q E →
      ∃ t, PSs (cxOf CX P w K mg base N qual (defScope st) f cdv A outer s H E) (defBody st) t ∧ t { nx := fun _ H' => Q .non H', rt := Q } (L2.start N vs) H) : GFn P w K mg base CX (k + 1) f fd ps sp := by
  obtain ⟨oc, od, kV, doc, pm, an, cdv, ct, osl, rfl, lk, hcd⟩ := F.ex
  constructor
  · exact len
  intro A outer s H args us vs Q E hg hr e0 hb rv hsp
  have stays : ∀ b o, base.get? b = some o → s.heap.get? b = some o := fun b o e => (e0.bs b o e).1
  have inK := e0.mod.kin.keeps stays
  have noL := e0.mod.nolimit.keeps stays
  have kinds : ∀ y ∈ ps.zip us, (defScope st).names.lookup y.1 = some .local ∨ ((defScope st).names.lookup y.1 = some .cell ∧ ((cellsFrom (s.heap.objs.size + 1) (defScope st).names []).lookup y.1).isSome = true) := by
    rintro ⟨n, v⟩ hy
    have hp := S.par n (List.of_mem_zip hy).1
    exact hp.imp (fun q => q) fun q => ⟨q, PySem.W.cellsFrom_some _ _ _ (.inl q)⟩
  refine codeAny_call_function hr.depth (inK _ _ lk) rfl S.co S.gen rfl (PySem.W.codeRec_of inK hcd) (hb _ _ _ _ ?_)
  refine wpAny_newFunctionEnv_cells S.kind kinds ?_
  rintro env rfl s1 x
  refine ⟨noL.keeps x.toInCall.keep, codeAny_func ?_⟩
  obtain ⟨t, ht, hq⟩ := body cdv A outer s H vs Q E hg (hr.deeper _) hsp
  have I := inv_start (N := N) (qual := qual) (scope := defScope st) (CX := CX) (E := E) S hr.hd e0 (len _ _ _ _ hsp) rv x
  refine wpAny_mono (ht.run [] s1 (L2.start N vs) H _ I hq) ?_ fun e s' hs => hs
  intro fl s' hs
  cases fl with
  | brk => obtain ⟨_, _, _, bad⟩ := hs; cases bad
  | cont => obtain ⟨_, _, _, bad⟩ := hs; cases bad
  | next =>
    obtain ⟨σ2, H2, J, q⟩ := hs
    exact ⟨.non, H2, J.os, J.bare, J.base, J.hok, rfl, q⟩
  | ret u =>
    obtain ⟨v, σ2, H2, J, r2, q⟩ := hs
    exact ⟨v, H2, J.os, J.bare, J.base, J.hok, r2, q⟩
end

/-- a promise over D -/
abbrev SpD := List D → Sto → QD → Prop
def spOf (K : PySem.W.Frag) (sp : SpD) : Sp := fun vs H Q _ => ∃ S ds, RepS K S H ∧ RepDs K S H ds vs ∧ sp ds S (up K S H Q)
structure DFn (P : Program) (w : World) (K : PySem.W.Frag) (mg : Str → Option Value) (base : Heap) (k : Nat) (f : Addr) (fd : FuncData) (ps : List Str) (sp : SpD) : Prop where
  mono : ∀ ds S (Q Q' : QD), (∀ d s, Q d s → Q' d s) → sp ds S Q → sp ds S Q'
  len : ∀ ds S Q, sp ds S Q → ds.length = ps.length
  fn : GFn P w K mg base CX0 k f fd ps (spOf K sp)
theorem DFn.up {P : Program} {w : World} {K : PySem.W.Frag} {mg : Str → Option Value} {base : Heap} {j k : Nat} {f : Addr} {fd : FuncData} {ps : List Str} {sp : SpD} (F : DFn P w K mg base j f fd ps sp) (h : j ≤ k) : DFn P w K mg base k f fd ps sp := ⟨F.mono, F.len, F.fn.mono h⟩
def envStart (N : List Str) (ds : List D) : Env' := ds.map some ++ List.replicate (N.length - ds.length) none
theorem rep_start {K : PySem.W.Frag} {S : Sto} {H : Hp} {N : List Str} {ds : List D} {vs : List V} (r : RepDs K S H ds vs) : RepEnv K S H (envStart N ds) (L2.start N vs) := by
  have hl := r.len
  unfold envStart L2.start
  refine ⟨by simp [hl], fun i d e => ?_⟩
  by_cases hi : i < ds.length
  · rw [List.getElem?_append_left (by simpa using hi), List.getElem?_map] at e
    rw [Option.map_eq_some_iff] at e
    obtain ⟨d', e1, e2⟩ := e
    cases e2
    obtain ⟨v, e3, rv⟩ := r.get e1
    exact ⟨v, by rw [List.getElem?_append_left (by simp; omega), List.getElem?_map, e3]; rfl, rv⟩
  · rw [List.getElem?_append_right (by simpa using hi), List.getElem?_replicate] at e
    split at e <;> cases e
/-- a def of the text, its promise by its body's reading -/
theorem dfn_of {P : Program} {w : World} {K : PySem.W.Frag} {mg : Str → Option Value} {base : Heap} {k : Nat} {f : Addr} {fd : FuncData} {x qual : Str} {st : Stmt} {N ps : List Str} {sp : SpD} (F : Fun K x qual st f fd) (Sc : FnScope N ps (defScope st))
    (mono : ∀ ds S (Q Q' : QD), (∀ d s, Q d s → Q' d s) → sp ds S Q → sp ds S Q') (len : ∀ ds S Q, sp ds S Q → ds.length = ps.length)
    (body : ∀ (cdv : Value) (A : Around) (outer : List Env) (s : Shared) (H : Hp), A.guards = some [] → Room k (A.deeper (envOfC qual (defScope st) s.heap.objs.size f cdv)) →
      ∃ t, DSs (cxOf CX0 P w K mg base N qual (defScope st) f cdv A outer s H E0).nox (defBody st) t ∧ ∀ ds S Q, sp ds S Q → t { nx := fun _ S' => Q .non S', rt := Q } (envStart N ds) S) : DFn P w K mg base (k + 1) f fd ps sp where
  mono := mono
  len := len
  fn := by
    refine gfn_of F Sc (fun vs H Q E h => ?_) fun cdv A outer s H vs Q E hg hr h => ?_
    · obtain ⟨S, ds, hs, r, q⟩ := h
      rw [← r.len]
      exact len _ _ _ q
    · obtain ⟨S, ds, hs, r, q⟩ := h
      obtain ⟨t, ht, hq⟩ := body cdv A outer s H hg hr
      refine ⟨_, PSs.nox (X := cxOf CX0 P w K mg base N qual (defScope st) f cdv A outer s H E) (pss_imp (t := liftS K t) ⟨fun pins s1 σ H1 D I q => ?_⟩ fun _ _ _ h => h), envStart N ds, S, rep_start r, hs, _, ?_, hq ds S _ q⟩
      · exact ht.run.run pins s1 σ H1 D I q
      · exact ⟨fun env S' σ H' h1 h2 h3 h4 => h4 .non H' .non h2 h3, fun d S' v H' h1 h2 h3 h4 => h4 v H' h1 h2 h3, fun _ _ _ _ _ _ _ h => h.elim, fun _ _ _ _ _ _ _ h => h.elim⟩

section
variable {X : Cx} {pos p : Pos} {x : Str} {e : Expr} {es : List Expr} {t : TAD} {k : Nat} {f : Addr} {fd : FuncData} {ps : List Str} {sp : SpD} {dds : List D} {dvs : List V} {ds : List Value}

/-! ### calls of defs -/
theorem run_gfn {CX : CXT} {E : XK} {sp : Sp} {pins : List (Addr × Obj)} {σ : L2.St} {H : Hp} {s : Shared} {Q : VK} {us : List Value} {vs : List V} (F : GFn X.prog X.w X.K X.mg X.base CX k f fd ps sp) (hg : X.A.guards = some []) (hr : Room k X.A) (hx : Passes CX X E)
    (I : Inv X pins σ H s) {args : Args} (hb : BindsTo s fd args (ps.zip us)) (r : Vals vs us) (h : sp vs H Q E) : codeAny (model X.prog X.w) X.A (.call (.ref f) args) (fun r s' => match r with
      | .ok (.ret u) => EP X pins σ Q u s'
      | .ok _ => False
      | .error e => X.xe e s') s := by
  refine codeAny_mono (F.go X.A X.stack s H args us vs Q E hg hr I.env0 hb r h) ?_
  intro r s' hq
  match r, hq with
  | .error e, hq => exact hx pins σ H s e s' I hq
  | .ok (.ret u), hq => exact I.after hq
  | .ok .next, hq => exact hq
  | .ok .brk, hq => exact hq
  | .ok .cont, hq => exact hq
def tdCall (sp : SpD) (dds : List D) (t : TAD) : TED := fun env S Q => t env S fun ds S1 => sp (ds ++ dds) S1 Q
theorem liftCall {sp : SpD} (hm : ∀ ds S (Q Q' : QD), (∀ d s, Q d s → Q' d s) → sp ds S Q → sp ds S Q') {es : List Expr} {t : TAD} (ha : DA X es t) (hdd : ∀ S H, RepDs X.K S H dds dvs) {σ : L2.St} {H : Hp} {Q : VK} (q : liftE X.K (tdCall sp dds t) σ H Q) :
    liftA X.K t σ H fun vs H1 => spOf X.K sp (vs ++ dvs) H1 Q E0 := by
  obtain ⟨env, S, he, hs, q⟩ := q
  exact ⟨env, S, he, hs, ha.mono _ _ _ _ (fun ds S1 q1 vs H1 r1 s1 e1 => ⟨S1, ds ++ dds, s1, r1.append (hdd S1 H1), hm _ _ _ _ (fun d s h => up_ext e1 h) q1⟩) q⟩
theorem de_call (F : DFn X.prog X.w X.K X.mg X.base k f fd ps sp) (hgd : X.A.guards = some []) (hr : Room k X.A) (hg : Gl X x) (hm : X.mg x = some (.ref f)) (hk : PySem.W.keepIn X.K (.ref f) = true) (hb : Binds X.K fd ps ds) (hd : Vals dvs ds) (hdd : ∀ S H, RepDs X.K S H dds dvs)
    (ha : DA X (e :: es) t) (hdb : (x == ("__debug__" : Str)) = false := by decide) (he : starEach (e :: es) X.env = (false, eval e X.env) :: starEach es X.env := by rfl) (hpl : (backTo pos (starEach es X.env)).any (·.1) = false := by rfl) : DE X (.Call (.Name x p) (e :: es) [] pos) (tdCall sp dds t) where
  mono := fun env S Q Q' h q => ha.mono _ _ _ _ (fun ds s q => F.mono _ _ _ _ h q) q
  run := ⟨fun pins s σ H Q I q => by
    refine wpAny_Call_Name_kw (ld_glob I hg hm ?_ hdb)
    refine PySem.W.callWith_K (h₀ := X.base) I.ok.mod.kin hk (thn (ha.run.run pos pins s σ H _ I (liftCall F.mono ha hdd q)) ?_) he hpl
    rintro us s1 ⟨vs, H1, I1, rv, q2⟩
    refine ⟨I1.kIn, ?_⟩
    have rv2 : Vals (vs ++ dvs) (us ++ ds) := rv.append hd
    have hl : (us ++ ds).length = ps.length := by rw [← rv2.length]; exact F.fn.len _ _ _ _ q2
    refine wpAny_call (codeAny_mono (run_gfn F.fn hgd hr pass0 I1 (hb s1 us I1.kIn hl) rv2 q2) ?_)
    intro r s' hq
    match r, hq with
    | .error e, hq => exact hq
    | .ok (.ret u), hq => exact hq
    | .ok .next, hq => exact hq.elim
    | .ok .brk, hq => exact hq.elim
    | .ok .cont, hq => exact hq.elim⟩
end
end PL

namespace PL
open PySem PySem.Spec PyProof.Rows L2

section
variable {X : Cx} {pos p : Pos} {x : Str} {e o : Expr} {es : List Expr} {te to : TED} {t tk : TAD} {k : Nat} {f : Addr} {fd : FuncData} {ps : List Str} {sp : SpD} {dds : List D} {dvs : List V} {ds : List Value}

/-! ### calls without arguments, with keywords -/
theorem de_call0 (F : DFn X.prog X.w X.K X.mg X.base k f fd ps sp) (hgd : X.A.guards = some []) (hr : Room k X.A) (hg : Gl X x) (hm : X.mg x = some (.ref f)) (hk : PySem.W.keepIn X.K (.ref f) = true) (hb : Binds X.K fd ps ds) (hd : Vals dvs ds) (hdd : ∀ S H, RepDs X.K S H dds dvs)
    (hdb : (x == ("__debug__" : Str)) = false := by decide) : DE X (.Call (.Name x p) [] [] pos) (tdCall sp dds tdNil) where
  mono := fun env S Q Q' h q => F.mono _ _ _ _ h q
  run := ⟨fun pins s σ H Q I ⟨env, S, hev, hst, q⟩ => by
    refine wpAny_Call_Name_kw (ld_glob I hg hm ?_ hdb)
    refine PySem.W.callWith_K0 I.kIn hk ?_
    have q2 : spOf X.K sp dvs H Q E0 := ⟨S, dds, hst, hdd S H, q⟩
    have hl : (([] : List Value) ++ ds).length = ps.length := by rw [List.nil_append, ← hd.length]; exact F.fn.len _ _ _ _ q2
    refine wpAny_call (codeAny_mono (run_gfn (us := [] ++ ds) (vs := dvs) F.fn hgd hr pass0 I (hb s [] I.kIn hl) hd q2) ?_)
    intro r s' hq
    match r, hq with
    | .error e, hq => exact hq
    | .ok (.ret u), hq => exact hq
    | .ok .next, hq => exact hq.elim
    | .ok .brk, hq => exact hq.elim
    | .ok .cont, hq => exact hq.elim⟩
def pick {α : Type} (pm : List Nat) (l : List α) : List α := pm.filterMap fun i => l[i]?
theorem pick_vals {vs : List V} {us : List Value} (r : Vals vs us) : ∀ pm : List Nat, Vals (pick pm vs) (pick pm us)
  | [] => .nil
  | i :: pm => by
    unfold pick
    rw [List.filterMap_cons, List.filterMap_cons]
    cases e : vs[i]? with
    | none =>
      rw [r.none_of e]
      exact pick_vals r pm
    | some v =>
      obtain ⟨u, e2, r2⟩ := r.get e
      rw [e2]
      exact .cons r2 (pick_vals r pm)
theorem pick_rep {K : PySem.W.Frag} {S : Sto} {H : Hp} {ds : List D} {vs : List V} (r : RepDs K S H ds vs) : ∀ pm : List Nat, RepDs K S H (pick pm ds) (pick pm vs)
  | [] => .nil
  | i :: pm => by
    unfold pick
    rw [List.filterMap_cons, List.filterMap_cons]
    cases e : ds[i]? with
    | none =>
      have e2 : vs[i]? = none := by
        have h1 := r.len
        have h2 := List.getElem?_eq_none_iff.mp e
        exact List.getElem?_eq_none_iff.mpr (by omega)
      rw [e2]
      exact pick_rep r pm
    | some d =>
      obtain ⟨u, e2, r2⟩ := r.get e
      rw [e2]
      exact .cons r2 (pick_rep r pm)
/-- how n positional values and the keywords ks come to the parameters: by the places pm in both and the defaults -/
def KB (K : PySem.W.Frag) (fd : FuncData) (ps : List Str) (n : Nat) (ks : List Str) (pm : List Nat) (ds : List Value) : Prop :=
  ∀ (s : Shared) (us ws : List Value), K.In s.heap → us.length = n → ws.length = ks.length → BindsTo s fd ⟨us, ks.zip ws⟩ (ps.zip (pick pm (us ++ ws ++ ds)))
structure DK (X : Cx) (kws : List Keyword) (t : TAD) : Prop where
  mono : ∀ env S (Q Q' : List D → Sto → Prop), (∀ d s, Q d s → Q' d s) → t env S Q → t env S Q'
  run : PK X kws (liftA X.K t)
theorem pk_imp {kws : List Keyword} {t t' : TA} (h : PK X kws t) (i : ∀ σ H Q, t' σ H Q → t σ H Q) : PK X kws t' := ⟨fun pos pins s σ H Q I q => h.run pos pins s σ H Q I (i σ H Q q)⟩
theorem dk_nil : DK X [] tdNil where
  mono := fun env S Q Q' h q => h _ _ q
  run := pk_imp pk_nil fun σ H Q ⟨env, S, he, hs, q⟩ => q [] H .nil hs Ext.refl
theorem dk_cons {nm : Option Str} {kpos : Pos} {kws : List Keyword} (ha : DE X e te) (hr : DK X kws t) : DK X (⟨nm, e, kpos⟩ :: kws) (tdCons te t) where
  mono := fun env S Q Q' h q => ha.mono _ _ _ _ (fun x s q => hr.mono _ _ _ _ (fun xs s q => h _ _ q) q) q
  run := pk_imp (pk_cons ha.run hr.run) fun σ H Q ⟨env, S, he, hs, q⟩ => ⟨env, S, he, hs, ha.mono _ _ _ _ (fun x S1 q1 v1 H1 r1 s1 e1 =>
    ⟨env, S1, he.ext e1, s1, hr.mono _ _ _ _ (fun xs S2 q2 vs H2 r2 s2 e2 => q2 (v1 :: vs) H2 (.cons (r1.ext e2) r2) s2 (e1.trans e2)) q1⟩) q⟩
def tdCallK (sp : SpD) (n m : Nat) (pm : List Nat) (dds : List D) (t tk : TAD) : TED := fun env S Q => t env S fun ds S1 => tk env S1 fun zs S2 => ds.length = n ∧ zs.length = m ∧ sp (pick pm (ds ++ zs ++ dds)) S2 Q
theorem callK_end {pm : List Nat} {ks : List Str} {pins : List (Addr × Obj)} {σ : L2.St} {H H2 : Hp} {s2 : Shared} {Q : VK} {us ws : List Value} {vs zs : List V} {S2 : Sto} {dss zss : List D}
    (F : DFn X.prog X.w X.K X.mg X.base k f fd ps sp) (hgd : X.A.guards = some []) (hr : Room k X.A) (hb : KB X.K fd ps dss.length ks pm ds) (hd : Vals dvs ds) (hdd : ∀ S H, RepDs X.K S H dds dvs) (hz : zss.length = ks.length)
    (I : Inv X pins σ H2 s2) (hst : RepS X.K S2 H2) (r1 : RepDs X.K S2 H2 dss vs) (r2 : RepDs X.K S2 H2 zss zs) (rv : Vals vs us) (rz : Vals zs ws) (q : sp (pick pm (dss ++ zss ++ dds)) S2 (PL.up X.K S2 H2 Q)) :
    wpAny (model X.prog X.w) X.A (call (.ref f) us (ks.zip ws)) (EP X pins σ Q) X.xe s2 := by
  have rr : RepDs X.K S2 H2 (pick pm (dss ++ zss ++ dds)) (pick pm (vs ++ zs ++ dvs)) := pick_rep ((r1.append r2).append (hdd S2 H2)) pm
  have q2 : spOf X.K sp (pick pm (vs ++ zs ++ dvs)) H2 Q E0 := ⟨S2, _, hst, rr, q⟩
  have rp := pick_vals ((rv.append rz).append hd) pm
  refine wpAny_call (codeAny_mono (run_gfn F.fn hgd hr pass0 I (hb s2 us ws I.kIn (by rw [← rv.length, ← r1.len]) (by rw [← rz.length, ← r2.len, hz])) rp q2) ?_)
  intro r s' hq
  match r, hq with
  | .error e, hq => exact hq
  | .ok (.ret u), hq => exact hq
  | .ok .next, hq => exact hq.elim
  | .ok .brk, hq => exact hq.elim
  | .ok .cont, hq => exact hq.elim
theorem de_callK {n : Nat} {ks : List Str} {pm : List Nat} {kws : List Keyword} (F : DFn X.prog X.w X.K X.mg X.base k f fd ps sp) (hgd : X.A.guards = some []) (hr : Room k X.A) (hg : Gl X x) (hm : X.mg x = some (.ref f)) (hk : PySem.W.keepIn X.K (.ref f) = true)
    (hb : KB X.K fd ps n ks pm ds) (hd : Vals dvs ds) (hdd : ∀ S H, RepDs X.K S H dds dvs) (ha : DA X (e :: es) t) (hkw : DK X kws tk) (hall : (backToKw pos (keywordEach kws X.env)).all (·.1.isSome) = true := by rfl) (hks : (backToKw pos (keywordEach kws X.env)).filterMap (·.1) = ks := by rfl)
    (hdb : (x == ("__debug__" : Str)) = false := by decide) (he : starEach (e :: es) X.env = (false, eval e X.env) :: starEach es X.env := by rfl)
    (hpl : ((backTo pos (starEach (e :: es) X.env)).any (·.1) || (backToKw pos (keywordEach kws X.env)).any (·.1.isNone)) = false := by rfl) : DE X (.Call (.Name x p) (e :: es) kws pos) (tdCallK sp n ks.length pm dds t tk) where
  mono := fun env S Q Q' h q => ha.mono _ _ _ _ (fun ds s q => hkw.mono _ _ _ _ (fun zs s q => ⟨q.1, q.2.1, F.mono _ _ _ _ h q.2.2⟩) q) q
  run := ⟨fun pins s σ H Q I ⟨env, S, hev, hst, q⟩ => by
    refine wpAny_Call_Name_kw (ld_glob I hg hm ?_ hdb)
    have A1 : liftA X.K t σ H fun vs H1 => liftA X.K tk σ H1 fun zs H2 => ∃ S2 dss zss, RepS X.K S2 H2 ∧ RepDs X.K S2 H2 dss vs ∧ RepDs X.K S2 H2 zss zs ∧ dss.length = n ∧ zss.length = ks.length ∧ sp (pick pm (dss ++ zss ++ dds)) S2 (PL.up X.K S2 H2 Q) :=
      ⟨env, S, hev, hst, ha.mono _ _ _ _ (fun dss S1 q1 vs H1 r1 s1 e1 => ⟨env, S1, hev.ext e1, s1, hkw.mono _ _ _ _ (fun zss S2 q2 zs H2 r2 s2 e2 => ⟨S2, dss, zss, s2, r1.ext e2, r2, q2.1, q2.2.1, F.mono _ _ _ _ (fun d s h => up_ext (e1.trans e2) h) q2.2.2⟩) q1⟩) q⟩
    refine PySem.W.callWith_KW (h₀ := X.base) I.ok.mod.kin hk hall (thn (ha.run.run pos pins s σ H _ I A1) ?_) hpl he
    rintro us s1 ⟨vs, H1, I1, rv, q1⟩
    refine thn (hkw.run.run pos pins s1 σ H1 _ I1 q1) ?_
    rintro ws s2 ⟨zs, H2, I2, rz, S2, dss, zss, hs2, r1, r2, hn, hm, q2⟩
    refine ⟨I2.kIn, ?_⟩
    rw [hks]
    subst hn
    exact callK_end (H := H) F hgd hr hb hd hdd hm I2 hs2 r1 r2 rv rz q2⟩
theorem de_callK0 {ks : List Str} {pm : List Nat} {kws : List Keyword} (F : DFn X.prog X.w X.K X.mg X.base k f fd ps sp) (hgd : X.A.guards = some []) (hr : Room k X.A) (hg : Gl X x) (hm : X.mg x = some (.ref f)) (hk : PySem.W.keepIn X.K (.ref f) = true)
    (hb : KB X.K fd ps 0 ks pm ds) (hd : Vals dvs ds) (hdd : ∀ S H, RepDs X.K S H dds dvs) (hkw : DK X kws tk) (hall : (backToKw pos (keywordEach kws X.env)).all (·.1.isSome) = true := by rfl) (hks : (backToKw pos (keywordEach kws X.env)).filterMap (·.1) = ks := by rfl)
    (hdb : (x == ("__debug__" : Str)) = false := by decide)
    (hpl : ((backTo pos (starEach [] X.env)).any (·.1) || (backToKw pos (keywordEach kws X.env)).any (·.1.isNone)) = false := by rfl) : DE X (.Call (.Name x p) [] kws pos) (tdCallK sp 0 ks.length pm dds tdNil tk) where
  mono := fun env S Q Q' h q => hkw.mono _ _ _ _ (fun zs s q => ⟨q.1, q.2.1, F.mono _ _ _ _ h q.2.2⟩) q
  run := ⟨fun pins s σ H Q I ⟨env, S, hev, hst, q⟩ => by
    refine wpAny_Call_Name_kw (ld_glob I hg hm ?_ hdb)
    have A1 : liftA X.K tk σ H fun zs H2 => ∃ S2 zss, RepS X.K S2 H2 ∧ RepDs X.K S2 H2 zss zs ∧ zss.length = ks.length ∧ sp (pick pm ([] ++ zss ++ dds)) S2 (PL.up X.K S2 H2 Q) :=
      ⟨env, S, hev, hst, hkw.mono _ _ _ _ (fun zss S2 q2 zs H2 r2 s2 e2 => ⟨S2, zss, s2, r2, q2.2.1, F.mono _ _ _ _ (fun d s h => up_ext e2 h) q2.2.2⟩) q⟩
    refine PySem.W.callWith_KW0 (h₀ := X.base) I.ok.mod.kin hk hall (thn (hkw.run.run pos pins s σ H _ I A1) ?_) hpl
    rintro ws s2 ⟨zs, H2, I2, rz, S2, zss, hs2, r2, hm, q2⟩
    refine ⟨I2.kIn, ?_⟩
    rw [hks]
    exact callK_end (H := H) (dss := []) (vs := []) F hgd hr hb hd hdd hm I2 hs2 .nil r2 .nil rz q2⟩

/-! ### methods of lists of the store -/
def lstAt (S : Sto) (a : Addr) : Option (List D) := match S a with
  | some (.lst ds) => some ds
  | _ => none
theorem lstAt_some {S : Sto} {a : Addr} {ds : List D} (h : lstAt S a = some ds) : S a = some (.lst ds) := by
  unfold lstAt at h
  split at h
  · rename_i e; cases h; exact e
  · cases h
theorem sto_lst {K : PySem.W.Frag} {S : Sto} {H : Hp} {a : Addr} {ds : List D} (hs : RepS K S H) (e : S a = some (.lst ds)) : ∃ vs, H a = some (.lst vs) ∧ RepDs K S H ds vs := by
  obtain ⟨u, h1, h2⟩ := hs a _ e
  cases h2 with
  | lst r => exact ⟨_, h1, r⟩
/-- what a method makes of the list and its arguments: a condition, the list behind, the answer -/
abbrev LM := Sto → List D → List D → Option (Prop × List D × D)
def lmEnd (g : LM) (a : Addr) (args : List D) (S : Sto) (Q : QD) : Prop := match lstAt S a with
  | some ds => match g S ds args with
    | some p => p.1 ∧ Q p.2.2 (sup S a (.lst p.2.1))
    | none => False
  | none => False
theorem lmEnd_mono {g : LM} {a : Addr} {args : List D} {S : Sto} {Q Q' : QD} (h : ∀ d s, Q d s → Q' d s) (q : lmEnd g a args S Q) : lmEnd g a args S Q' := by
  unfold lmEnd at q ⊢
  split at q
  · split at q
    · exact ⟨q.1, h _ _ q.2⟩
    · exact q.elim
  · exact q.elim
def lmObj (x : D) (S : Sto) (k : Addr → Prop) : Prop := match x with
  | .ref a => (lstAt S a).isSome = true ∧ k a
  | _ => False
def tdLm (g : LM) (to : TED) (ta : TAD) : TED := fun env S Q => to env S fun x S1 => lmObj x S1 fun a => ta env S1 fun args S2 => lmEnd g a args S2 Q
def rLm (K : PySem.W.Frag) (g : LM) : V → List V → Hp → VK → Prop := fun vx vs H Q => ∃ S a args, RepS K S H ∧ vx = .ref a ∧ RepDs K S H args vs ∧ lmEnd g a args S (PL.up K S H Q)
theorem tdLm_mono {g : LM} (ho : DE X o to) (m : ∀ env S (Q Q' : List D → Sto → Prop), (∀ d s, Q d s → Q' d s) → t env S Q → t env S Q') : ∀ env S (Q Q' : QD), (∀ d s, Q d s → Q' d s) → tdLm g to t env S Q → tdLm g to t env S Q' :=
  fun env S Q Q' h q => ho.mono _ _ _ _ (fun x s q => by
    unfold lmObj at q ⊢
    split at q
    · exact ⟨q.1, m _ _ _ _ (fun args s q => lmEnd_mono h q) q.2⟩
    · exact q.elim) q
theorem lm_run {g : LM} {T : String} (hT : T = "list") (ho : DE X o to) (m : ∀ env S (Q Q' : List D → Sto → Prop), (∀ d s, Q d s → Q' d s) → t env S Q → t env S Q') {σ : L2.St} {H : Hp} {Q : VK} (q : liftE X.K (tdLm g to t) σ H Q) :
    tBM X.K T (rLm X.K g) (liftE X.K to) (liftA X.K t) σ H Q := by
  obtain ⟨env, S, hev, hst, q⟩ := q
  refine ⟨env, S, hev, hst, ho.mono _ _ _ _ (fun x S1 q v1 H1 r1 s1 e1 => ?_) q⟩
  unfold lmObj at q
  split at q
  · rename_i a
    cases r1
    obtain ⟨q0, q⟩ := q
    obtain ⟨ds, hd⟩ := Option.isSome_iff_exists.mp q0
    obtain ⟨vs, h1, _⟩ := sto_lst s1 (lstAt_some hd)
    refine ⟨.inl ⟨hT, _, .inl (.inl h1)⟩, env, S1, hev.ext e1, s1, m _ _ _ _ (fun args S2 q2 v2 H2 r2 s2 e2 => ?_) q⟩
    exact ⟨S2, a, args, s2, rfl, r2, lmEnd_mono (fun d s h => up_ext (e1.trans e2) h) q2⟩
  · exact q.elim
theorem de_lm {g : LM} {name : Str} {id : String} {apos : Pos} (slot : Slot "list" name id) (hty : typeOf (.builtin id) = pure (.type "method_descriptor")) (hm : MtR X id (rLm X.K g)) (ho : DE X o to) (ha : DA X (e :: es) t)
    (hbase : attributeBase o name X.env (eval o X.env) = eval o X.env := by rfl)
    (hfew : ((backTo pos (starEach (e :: es) X.env)).all (fun x => !x.1) && (backToKw pos (keywordEach [] X.env)).all (fun x => x.1.isSome)
      && decide ((e :: es).length + ([] : List Keyword).length + (if ([] : List Keyword).isEmpty then 0 else 1) < 30)) = true := by rfl)
    (hline : (apos.endLine == pos.line) = true := by rfl) (hs : starEach (e :: es) X.env = (false, eval e X.env) :: starEach es X.env := by rfl) (hplain : (backTo pos (starEach es X.env)).any (·.1) = false := by rfl) :
    DE X (.Call (.Attribute o name apos) (e :: es) [] pos) (tdLm g to t) where
  mono := tdLm_mono ho ha.mono
  run := pe_imp (pe_bm PySem.F.plainAttrs_list slot hty hm ho.run ha.run hbase hfew hline hs hplain) fun σ H Q q => lm_run rfl ho ha.mono q
theorem de_lm0 {g : LM} {name : Str} {id : String} {apos : Pos} (slot : Slot "list" name id) (hty : typeOf (.builtin id) = pure (.type "method_descriptor")) (hm : MtR X id (rLm X.K g)) (ho : DE X o to)
    (hbase : attributeBase o name X.env (eval o X.env) = eval o X.env := by rfl) (hline : (apos.endLine == pos.line) = true := by rfl) : DE X (.Call (.Attribute o name apos) [] [] pos) (tdLm g to tdNil) where
  mono := tdLm_mono ho (da_nil (X := X)).mono
  run := pe_imp (pe_bm0 PySem.F.plainAttrs_list slot hty hm ho.run hbase hline) fun σ H Q q => by
    obtain ⟨env, S, he, hs, q2⟩ := lm_run rfl ho (da_nil (X := X)).mono q
    refine ⟨env, S, he, hs, ho.mono _ _ _ _ (fun x S1 q3 v1 H1 r1 s1 e1 => ?_) q2⟩
    obtain ⟨h1, env2, S2, _, hs2, q4⟩ := q3 v1 H1 r1 s1 e1
    exact ⟨h1, q4 [] H1 .nil hs2 Ext.refl⟩
theorem lmEnd_inv {g : LM} {a : Addr} {args : List D} {S : Sto} {Q : QD} (q : lmEnd g a args S Q) : ∃ ds c ds' r, S a = some (.lst ds) ∧ g S ds args = some (c, ds', r) ∧ c ∧ Q r (sup S a (.lst ds')) := by
  unfold lmEnd at q
  split at q
  · rename_i ds e
    split at q
    · rename_i p e2
      exact ⟨ds, p.1, p.2.1, p.2.2, lstAt_some e, e2, q.1, q.2⟩
    · exact q.elim
  · exact q.elim
def gAppend : LM := fun _ ds args => match args with
  | [d] => some (ds.length < sizeLine, ds ++ [d], .non)
  | _ => none
theorem mtd_append : MtR X "list.append" (rLm X.K gAppend) := fun pins s σ H vx vs v us Q I rx rv ⟨S, a, args, hs, ex, r, q⟩ => by
  obtain ⟨ds, c, ds', rr, e1, e2, hc, q⟩ := lmEnd_inv q
  unfold gAppend at e2
  split at e2
  · cases e2
    subst ex
    obtain ⟨w, rfl, rw'⟩ := r.one_inv
    obtain ⟨ws, h1, rl⟩ := sto_lst hs e1
    exact mt_append pins s σ H _ _ v us Q I rx rv ⟨a, ws, w, rfl, rfl, h1, by rw [← rl.len]; exact hc, q .non _ .non (hs.write e1 (.lst (rl.append (RepDs.one rw')))) (Ext.write e1)⟩
  · cases e2
def gExtend : LM := fun S ds args => match args with
  | [x] => match getL S x with
    | some es => some (ds.length + es.length ≤ sizeLine, ds ++ es, .non)
    | none => none
  | _ => none
theorem mtd_extend : MtR X "list.extend" (rLm X.K gExtend) := fun pins s σ H vx vs v us Q I rx rv ⟨S, a, args, hs, ex, r, q⟩ => by
  obtain ⟨ds, c, ds', rr, e1, e2, hc, q⟩ := lmEnd_inv q
  unfold gExtend at e2
  split at e2
  · split at e2
    · rename_i es eg
      cases e2
      subst ex
      obtain ⟨w, rfl, rw'⟩ := r.one_inv
      obtain ⟨b, us', rfl, hb, rb⟩ := getL_rep hs rw' eg
      obtain ⟨ws, h1, rl⟩ := sto_lst hs e1
      exact mt_extend pins s σ H _ _ v us Q I rx rv ⟨a, b, ws, us', rfl, rfl, h1, hb, by rw [← rl.len, ← rb.len]; exact hc, q .non _ .non (hs.write e1 (.lst (rl.append rb))) (Ext.write e1)⟩
    · cases e2
  · cases e2
def gPop : LM := fun _ ds args => match args with
  | [] => match ds[ds.length - 1]? with
    | some d => some (True, ds.dropLast, d)
    | none => none
  | _ => none
theorem mtd_pop : MtR X "list.pop" (rLm X.K gPop) := fun pins s σ H vx vs v us Q I rx rv ⟨S, a, args, hs, ex, r, q⟩ => by
  obtain ⟨ds, c, ds', rr, e1, e2, hc, q⟩ := lmEnd_inv q
  unfold gPop at e2
  split at e2
  · split at e2
    · rename_i d ed
      cases e2
      subst ex
      cases r
      obtain ⟨ws, h1, rl⟩ := sto_lst hs e1
      obtain ⟨w, ew, rw'⟩ := rl.get ed
      exact mt_pop pins s σ H _ _ v us Q I rx rv ⟨a, ws, w, rfl, rfl, h1, by rw [← rl.len]; exact ew, q _ _ (rw'.ext (Ext.write e1)) (hs.write e1 (.lst rl.dropLast)) (Ext.write e1)⟩
    · cases e2
  · cases e2

/-! ### what is walked -/
variable {tg : Expr}
theorem yields_list {K : PySem.W.Frag} {S : Sto} {H : Hp} {a : Addr} {vs : List V} {ds : List D} (n : S a = none) (h : H a = some (.lst vs)) (r : RepDs K S H ds vs) : Yields K S H (Itl K a) ds where
  go := fun S' H' e hs i d ed => by
    obtain ⟨v, ev, rv⟩ := r.get ed
    have h2 : SqL K H' a vs := .inl (.inl (e a _ n h).1)
    refine ⟨⟨vs, v, h2, ev⟩, ?_⟩
    rintro x H'' ⟨rfl, hx⟩
    have := hx vs h2
    rw [ev] at this; cases this
    exact ⟨rv.ext e, hs, Ext.refl⟩
  stop := fun S' H' e hs => ⟨vs, .inl (.inl (e a _ n h).1), by rw [← r.len]; exact Nat.le_refl _⟩
theorem yields_tup {K : PySem.W.Frag} {S : Sto} {H : Hp} {a : Addr} {vs : List V} {ds : List D} (h : RT K S H a vs) (r : RepDs K S H ds vs) : Yields K S H (Itt K a) ds where
  go := fun S' H' e hs i d ed => by
    obtain ⟨v, ev, rv⟩ := r.get ed
    have h2 : SqT K H' a vs := (h.ext e).sq
    refine ⟨⟨vs, v, h2, ev⟩, ?_⟩
    rintro x H'' ⟨rfl, hx⟩
    have := hx vs h2
    rw [ev] at this; cases this
    exact ⟨rv.ext e, hs, Ext.refl⟩
  stop := fun S' H' e hs => ⟨vs, (h.ext e).sq, by rw [← r.len]; exact Nat.le_refl _⟩
/-- a list or a tuple that is a value -/
def seqV : D → Option (List D)
  | .lst ds => some ds
  | .tup ds => some ds
  | _ => none
def tdSeqI (te : TED) : TID := fun env S Q => te env S fun d S1 => match seqV d with
  | some ds => Q ds S1
  | none => False
theorem di_seq (he : DE X e te) : DI X tg e (tdSeqI te) where
  mono := fun env S Q Q' h q => he.mono _ _ _ _ (fun d s q => by
    split at q
    · exact h _ _ q
    · exact q.elim) q
  run := ⟨fun pins s σ H R I ⟨env, S, hev, hst, q⟩ => by
    refine thn (he.run.run pins s σ H (fun v H1 => ∃ d S1 ds, RepD X.K S1 H1 d v ∧ RepS X.K S1 H1 ∧ Ext S H S1 H1 ∧ seqV d = some ds ∧ ∀ J H', Yields X.K S1 H' J ds → RepS X.K S1 H' → Ext S H S1 H' → R J H') I ⟨env, S, hev, hst, he.mono _ _ _ _ (fun d S1 q v H1 r1 s1 e1 => ?_) q⟩) ?_
    · split at q
      · rename_i ds ed
        exact ⟨d, S1, ds, r1, s1, e1, ed, q⟩
      · exact q.elim
    · rintro u s1 ⟨v, H1, I1, rv, d, S1, ds, r1, hs1, e1, ed, q1⟩
      -- the iterator is a new object, out of what is tracked
      have young : ∀ b : Addr, b ∈ [s1.heap.objs.size] → FpOk X pins H1 b := by
        intro b hb
        rw [List.mem_singleton] at hb
        rw [hb]
        exact I1.fpOk (Nat.le_refl _) (I1.hok.fresh (Nat.le_refl _))
      unfold seqV at ed
      split at ed
      · cases ed
        cases r1 with
        | lst n h r =>
          cases rv
          obtain ⟨its, _, pl, _⟩ := I1.list (SqL.of (K := X.K) h)
          refine wpAny_pyIter_list pl.isList ?_
          exact ⟨s1.heap.objs.size, [s1.heap.objs.size], _, Itl X.K _, H1, rfl, I1.kept (t' := s1.toks) fun b o e => Heap.get?_push_of_some _ e, turn_list _ _, ⟨_, Heap.get?_push_size _ rfl, rfl, rfl⟩, young, q1 _ H1 (yields_list n h r) hs1 e1⟩
      · cases ed
        cases r1 with
        | tup h r =>
          cases rv
          obtain ⟨its, _, pl, _⟩ := I1.tuple h.sq
          refine wpAny_pyIter_tuple (items := its.toArray) pl ?_
          exact ⟨s1.heap.objs.size, [s1.heap.objs.size], _, Itt X.K _, H1, rfl, I1.kept (t' := s1.toks) fun b o e => Heap.get?_push_of_some _ e, turn_tuple _ _, ⟨_, Heap.get?_push_size _ rfl, rfl, rfl⟩, young, q1 _ H1 (yields_tup h r) hs1 e1⟩
      · cases ed⟩
/-- range(n), range(a, b) -/
def upto (lo : Int) (n : Nat) : List D := (List.range n).map fun i : Nat => D.int (lo + i)
theorem yields_range {K : PySem.W.Frag} {S : Sto} {H : Hp} {lo : Int} {n : Nat} : Yields K S H (Itr lo n) (upto lo n) where
  go := fun S' H' e hs i d ed => by
    have hi : i < n := by
      have := (List.getElem?_eq_some_iff.mp ed).1
      unfold upto at this
      simpa using this
    have e2 : d = .int (lo + i) := by
      unfold upto at ed
      rw [List.getElem?_map, List.getElem?_range hi] at ed
      exact (Option.some.inj ed).symm
    refine ⟨hi, ?_⟩
    rintro x H'' ⟨rfl, rfl⟩
    rw [e2]
    exact ⟨.int _, hs, Ext.refl⟩
  stop := fun S' H' e hs => by
    show n ≤ (upto lo n).length
    unfold upto
    simp
def rng1 (j : Int) : Prop := -(2 ^ 62) ≤ j ∧ j < 2 ^ 62
def tdRng1 (ta : TAD) : TID := fun env S Q => ta env S fun ds S1 => match ds with
  | [.int j] => rng1 j ∧ Q (upto 0 j.toNat) S1
  | _ => False
def tdRng2 (ta : TAD) : TID := fun env S Q => ta env S fun ds S1 => match ds with
  | [.int i, .int j] => (rng1 i ∧ rng1 j) ∧ Q (upto i (j - i).toNat) S1
  | _ => False
theorem di_range1 {a : Expr} {p pos : Pos} (hg : Gl X "range") (hm : X.mg "range" = none) (ha : DA X [a] t) (hs : starEach [a] X.env = [(false, eval a X.env)] := by rfl) : DI X tg (.Call (.Name "range" p) [a] [] pos) (tdRng1 t) where
  mono := fun env S Q Q' h q => ha.mono _ _ _ _ (fun d s q => by
    split at q
    · exact ⟨q.1, h _ _ q.2⟩
    · exact q.elim) q
  run := pi_imp (pi_range1 hg hm ha.run hs) fun σ H R ⟨env, S, hev, hst, q⟩ => ⟨env, S, hev, hst, ha.mono _ _ _ _ (fun ds S1 q vs H1 r s1 e1 => by
    split at q
    · obtain ⟨v, rfl, r1⟩ := r.one_inv
      cases r1
      exact ⟨_, rfl, q.1.1, q.1.2, q.2 _ H1 yields_range s1 e1⟩
    · exact q.elim) q⟩
theorem di_range2 {a b : Expr} {p pos : Pos} (hg : Gl X "range") (hm : X.mg "range" = none) (ha : DA X [a, b] t) (hs : starEach [a, b] X.env = [(false, eval a X.env), (false, eval b X.env)] := by rfl) (hs2 : starEach [b] X.env = [(false, eval b X.env)] := by rfl) :
    DI X tg (.Call (.Name "range" p) [a, b] [] pos) (tdRng2 t) where
  mono := fun env S Q Q' h q => ha.mono _ _ _ _ (fun d s q => by
    split at q
    · exact ⟨q.1, h _ _ q.2⟩
    · exact q.elim) q
  run := pi_imp (pi_range2 hg hm ha.run hs hs2) fun σ H R ⟨env, S, hev, hst, q⟩ => ⟨env, S, hev, hst, ha.mono _ _ _ _ (fun ds S1 q vs H1 r s1 e1 => by
    split at q
    · obtain ⟨v, u, rfl, r1, r2⟩ := r.two_inv
      cases r1; cases r2
      exact ⟨_, _, rfl, ⟨q.1.1.1, q.1.1.2, q.1.2.1, q.1.2.2⟩, q.2 _ H1 yields_range s1 e1⟩
    · exact q.elim) q⟩
/-- zip of two lists, of two tuples that are values -/
def zipT : List D → List D → List D
  | x :: xs, y :: ys => .tup [x, y] :: zipT xs ys
  | _, _ => []
theorem zipT_get : ∀ (xs ys : List D) (i : Nat) (d : D), (zipT xs ys)[i]? = some d → ∃ x y, xs[i]? = some x ∧ ys[i]? = some y ∧ d = .tup [x, y]
  | [], ys, i, d, h => by unfold zipT at h; simp at h
  | _ :: _, [], i, d, h => by unfold zipT at h; simp at h
  | x :: xs, y :: ys, 0, d, h => by
    unfold zipT at h
    simp at h
    exact ⟨x, y, rfl, rfl, h.symm⟩
  | x :: xs, y :: ys, i + 1, d, h => by
    unfold zipT at h
    simpa using zipT_get xs ys i d (by simpa using h)
theorem zipT_len : ∀ xs ys : List D, (zipT xs ys).length = min xs.length ys.length
  | [], ys => by unfold zipT; simp
  | _ :: _, [] => by unfold zipT; simp
  | x :: xs, y :: ys => by
    unfold zipT
    rw [List.length_cons, zipT_len xs ys, List.length_cons, List.length_cons]
    omega
theorem pair_new {K : PySem.W.Frag} {S : Sto} {H : Hp} {T : Addr} {x y : D} {v u : V} (hs : RepS K S H) (n : H T = none) (r1 : RepD K S H x v) (r2 : RepD K S H y u) : RepD K S (upd H T (.tup [v, u])) (.tup [x, y]) (.ref T) ∧ RepS K S (upd H T (.tup [v, u])) ∧ Ext S H S (upd H T (.tup [v, u])) :=
  ⟨rep_newT (.cons r1 (.cons r2 .nil)) hs n, hs.new n, Ext.new n⟩
theorem yields_zipL {K : PySem.W.Frag} {S : Sto} {H : Hp} {a b : Addr} {vs us : List V} {ds es : List D} (n : S a = none) (h : H a = some (.lst vs)) (r : RepDs K S H ds vs) (n2 : S b = none) (h2 : H b = some (.lst us)) (r2 : RepDs K S H es us) : Yields K S H (Itz K a b) (zipT ds es) where
  go := fun S' H' e hs i d ed => by
    obtain ⟨x, y, ex, ey, rfl⟩ := zipT_get _ _ _ _ ed
    obtain ⟨v, ev, rv⟩ := r.get ex
    obtain ⟨u, eu, ru⟩ := r2.get ey
    have l1 : SqL K H' a vs := .inl (.inl (e a _ n h).1)
    have l2 : SqL K H' b us := .inl (.inl (e b _ n2 h2).1)
    refine ⟨⟨vs, us, v, u, l1, l2, ev, eu⟩, ?_⟩
    rintro z H'' ⟨T, v', u', rfl, nT, rfl, f1, f2⟩
    have e1 := f1 vs l1
    have e2 := f2 us l2
    rw [ev] at e1; cases e1
    rw [eu] at e2; cases e2
    exact pair_new hs nT (rv.ext e) (ru.ext e)
  stop := fun S' H' e hs => ⟨vs, us, .inl (.inl (e a _ n h).1), .inl (.inl (e b _ n2 h2).1), by rw [zipT_len, ← r.len, ← r2.len]; omega⟩
theorem yields_zipT {K : PySem.W.Frag} {S : Sto} {H : Hp} {a b : Addr} {vs us : List V} {ds es : List D} (h : RT K S H a vs) (r : RepDs K S H ds vs) (h2 : RT K S H b us) (r2 : RepDs K S H es us) : Yields K S H (RZ.ItzT K a b) (zipT ds es) where
  go := fun S' H' e hs i d ed => by
    obtain ⟨x, y, ex, ey, rfl⟩ := zipT_get _ _ _ _ ed
    obtain ⟨v, ev, rv⟩ := r.get ex
    obtain ⟨u, eu, ru⟩ := r2.get ey
    have l1 : SqT K H' a vs := (h.ext e).sq
    have l2 : SqT K H' b us := (h2.ext e).sq
    refine ⟨⟨vs, us, v, u, l1, l2, ev, eu⟩, ?_⟩
    rintro z H'' ⟨T, v', u', rfl, nT, rfl, f1, f2⟩
    have e1 := f1 vs l1
    have e2 := f2 us l2
    rw [ev] at e1; cases e1
    rw [eu] at e2; cases e2
    exact pair_new hs nT (rv.ext e) (ru.ext e)
  stop := fun S' H' e hs => ⟨vs, us, (h.ext e).sq, (h2.ext e).sq, by rw [zipT_len, ← r.len, ← r2.len]; omega⟩
def tdZip (ta : TAD) : TID := fun env S Q => ta env S fun ds S1 => match ds with
  | [.lst xs, .lst ys] => Q (zipT xs ys) S1
  | [.tup xs, .tup ys] => Q (zipT xs ys) S1
  | _ => False
theorem di_zip {e e2 : Expr} {p pos tpos : Pos} {elts : List Expr} {kk : Nat} (hg : Gl X "zip") (hm : X.mg "zip" = none) (ha : DA X [e, e2] t)
    (hs : starEach [e, e2] X.env = (false, eval e X.env) :: starEach [e2] X.env := by rfl) (hpl : (backTo pos (starEach [e2] X.env)).any (·.1) = false := by rfl) : DI X (.Tuple elts kk tpos) (.Call (.Name "zip" p) [e, e2] [] pos) (tdZip t) where
  mono := fun env S Q Q' h q => ha.mono _ _ _ _ (fun d s q => by
    split at q
    · exact h _ _ q
    · exact h _ _ q
    · exact q.elim) q
  run := pi_imp (RZ.pi_zipA hg hm ha.run hs hpl) fun σ H R ⟨env, S, hev, hst, q⟩ => ⟨env, S, hev, hst, ha.mono _ _ _ _ (fun ds S1 q vs H1 r s1 e1 => by
    split at q
    · obtain ⟨v, u, rfl, r1, r2⟩ := r.two_inv
      cases r1 with
      | lst n1 h1 l1 =>
        cases r2 with
        | lst n2 h2 l2 => exact ⟨_, _, _, _, rfl, .inl ⟨.inl (.inl h1), .inl (.inl h2), q _ H1 (yields_zipL n1 h1 l1 n2 h2 l2) s1 e1⟩⟩
    · obtain ⟨v, u, rfl, r1, r2⟩ := r.two_inv
      cases r1 with
      | tup h1 l1 =>
        cases r2 with
        | tup h2 l2 => exact ⟨_, _, _, _, rfl, .inr ⟨h1.sq, h2.sq, q _ H1 (yields_zipT h1 l1 h2 l2) s1 e1⟩⟩
    · exact q.elim) q⟩
/-- enumerate of a list that is a value -/
def enumT : Nat → List D → List D
  | _, [] => []
  | i, x :: xs => .tup [.int (i : Nat), x] :: enumT (i + 1) xs
theorem enumT_get : ∀ (xs : List D) (k i : Nat) (d : D), (enumT k xs)[i]? = some d → ∃ x, xs[i]? = some x ∧ d = .tup [.int ((k + i : Nat) : Int), x]
  | [], k, i, d, h => by unfold enumT at h; simp at h
  | x :: xs, k, 0, d, h => by
    unfold enumT at h
    simp at h
    exact ⟨x, rfl, by rw [← h]; simp⟩
  | x :: xs, k, i + 1, d, h => by
    unfold enumT at h
    obtain ⟨y, e1, e2⟩ := enumT_get xs (k + 1) i d (by simpa using h)
    exact ⟨y, by simpa using e1, by rw [e2, show k + 1 + i = k + (i + 1) by omega]⟩
theorem enumT_len : ∀ (k : Nat) (xs : List D), (enumT k xs).length = xs.length
  | _, [] => rfl
  | k, x :: xs => by unfold enumT; rw [List.length_cons, enumT_len, List.length_cons]
theorem yields_enum {K : PySem.W.Frag} {S : Sto} {H : Hp} {a : Addr} {vs : List V} {ds : List D} (n : S a = none) (h : H a = some (.lst vs)) (r : RepDs K S H ds vs) : Yields K S H (Ite K a) (enumT 0 ds) where
  go := fun S' H' e hs i d ed => by
    obtain ⟨x, ex, rfl⟩ := enumT_get _ _ _ _ ed
    obtain ⟨v, ev, rv⟩ := r.get ex
    have l1 : SqL K H' a vs := .inl (.inl (e a _ n h).1)
    refine ⟨⟨vs, v, l1, ev⟩, ?_⟩
    rintro z H'' ⟨T, v', rfl, nT, rfl, f1⟩
    have e1 := f1 vs l1
    rw [ev] at e1; cases e1
    rw [Nat.zero_add]
    exact pair_new hs nT (.int _) (rv.ext e)
  stop := fun S' H' e hs => ⟨vs, .inl (.inl (e a _ n h).1), by rw [enumT_len, ← r.len]; exact Nat.le_refl _⟩
def tdEnum (ta : TAD) : TID := fun env S Q => ta env S fun ds S1 => match ds with
  | [.lst xs] => Q (enumT 0 xs) S1
  | _ => False
theorem di_enum {e : Expr} {p pos tpos : Pos} {elts : List Expr} {kk : Nat} (hg : Gl X "enumerate") (hm : X.mg "enumerate" = none) (ha : DA X [e] t) (hs : starEach [e] X.env = [(false, eval e X.env)] := by rfl) :
    DI X (.Tuple elts kk tpos) (.Call (.Name "enumerate" p) [e] [] pos) (tdEnum t) where
  mono := fun env S Q Q' h q => ha.mono _ _ _ _ (fun d s q => by
    split at q
    · exact h _ _ q
    · exact q.elim) q
  run := pi_imp (pi_enum hg hm ha.run hs) fun σ H R ⟨env, S, hev, hst, q⟩ => ⟨env, S, hev, hst, ha.mono _ _ _ _ (fun ds S1 q vs H1 r s1 e1 => by
    split at q
    · obtain ⟨v, rfl, r1⟩ := r.one_inv
      cases r1 with
      | lst n1 h1 l1 => exact ⟨_, _, rfl, .inl (.inl h1), q _ H1 (yields_enum n1 h1 l1) s1 e1⟩
    · exact q.elim) q⟩

/-! ### list comprehensions -/
def tdLcGo (p : Addr) (step : D → Sto → (Option D → Sto → Prop) → Prop) : List D → List D → Sto → (List D → Sto → Prop) → Prop
  | [], acc, S, Q => S p = some (.lst acc) ∧ Q acc (sdel S p)
  | x :: r, acc, S, Q => S p = some (.lst acc) ∧ step x S fun o S1 => S1 p = some (.lst acc) ∧ match o with
    | some y => acc.length < sizeLine ∧ tdLcGo p step r (acc ++ [y]) (sup S1 p (.lst (acc ++ [y]))) Q
    | none => tdLcGo p step r acc S1 Q
/-- one turn: the target, the test, the element -/
def lcStep (pt : TPat) (tt : TTD) (te : TED) (env : Env') (x : D) (S : Sto) (k : Option D → Sto → Prop) : Prop := match bindD pt x env with
  | some env' => tt env' S fun b S1 => if b = true then te env' S1 fun y S2 => k (some y) S2 else k none S1
  | none => False
def tdLc (w : TID) (pt : TPat) (tt : TTD) (te : TED) (own : List Nat) : TED := fun env S Q => w env S fun ds S1 => ∀ p, S1 p = none → tdLcGo p (lcStep pt tt te (wipeD env own)) ds [] (sup S1 p (.lst [])) fun acc S2 => Q (.lst acc) S2
structure DTs (X : Cx) (ifs : List Expr) (t : TTD) : Prop where
  mono : ∀ env S (Q Q' : Bool → Sto → Prop), (∀ d s, Q d s → Q' d s) → t env S Q → t env S Q'
  run : PTs X ifs (liftT X.K t)
def tdYes : TTD := fun _ S Q => Q true S
theorem pts_imp {e : List Expr} {t t' : TT} (h : PTs X e t) (i : ∀ σ H Q, t' σ H Q → t σ H Q) : PTs X e t' := ⟨fun pins s σ H Q I q => h.run pins s σ H Q I (i σ H Q q)⟩
theorem dts_nil : DTs X [] tdYes where
  mono := fun env S Q Q' h q => h _ _ q
  run := pts_imp pts_nil fun σ H Q ⟨env, S, he, hs, q⟩ => q H hs Ext.refl
theorem dts_one {c : Expr} {t : TTD} (h : DT X c t) : DTs X [c] t := ⟨h.mono, pts_one h.run⟩
theorem lcGo_mono {p : Addr} {step : D → Sto → (Option D → Sto → Prop) → Prop} (m : ∀ x S (k k' : Option D → Sto → Prop), (∀ o s, k o s → k' o s) → step x S k → step x S k') {Q Q' : List D → Sto → Prop} (h : ∀ d s, Q d s → Q' d s) : ∀ (ds acc : List D) (S : Sto), tdLcGo p step ds acc S Q → tdLcGo p step ds acc S Q'
  | [], acc, S, q => ⟨q.1, h _ _ q.2⟩
  | x :: r, acc, S, q => ⟨q.1, m _ _ _ _ (fun o s q => ⟨q.1, by
    have q2 := q.2
    split at q2
    · exact ⟨q2.1, lcGo_mono m h r _ _ q2.2⟩
    · exact lcGo_mono m h r _ _ q2⟩) q.2⟩
theorem lcStep_mono {pt : TPat} {tt : TTD} {te : TED} {env : Env'} (m1 : ∀ env S (Q Q' : Bool → Sto → Prop), (∀ d s, Q d s → Q' d s) → tt env S Q → tt env S Q') (m2 : ∀ env S (Q Q' : QD), (∀ d s, Q d s → Q' d s) → te env S Q → te env S Q') :
    ∀ x S (k k' : Option D → Sto → Prop), (∀ o s, k o s → k' o s) → lcStep pt tt te env x S k → lcStep pt tt te env x S k' := fun x S k k' h q => by
  unfold lcStep at q ⊢
  split at q
  · exact m1 _ _ _ _ (fun b s q => by
      cases b with
      | true => rw [if_pos rfl] at q ⊢; exact m2 _ _ _ _ (fun y s q => h _ _ q) q
      | false => rw [if_neg Bool.false_ne_true] at q ⊢; exact h _ _ q) q
  · exact q.elim
theorem lc_lift {w : TID} {pt : TPat} {tt : TTD} {vs : List Nat} {K : PySem.W.Frag} (m1 : ∀ env S (Q Q' : Bool → Sto → Prop), (∀ d s, Q d s → Q' d s) → tt env S Q → tt env S Q') (m2 : ∀ env S (Q Q' : QD), (∀ d s, Q d s → Q' d s) → te env S Q → te env S Q')
    (m3 : ∀ env S (Q Q' : List D → Sto → Prop), (∀ d s, Q d s → Q' d s) → w env S Q → w env S Q') (hown : ∀ j ∈ slots pt, j ∈ vs) {σ : L2.St} {H : Hp} {Q : VK} (q : liftE K (tdLc w pt tt te vs) σ H Q) :
    tLc (liftI K w) (gOf K pt) (liftT K tt) (liftE K te) vs σ H Q := by
  obtain ⟨env, S, hev, hst, q⟩ := q
  refine ⟨env, S, hev, hst, m3 _ _ _ _ (fun ds S1 q J H1 Y s1 e1 => ?_) q⟩
  intro p hp
  have q0 := q p (s1.free hp)
  have e2 : Ext S1 H1 (sup S1 p (.lst [])) (upd H1 p (.lst [])) := Ext.newS hp
  have s2 : RepS K (sup S1 p (.lst [])) (upd H1 p (.lst [])) := s1.newS hp (.lst .nil)
  -- what holds between two turns
  let Wd : Nat → Hp → Prop := fun i H' => ∃ Sn acc, RepS K Sn H' ∧ Ext S1 H1 Sn H' ∧ tdLcGo p (lcStep pt tt te (wipeD env vs)) (ds.drop i) acc Sn fun acc S2 => PL.up K S H Q (.lst acc) S2
  refine ⟨fun i m H' => i + m = ds.length ∧ Wd i H', ⟨ds.length, by omega, _, [], s2, e2, q0⟩, fun i m H2 hW => ?_⟩
  obtain ⟨hm, Sn, acc, sn, en, q2⟩ := hW
  by_cases hi : i < ds.length
  · have hd : ds[i]? = some ds[i] := List.getElem?_eq_getElem hi
    rw [List.drop_eq_getElem_cons hi] at q2
    obtain ⟨_, q2⟩ := q2
    obtain ⟨g1, g2⟩ := Y.go Sn H2 en sn i _ hd
    refine .inr ⟨g1, Wd (i + 1), fun H' h => ⟨m - 1, by omega, by omega, h⟩, fun x H3 hy => ?_⟩
    obtain ⟨rx, s3, e3⟩ := g2 x H3 hy
    have e13 : Ext S1 H1 Sn H3 := en.trans e3
    unfold lcStep at q2
    split at q2
    · rename_i env' eb
      have hw : RepEnv K Sn H3 (wipeD env vs) (wipe σ vs) := ((hev.ext e1).ext e13).wipe vs
      refine bind_ok pt eb rx hw fun σ3 he3 so => ?_
      refine ⟨by rw [wipe_same so hown, wipe_idem], env', Sn, he3, s3, m1 _ _ _ _ (fun b S4 q4 H4 s4 e4 => ?_) q2⟩
      cases b with
      | false =>
        rw [if_neg Bool.false_ne_true] at q4
        refine iteF ?_
        exact ⟨S4, acc, s4, e13.trans e4, q4.2⟩
      | true =>
        rw [if_pos rfl] at q4
        refine iteT ?_
        refine ⟨env', S4, he3.ext e4, s4, m2 _ _ _ _ (fun y S5 q5 v5 H5 r5 s5 e5 => ?_) q4⟩
        obtain ⟨q6, q7, q8⟩ := q5
        obtain ⟨ws, h5, r6⟩ := sto_lst s5 q6
        refine ⟨ws, h5, by rw [← r6.len]; exact q7, _, _, s5.write q6 (.lst (r6.append (RepDs.one r5))), ?_, q8⟩
        exact (e13.trans (e4.trans e5)).trans (Ext.write q6)
    · exact q2.elim
  · have hi' : i = ds.length := by omega
    rw [List.drop_of_length_le (by omega)] at q2
    refine .inl ⟨hi' ▸ Y.stop Sn H2 en sn, ?_⟩
    obtain ⟨ws, h5, r6⟩ := sto_lst sn q2.1
    exact q2.2 (.ref p) H2 (.lst sdel_same h5 (r6.ext SLe.del.ext)) (SLe.del.rep sn) ((e1.trans en).trans SLe.del.ext)
theorem de_lc {elt iter : Expr} {ifs : List Expr} {scope : Scope} {own : List (Str × Nat)} {w : TID} {pt : TPat} {tt : TTD} (hc : X.calm = true) (hN : X.N.Nodup) (hi : DI X tg iter w) (ok : BlkOk X.N X.env.scope scope own) (hown : ∀ j ∈ slots pt, j ∈ own.map (·.2))
    (hg : ∀ (s : Shared) (H : Hp) (C : Addr) (cl : List (Str × Addr)) (fp : List Addr), DP (X.blk s H scope (compEnvC scope cl C X.env) fp) tg pt)
    (ht : ∀ (s : Shared) (H : Hp) (C : Addr) (cl : List (Str × Addr)) (fp : List Addr), DTs (X.blk s H scope (compEnvC scope cl C X.env) fp) ifs tt)
    (he : ∀ (s : Shared) (H : Hp) (C : Addr) (cl : List (Str × Addr)) (fp : List Addr), DE (X.blk s H scope (compEnvC scope cl C X.env) fp) elt te)
    (hs : ∀ x, foldedSetIterable iter X.env x = pure x := by intro _; rfl) : DE X (.ListComp elt [⟨tg, iter, ifs, 0⟩] scope pos) (tdLc w pt tt te (own.map (·.2))) where
  mono := fun env S Q Q' h q => hi.mono _ _ _ _ (fun ds s q p n => lcGo_mono (lcStep_mono (ht X.s_0 X.H_0 0 [] []).mono (he X.s_0 X.H_0 0 [] []).mono) (fun d s q => h _ _ q) _ _ _ (q p n)) q
  run := pe_imp (pe_lc hc hN hi.run ok (fun s H C cl fp => (hg s H C cl fp).run) (fun s H C cl fp => (ht s H C cl fp).run) (fun s H C cl fp => (he s H C cl fp).run) hs) fun σ H Q q => lc_lift (ht X.s_0 X.H_0 0 [] []).mono (he X.s_0 X.H_0 0 [] []).mono hi.mono hown q
end
end PL

namespace PL
open PySem PySem.Spec PyProof.Rows L2

/-! ### the law's own call, from its promise over D -/
def emptyS : Sto := fun _ => none
theorem repS_empty {K : PySem.W.Frag} {H : Hp} : RepS K emptyS H := fun a o e => by cases e
theorem ints_rep {K : PySem.W.Frag} {S : Sto} {H : Hp} : ∀ ns : List Int, RepDs K S H (ns.map D.int) (ns.map V.int)
  | [] => .nil
  | n :: r => .cons (.int n) (ints_rep r)
/-- the heap in which the script alone may be tracked -/
structure ScriptAt (P : Program) (w : World) (K : PySem.W.Frag) (h : Heap) (a : Addr) (ns : List Int) (H : Hp) : Prop where
  only : ∀ b, H b = none ∨ (b = a ∧ K.lookup a = none ∧ ∃ o, h.get? a = some o ∧ (∀ es ep, o.data ≠ .dict es ep) ∧ H b = some (.frz o (.lst (ns.map V.int))))
  seen : SqL K H a (ns.map V.int)
  ok : HOk P w H h
theorem script_at {P : Program} {w : World} {K : PySem.W.Frag} {h : Heap} {a : Addr} {vs : List Value} {ns : List Int} (KX : K.In h) (ha : h.get? a = some { cls := .type "list", data := .seq vs.toArray }) (hi : IntsAre vs ns) (hl : ns.length ≤ sizeLine) : ∃ H, ScriptAt P w K h a ns H := by
  have rv := vals_ints hi
  have hlen := hi.length
  by_cases hk : ∃ o, K.lookup a = some o
  · obtain ⟨o, hk⟩ := hk
    have e := (KX a o hk).symm.trans ha
    have e2 : o = { cls := .type "list", data := .seq vs.toArray } := Option.some.inj e
    refine ⟨fun _ => none, fun _ => .inl rfl, .inr ⟨o, vs.toArray, 0, hk, ?_⟩, fun b u z => by cases z⟩
    rw [e2]
    exact ⟨rfl, rfl, rfl, by simpa [hlen] using hl, by simpa using rv⟩
  · have hk0 : K.lookup a = none := by
      cases q : K.lookup a with
      | none => rfl
      | some o => exact (hk ⟨o, q⟩).elim
    let G : Hp := fun b => if b = a then some (HO.frz { cls := .type "list", data := .seq vs.toArray } (.lst (ns.map V.int))) else none
    have at_a : G a = some (.frz { cls := .type "list", data := .seq vs.toArray } (.lst (ns.map V.int))) := if_pos rfl
    refine ⟨G, fun b => ?_, .inl (.inr ⟨_, at_a⟩), fun b u z => ?_⟩
    · by_cases e : b = a
      · exact .inr ⟨e, hk0, _, ha, (fun es ep z => by cases z), if_pos e⟩
      · exact .inl (if_neg e)
    · by_cases e : b = a
      · subst e
        cases at_a.symm.trans z
        exact ⟨ha, by simpa using hl, vs, 0, rv, ha⟩
      · exact absurd ((if_neg e).symm.trans z) (by simp)
theorem law_run {P : Program} {w : World} {K : PySem.W.Frag} {mg mb : Str → Option Value} {k : Nat} {fa a : Addr} {fd : FuncData} {x : Str} {sp : SpD} {s1 : Shared} {vs : List Value} {ns : List Int}
    (KX : K.In s1.heap) (hns : s1.heap.Ns mainGlobals mg) (hb : s1.heap.Ns builtinsNs mb) (hbb : ∀ x : Str, x ≠ "__name__" → mb x = bootBuiltins x) (hlim : s1.heap.NoLimit) (hg : s1.gens = #[])
    (ha : s1.heap.get? a = some { cls := .type "list", data := .seq vs.toArray }) (hi : IntsAre vs ns) (hl : ns.length ≤ sizeLine) (hr : Room k callerA)
    (F : ∀ base : Heap, K.In base → base.Ns mainGlobals mg → DFn P w K mg base k fa fd [x] sp) (hbind : ∀ (s : Shared) (u : Value), BindsTo s fd ⟨[u], []⟩ [(x, u)])
    (hsp : sp [.scr (ns.map D.int)] emptyS fun d _ => d = .bl true) :
    codeAny (model P w) callerA (.call (.ref fa) ⟨[.ref a], []⟩) (fun r s' => r = .ok (.ret (.bool true)) ∧ OldK s1.heap s'.heap ∧ s'.os = s1.os ∧ AllBare s'.gens) s1 := by
  obtain ⟨H, only, seen, ok⟩ := script_at (P := P) (w := w) KX ha hi hl
  -- what is no script is still there where the script is hidden
  have clear : ∀ {b : Addr} {o : Obj}, s1.heap.get? b = some o → (∀ z, H b = some z → False) → (hidT s1.heap H).get? b = some o := fun {b o} e n => hidT_get e (by
    cases q : H b with
    | none => rfl
    | some z => exact (n z q).elim)
  have dicts : ∀ {b : Addr} {m : Str → Option Value}, s1.heap.Ns b m → (hidT s1.heap H).Ns b m := by
    rintro b m ⟨o, es, ep, e, d, r⟩
    refine ⟨o, es, ep, clear e fun z q => ?_, d, r⟩
    rcases only b with n | ⟨eb, _, o2, e2, nd, _⟩
    · rw [n] at q; cases q
    · subst eb
      rw [e] at e2; cases e2
      exact nd es ep d
  have inK : K.In (hidT s1.heap H) := fun b o e => clear (KX b o e) fun z q => by
    rcases only b with n | ⟨eb, nk, _⟩
    · rw [n] at q; cases q
    · subst eb; rw [nk] at e; cases e
  have md : Mod K mg (hidT s1.heap H) := by
    obtain ⟨mc, l1, l2⟩ := hlim
    exact ⟨inK, dicts hns, ⟨mb, dicts hb, hbb⟩, ⟨mc, dicts l1, l2⟩⟩
  have e0 : Env0 P w K mg (hidT s1.heap H) callerA [] s1 H :=
    { frames := rfl, mod := md, bs := fun b o e => of_hidT e, bsz := Nat.le_of_eq (hidT_size _ _), funs := trivial, frf := (fun b hb => by cases hb), hok := ok, bare := .of_eq hg }
  have q0 : spOf K sp [.ref a] H (fun v _ => v = .bl true) E0 := by
    refine ⟨emptyS, [.scr (ns.map D.int)], repS_empty, .cons (.scr (seen.imp (fun h => ⟨rfl, h⟩) fun h => h) (ints_rep ns)) .nil, (F _ inK (dicts hns)).mono _ _ _ _ (fun d s e => ?_) hsp⟩
    subst e
    intro v H' r _ _
    cases r; rfl
  refine codeAny_mono ((F _ inK (dicts hns)).fn.go callerA [] s1 H ⟨[.ref a], []⟩ [.ref a] [.ref a] _ _ rfl hr e0 (hbind s1 (.ref a)) (.cons rfl .nil) q0) ?_
  intro r s' h
  match r, h with
  | .error e, h => exact False.elim h
  | .ok .next, h => exact False.elim h
  | .ok .brk, h => exact False.elim h
  | .ok .cont, h => exact False.elim h
  | .ok (.ret u), h =>
    obtain ⟨v, H', os, bare, un, ok', rv, q⟩ := h
    have q' : v = .bl true := q
    subst q'
    cases rv
    refine ⟨rfl, OldK.of_keep fun b o e => ?_, os, bare⟩
    rcases only b with n | ⟨eb, _, o2, e2, _, q2⟩
    · exact un.keep b o e n (fun z => by cases z) (fun z => by cases z)
    · subst eb
      rw [e] at e2; cases e2
      exact (ok' b _ (un.frzs b o _ q2)).1
/-- the end of a law's row: from the promise of its def -/
theorem pl_walk {l : PySem.W.OpenLaw} {n k : Nat} {q : Program} {loose : List Str} {XP : (Str → Option Value) → Heap → Prop} {YP : World → Heap → Prop} {d : DefRec} {K : Params → PySem.W.Frag} {sp : SpD} {x : Str}
    (hn : l.most = some n) (hn2 : n ≤ sizeLine) (hdf : d.params.defaults = []) (hr : Room k callerA) (hY : ∀ (w : World) (h : Heap), YP w h → (K w.params).In h)
    (F : ∀ (w : World) (mg : Str → Option Value) (fa : Addr) (h : Heap), (K w.params).In h → h.Ns mainGlobals mg → mg d.name = some (.ref fa) →
      ∃ fd : FuncData, (∀ (s : Shared) (u : Value), BindsTo s fd ⟨[u], []⟩ [(x, u)]) ∧ ∀ base : Heap, (K w.params).In base → base.Ns mainGlobals mg → DFn l.prog w (K w.params) mg base k fa fd [x] sp)
    (hsp : ∀ ns : List Int, ns.length ≤ n → sp [.scr (ns.map D.int)] emptyS fun d _ => d = .bl true) : PySem.W.WalkO q loose XP YP l.row.toRowW d [] (fun f vs => PySem.call f vs) := by
  refine Att.attach_call hn hdf ?_
  intro w s0 s1 mg mb fa o pm cd doc a vs ns G Y ho hd hcd hmg hobj hints hlen hg
  obtain ⟨fd, hb, hF⟩ := F w mg fa _ (hY w _ Y) G.T.g hmg
  exact law_run (hY w _ Y) G.T.g G.T.b G.T.builtins G.T.nolimit hg hobj hints (Nat.le_trans hlen hn2) hr hF hb (hsp ns hlen)

/-! ### tables of the module: texts as keys -/
def KTab (K : PySem.W.Frag) (w : World) (d : Addr) (tbl : List (Str × D)) : Prop :=
  ∃ es n, KDict K w d es n ∧ ∀ z, ∃ r, PySem.W.nsIn K d z = some r ∧ match tbl.lookup z with
    | some c => ∃ u v, r = some u ∧ RelV v u ∧ ∀ S H, RepD K S H c v
    | none => r = none
section
variable {X : Cx} {pos : Pos} {e : Expr} {te : TED} {x : Str} {d : Addr} {tbl : List (Str × D)}
def tdKIn (neg : Bool) (tbl : List (Str × D)) (te : TED) : TED := fun env S Q => te env S fun c S1 => match c with
  | .str z => Q (.bl (if neg then !(tbl.lookup z).isSome else (tbl.lookup z).isSome)) S1
  | _ => False
def tdKGet (tbl : List (Str × D)) (te : TED) : TED := fun env S Q => te env S fun c S1 => match c with
  | .str z => match tbl.lookup z with
    | some r => Q r S1
    | none => False
  | _ => False
def kinR (neg : Bool) (tbl : List (Str × D)) (d : Addr) : Sto → D → D → PR := fun _ x y => match x, y with
  | .str z, .ref a => some (a = d, .bl (if neg then !(tbl.lookup z).isSome else (tbl.lookup z).isSome))
  | _, _ => none
theorem lookup_isSome {K : PySem.W.Frag} {w : World} (T : KTab K w d tbl) (z : Str) : ∃ r, PySem.W.nsIn K d z = some r ∧ r.isSome = (tbl.lookup z).isSome := by
  obtain ⟨es, n, D, h⟩ := T
  obtain ⟨r, e1, e2⟩ := h z
  refine ⟨r, e1, ?_⟩
  cases q : tbl.lookup z with
  | none => rw [q] at e2; rw [e2]; rfl
  | some c =>
    rw [q] at e2
    obtain ⟨u, v, rfl, _⟩ := e2
    rfl
theorem dop_kin (T : KTab X.K X.w d tbl) : DOp X (compareOp .In) (rdP (kinR false tbl d)) :=
  dop_P fun pins s σ H vx vy v u Q S x y c r I rx ry hs r1 r2 e hC q => by
    unfold kinR at e
    split at e
    · cases e; cases r1; cases r2
      subst hC
      obtain ⟨o, e1, e2⟩ := lookup_isSome T _
      obtain ⟨es, n, D, _⟩ := T
      refine op_in_kd D pins s σ H _ _ v u Q I rx ry ⟨_, o, rfl, rfl, e1, ?_⟩
      rw [e2]
      exact q _ _ (.bl _) hs Ext.refl
    · cases e
theorem dop_knotIn (T : KTab X.K X.w d tbl) : DOp X (compareOp .NotIn) (rdP (kinR true tbl d)) :=
  dop_P fun pins s σ H vx vy v u Q S x y c r I rx ry hs r1 r2 e hC q => by
    unfold kinR at e
    split at e
    · cases e; cases r1; cases r2
      subst hC
      obtain ⟨o, e1, e2⟩ := lookup_isSome T _
      obtain ⟨es, n, D, _⟩ := T
      refine op_notIn_kd D pins s σ H _ _ v u Q I rx ry ⟨_, o, rfl, rfl, e1, ?_⟩
      rw [e2]
      exact q _ _ (.bl _) hs Ext.refl
    · cases e
/-- the reading without the address -/
theorem DE.weak {e : Expr} {t t' : TED} (h : DE X e t) (m : ∀ env S (Q Q' : QD), (∀ d s, Q d s → Q' d s) → t' env S Q → t' env S Q') (i : ∀ env S Q, t' env S Q → t env S Q) : DE X e t' :=
  ⟨m, pe_imp h.run fun σ H Q ⟨env, S, he, hs, q⟩ => ⟨env, S, he, hs, i _ _ _ q⟩⟩
theorem DT.weak {e : Expr} {t t' : TTD} (h : DT X e t) (m : ∀ env S (Q Q' : Bool → Sto → Prop), (∀ d s, Q d s → Q' d s) → t' env S Q → t' env S Q') (i : ∀ env S Q, t' env S Q → t env S Q) : DT X e t' :=
  ⟨m, pt_imp h.run fun σ H Q ⟨env, S, he, hs, q⟩ => ⟨env, S, he, hs, i _ _ _ q⟩⟩
theorem tdKIn_mono {neg : Bool} (m : ∀ env S (Q Q' : QD), (∀ d s, Q d s → Q' d s) → te env S Q → te env S Q') : ∀ env S (Q Q' : QD), (∀ d s, Q d s → Q' d s) → tdKIn neg tbl te env S Q → tdKIn neg tbl te env S Q' :=
  fun env S Q Q' h q => m _ _ _ _ (fun c s q => by
    split at q
    · exact h _ _ q
    · exact q.elim) q
theorem kin_weak {neg : Bool} (m : ∀ env S (Q Q' : QD), (∀ d s, Q d s → Q' d s) → te env S Q → te env S Q') : ∀ env S (Q : QD), tdKIn neg tbl te env S Q → tdOp (rdP (kinR neg tbl d)) te (tdC (.ref d)) env S Q :=
  fun env S Q q => m _ _ _ _ (fun c s q => by
    split at q
    · exact ⟨rfl, q⟩
    · exact q.elim) q
theorem de_kglob {p : Pos} (hg : Gl X x) (hm : X.mg x = some (.ref d)) (hd : (x == ("__debug__" : Str)) = false := by decide) : DE X (.Name x p) (tdC (.ref d)) := de_glob (v := .ref d) hg hm rfl (fun _ _ => .ref d) hd
theorem de_kin {p : Pos} (T : KTab X.K X.w d tbl) (he : DE X e te) (hg : Gl X x) (hm : X.mg x = some (.ref d)) (hd : (x == ("__debug__" : Str)) = false := by decide) (hb : behindInMarks .In (.Name x p) = false := by rfl) : DE X (.Compare e [.In] [.Name x p] pos) (tdKIn false tbl te) :=
  DE.weak (de_cmp (dop_kin T) he (de_kglob hg hm hd) hb) (tdKIn_mono he.mono) (kin_weak he.mono)
theorem de_knotIn {p : Pos} (T : KTab X.K X.w d tbl) (he : DE X e te) (hg : Gl X x) (hm : X.mg x = some (.ref d)) (hd : (x == ("__debug__" : Str)) = false := by decide) (hb : behindInMarks .NotIn (.Name x p) = false := by rfl) : DE X (.Compare e [.NotIn] [.Name x p] pos) (tdKIn true tbl te) :=
  DE.weak (de_cmp (dop_knotIn T) he (de_kglob hg hm hd) hb) (tdKIn_mono he.mono) (kin_weak he.mono)
theorem dt_kin {p : Pos} (T : KTab X.K X.w d tbl) (he : DE X e te) (hg : Gl X x) (hm : X.mg x = some (.ref d)) (hd : (x == ("__debug__" : Str)) = false := by decide) (hb : behindInMarks .In (.Name x p) = false := by rfl) : DT X (.Compare e [.In] [.Name x p] pos) (tdB (tdKIn false tbl te)) :=
  DT.weak (dt_cmp (dop_kin T) he (de_kglob hg hm hd) hb) (tdB_mono (tdKIn_mono he.mono)) fun env S Q q => kin_weak he.mono env S _ q
theorem dt_knotIn {p : Pos} (T : KTab X.K X.w d tbl) (he : DE X e te) (hg : Gl X x) (hm : X.mg x = some (.ref d)) (hd : (x == ("__debug__" : Str)) = false := by decide) (hb : behindInMarks .NotIn (.Name x p) = false := by rfl) : DT X (.Compare e [.NotIn] [.Name x p] pos) (tdB (tdKIn true tbl te)) :=
  DT.weak (dt_cmp (dop_knotIn T) he (de_kglob hg hm hd) hb) (tdB_mono (tdKIn_mono he.mono)) fun env S Q q => kin_weak he.mono env S _ q
/-- d[e] -/
def kgetR (tbl : List (Str × D)) (d : Addr) : D → D → Sto → QD → Prop := fun x y S Q => match x, y with
  | .ref a, .str z => a = d ∧ match tbl.lookup z with
    | some r => Q r S
    | none => False
  | _, _ => False
theorem dix_k (T : KTab X.K X.w d tbl) : IxR X (fun vx vy H Q => ∃ S x y, RepS X.K S H ∧ RepD X.K S H x vx ∧ RepD X.K S H y vy ∧ kgetR tbl d x y S (PL.up X.K S H Q)) := by
  intro value slice pins s σ H vx vy v u Q I rx ry h hsub
  obtain ⟨S, x, y, hs, r1, r2, q⟩ := h
  unfold kgetR at q
  split at q
  · cases r1; cases r2
    obtain ⟨rfl, q⟩ := q
    split at q
    · rename_i c ec
      obtain ⟨es, n, D, h⟩ := T
      obtain ⟨o, e1, e2⟩ := h _
      rw [ec] at e2
      obtain ⟨u0, v0, rfl, r0, rep⟩ := e2
      exact ix_kdict value slice pins s σ H _ _ v u Q I rx ry ⟨_, _, v0, rfl, rfl, ⟨es, n, u0, D.at_, D.lit, e1, r0⟩, q v0 H (rep S H) hs Ext.refl⟩ hsub
    · exact q.elim
  · exact q.elim
theorem kgetR_mono : ∀ x y S (Q Q' : QD), (∀ d s, Q d s → Q' d s) → kgetR tbl d x y S Q → kgetR tbl d x y S Q' := fun x y S Q Q' h q => by
  unfold kgetR at q ⊢
  split at q
  · refine ⟨q.1, ?_⟩
    have q2 := q.2
    split at q2
    · exact h _ _ q2
    · exact q2.elim
  · exact q.elim
theorem de_kget {p : Pos} (T : KTab X.K X.w d tbl) (he : DE X e te) (hg : Gl X x) (hm : X.mg x = some (.ref d)) (hpl : PlainIx e) (hd : (x == ("__debug__" : Str)) = false := by decide) : DE X (.Subscript (.Name x p) e pos) (tdKGet tbl te) where
  mono := fun env S Q Q' h q => he.mono _ _ _ _ (fun c s q => by
    split at q
    · split at q
      · exact h _ _ q
      · exact q.elim
    · exact q.elim) q
  run := pe_imp (pe_ix (dix_k T) (de_kglob (p := p) hg hm hd).run he.run hpl) fun σ H Q ⟨env, S, hev, hst, q⟩ => lift2 (de_kglob (p := p) hg hm hd) he kgetR_mono (fun _ _ _ _ h => h) ⟨env, S, hev, hst, he.mono _ _ _ _ (fun c s q => by
    split at q
    · refine ⟨rfl, ?_⟩
      split at q
      · exact q
      · exact q.elim
    · exact q.elim) q⟩
end
end PL

namespace PL
open PySem PySem.Spec PyProof.Rows L2

/-! ### the promise that a body's reading makes -/
def mkSp (n : Nat) (N : List Str) (r : TSD) : SpD := fun ds S Q => ∃ Q0 : QD, (∀ d s, Q0 d s → Q d s) ∧ ds.length = n ∧ r { nx := fun _ S' => Q0 .non S', rt := Q0 } (envStart N ds) S
theorem mkSp_mono {n : Nat} {N : List Str} {r : TSD} : ∀ ds S (Q Q' : QD), (∀ d s, Q d s → Q' d s) → mkSp n N r ds S Q → mkSp n N r ds S Q' := fun ds S Q Q' h ⟨Q0, h0, q⟩ => ⟨Q0, fun d s z => h _ _ (h0 d s z), q⟩
theorem mkSp_of {n : Nat} {N : List Str} {r : TSD} {ds : List D} {S : Sto} {Q : QD} (hl : ds.length = n) (q : r { nx := fun _ S' => Q .non S', rt := Q } (envStart N ds) S) : mkSp n N r ds S Q := ⟨Q, fun _ _ h => h, hl, q⟩
/-- what a body's derivation may use of where it stands -/
structure Here (X : Cx) (k : Nat) : Prop where
  g : X.A.guards = some []
  r : Room k X.A
  u : X.A.units + 200 < cLine
section
variable {P : Program} {w : World} {K : PySem.W.Frag} {mg : Str → Option Value} {base : Heap}
theorem dfn_mk {k : Nat} {f : Addr} {fd : FuncData} {x qual : Str} {st : Stmt} {N ps : List Str} {r : TSD} (F : Fun K x qual st f fd) (Sc : FnScope N ps (defScope st))
    (body : ∀ (cdv : Value) (A : Around) (outer : List Env) (s : Shared) (H : Hp), Here ((cxOf CX0 P w K mg base N qual (defScope st) f cdv A outer s H E0).nox) k → DSs (cxOf CX0 P w K mg base N qual (defScope st) f cdv A outer s H E0).nox (defBody st) r) : DFn P w K mg base (k + 1) f fd ps (mkSp ps.length N r) := by
  refine dfn_of F Sc mkSp_mono (fun ds S Q h => h.choose_spec.2.1) fun cdv A outer s H hg hr => ?_
  have B := body cdv A outer s H ⟨hg, hr, by have := hr.un; show (A.deeper _).units + 200 < cLine; omega⟩
  exact ⟨r, B, fun ds S Q ⟨Q0, h0, _, q⟩ => B.mono { nx := fun _ S' => Q0 .non S', rt := Q0 } _ _ _ ⟨fun e s z => h0 _ _ z, h0, fun _ _ z => z, fun _ _ z => z⟩ q⟩
end

/-! ### what the top has written, as values -/
mutual
inductive KRep (K : PySem.W.Frag) : Value → D → Prop where
  | non : KRep K .none .non
  | bl (b : Bool) : KRep K (.bool b) (.bl b)
  | int (i : Int) (t : Tok) : KRep K (.int i t) (.int i)
  | str (x : Str) (t : Tok) : KRep K (.str x t) (.str x)
  | ref (a : Addr) : KRep K (.ref a) (.ref a)
  | ty (n : String) : KRep K (.type n) (.ty n)
  | tup {a : Addr} {o : Obj} {its : List Value} {ds : List D} {n : Nat} (h : K.lookup a = some o) (h1 : o.cls = .type "tuple") (h2 : o.data = .seq its.toArray n) (h3 : its.length ≤ 1000) (r : KReps K its ds) : KRep K (.ref a) (.tup ds)
inductive KReps (K : PySem.W.Frag) : List Value → List D → Prop where
  | nil : KReps K [] []
  | cons {u : Value} {d : D} {us : List Value} {ds : List D} (h : KRep K u d) (r : KReps K us ds) : KReps K (u :: us) (d :: ds)
end
theorem KReps.len {K : PySem.W.Frag} : ∀ {us : List Value} {ds : List D}, KReps K us ds → us.length = ds.length
  | _, _, .nil => rfl
  | _, _, .cons _ r => congrArg (· + 1) (KReps.len r)
mutual
theorem KRep.rep {K : PySem.W.Frag} : ∀ {u : Value} {d : D}, KRep K u d → ∃ v, RelV v u ∧ ∀ S H, RepD K S H d v
  | _, _, .non => ⟨.non, rfl, fun _ _ => .non⟩
  | _, _, .bl b => ⟨.bl b, rfl, fun _ _ => .bl b⟩
  | _, _, .int i t => ⟨.int i, ⟨t, rfl⟩, fun _ _ => .int i⟩
  | _, _, .str x t => ⟨.str x, ⟨t, rfl⟩, fun _ _ => .str x⟩
  | _, _, .ref a => ⟨.ref a, rfl, fun _ _ => .ref a⟩
  | _, _, .ty n => ⟨.ty n, rfl, fun _ _ => .ty n⟩
  | _, _, .tup (a := a) h h1 h2 h3 r => by
    obtain ⟨vs, hv, hr⟩ := KReps.rep r
    refine ⟨.ref a, rfl, fun S H => .tup (vs := vs) (.inr ⟨_, _, _, h, h1, h2, ?_, by simpa using hv⟩) (hr S H)⟩
    have : sizeLine = 16777216 := sizeLine_eq
    simp only [List.size_toArray]
    omega
theorem KReps.rep {K : PySem.W.Frag} : ∀ {us : List Value} {ds : List D}, KReps K us ds → ∃ vs, Vals vs us ∧ ∀ S H, RepDs K S H ds vs
  | _, _, .nil => ⟨[], .nil, fun _ _ => .nil⟩
  | _, _, .cons h r => by
    obtain ⟨v, h1, h2⟩ := KRep.rep h
    obtain ⟨vs, h3, h4⟩ := KReps.rep r
    exact ⟨v :: vs, .cons h1 h3, fun S H => .cons (h2 S H) (h4 S H)⟩
end
inductive EntsOk (K : PySem.W.Frag) : List DictEntry → List (Str × D) → Prop where
  | nil : EntsOk K [] []
  | cons {e : DictEntry} {es : List DictEntry} {x : Str} {c : D} {tbl : List (Str × D)} {t : Tok} (h : e.key = .str x t) (r : KRep K e.val c) (q : EntsOk K es tbl) : EntsOk K (e :: es) ((x, c) :: tbl)
theorem isStr_str (z x : Str) (t : Tok) : (Value.str x t).isStr z = (z == x) := by
  rw [PySem.W.isStr_of]
  by_cases h : z = x
  · subst h
    simp [Value.isStrOf]
  · rw [beq_eq_false_iff_ne.mpr h]
    simp [Value.isStrOf, Ne.symm h]
theorem EntsOk.find {K : PySem.W.Frag} (z : Str) : ∀ {es : List DictEntry} {tbl : List (Str × D)}, EntsOk K es tbl → (match es.find? (·.key.isStr z) with
    | some e => ∃ c, tbl.lookup z = some c ∧ KRep K e.val c
    | none => tbl.lookup z = none) ∧ es.any (·.refKey) = false
  | _, _, .nil => ⟨rfl, rfl⟩
  | _, _, .cons (e := e) (x := x) (c := c) h r q => by
    obtain ⟨h1, h2⟩ := EntsOk.find z q
    refine ⟨?_, ?_⟩
    · rw [List.find?_cons, h, isStr_str, List.lookup_cons]
      cases hz : z == x with
      | true => exact ⟨c, rfl, r⟩
      | false => exact h1
    · rw [List.any_cons, h2, Bool.or_false]
      unfold DictEntry.refKey
      rw [h]
theorem ktab_mk {K : PySem.W.Frag} {w : World} {d : Addr} {es : Array DictEntry} {n : Nat} {tbl : List (Str × D)} (l : K.lookup d = some ⟨.type "dict", none, .dict es n, #[]⟩) (k : PySem.W.KeysLit w.params es.toList) (nd : (d == sysModules) = false) (q : EntsOk K es.toList tbl) : KTab K w d tbl := by
  refine ⟨es, n, ⟨l, k, nd⟩, fun z => ?_⟩
  obtain ⟨h1, h2⟩ := q.find z
  unfold PySem.W.nsIn
  rw [l]
  simp only
  cases f : es.toList.find? (·.key.isStr z) with
  | some e =>
    rw [f] at h1
    obtain ⟨c, e1, e2⟩ := h1
    obtain ⟨v, r1, r2⟩ := e2.rep
    exact ⟨_, rfl, by rw [e1]; exact ⟨_, v, rfl, r1, r2⟩⟩
  | none =>
    rw [f] at h1
    refine ⟨none, by rw [h2]; rfl, by rw [h1]⟩

/-! ### a list that isn't changed any more is a value -/
section
variable {X : Cx} {pos : Pos} {e : Expr} {te : TED} {sts : List Stmt} {t : TSD}
def tdFreeze (i : Nat) (t : TSD) : TSD := fun De env S => match env[i]? with
  | some (some (.ref a)) => match lstAt S a with
    | some ds => t De (env.set i (some (.lst ds))) (sdel S a)
    | none => False
  | _ => False
theorem dss_freeze (i : Nat) (h : DSs X sts t) : DSs X sts (tdFreeze i t) where
  mono := fun De De' env S hle q => by
    unfold tdFreeze at q ⊢
    split at q
    · split at q
      · exact h.mono _ _ _ _ hle q
      · exact q.elim
    · exact q.elim
  run := pss_imp h.run fun D σ H ⟨env, S, he, hs, De, eu, q⟩ => by
    unfold tdFreeze at q
    split at q
    · rename_i a ea
      split at q
      · rename_i ds el
        obtain ⟨vs, h1, r1⟩ := sto_lst hs (lstAt_some el)
        obtain ⟨v, ev, rv⟩ := he.2 i _ ea
        cases rv
        have e1 : Ext S H (sdel S a) H := SLe.del.ext
        have he2 : RepEnv X.K (sdel S a) H (env.set i (some (.lst ds))) (σ.set i (some (.ref a))) := (he.ext e1).set (.lst sdel_same h1 (r1.ext e1))
        have hsame : σ.set i (some (.ref a)) = σ := by
          apply List.ext_getElem?
          intro j
          by_cases hj : i = j
          · subst hj
            rw [ev, List.getElem?_set_self (List.getElem?_eq_some_iff.mp ev).1]
          · rw [List.getElem?_set_ne hj]
        rw [hsame] at he2
        exact ⟨_, _, he2, SLe.del.rep hs, De, eu.ext e1, q⟩
      · exact q.elim
    · exact q.elim
/-- a list that is left alone -/
def tdForget (i : Nat) (t : TSD) : TSD := fun De env S => t De (env.set i none) S

/-! ### name op= e, o[i] op= e -/
structure DIp (X : Cx) (op : Operator) (f : Sto → D → D → PR) : Prop where
  run : PIp X op fun vx vy H Q => ∃ S x y, RepS X.K S H ∧ RepD X.K S H x vx ∧ RepD X.K S H y vy ∧ rdP f x y S (PL.up X.K S H Q)
theorem dip_add : DIp X .Add (intD (fun _ _ => True) fun i j => .int (i + j)) := ⟨fun pins s σ H vx vy v u Q I rx ry ⟨S, x, y, hs, r1, r2, q⟩ => by
  obtain ⟨c, d, e, hC, q⟩ := rdP_some q
  unfold intD at e
  split at e
  · cases e; cases r1; cases r2
    exact iop_add pins s σ H _ _ v u Q I rx ry ⟨_, _, rfl, rfl, q _ _ (.int _) hs Ext.refl⟩
  · cases e⟩
theorem dip_sub : DIp X .Sub (intD (fun _ _ => True) fun i j => .int (i - j)) := ⟨fun pins s σ H vx vy v u Q I rx ry ⟨S, x, y, hs, r1, r2, q⟩ => by
  obtain ⟨c, d, e, hC, q⟩ := rdP_some q
  unfold intD at e
  split at e
  · cases e; cases r1; cases r2
    exact iop_sub pins s σ H _ _ v u Q I rx ry ⟨_, _, rfl, rfl, q _ _ (.int _) hs Ext.refl⟩
  · cases e⟩
def tdAug (i : Nat) (te : TED) (f : Sto → D → D → PR) : TSD := fun De env S => match env[i]? with
  | some (some x) => te env S fun y S1 => rdP f x y S1 fun z S2 => De.nx (env.set i (some z)) S2
  | _ => False
theorem ds_aug {i : Nat} {x : Str} {op : Operator} {f : Sto → D → D → PR} {pos' : Pos} (hN : X.N.Nodup) (hi : X.N[i]? = some x) (hx : Loc X.env.scope x) (he : DE X e te) (ho : DIp X op f) (hf : X.fn x = true ∨ X.env.scope.names.lookup x = some .local := by first | exact .inl rfl | exact .inr rfl | assumption) :
    DS X (.AugAssign (.Name x pos') op e pos) (tdAug i te f) where
  mono := fun De De' env S h q => by
    unfold tdAug at q ⊢
    split at q
    · exact he.mono _ _ _ _ (fun y s q => rdP_mono _ _ _ _ _ (fun z s q => h.nx _ _ q) q) q
    · exact q.elim
  run := ps_imp (ps_aug hN hi hx he.run ho.run hf) fun D σ H ⟨env, S, hev, hst, De, eu, q⟩ => by
    unfold tdAug at q
    split at q
    · rename_i x ex
      obtain ⟨v, ev, rv⟩ := hev.2 i x ex
      refine ⟨v, ev, env, S, hev, hst, he.mono _ _ _ _ (fun y S1 q u H1 r s1 e1 => ⟨S1, x, y, s1, rv.ext e1, r, rdP_mono _ _ _ _ _ (fun z S2 q w H2 r2 s2 e2 => ?_) q⟩) q⟩
      exact eu.nx _ _ _ _ ((hev.ext (e1.trans e2)).set r2) s2 (e1.trans e2) q
    · exact q.elim
/-- name = [comprehension] -/
theorem ds_setLc {i : Nat} {y : Str} {py : Pos} {elt tg iter : Expr} {ifs : List Expr} {scope : Scope} {own : List (Str × Nat)} {spos : Pos} {w : TID} {pt : TPat} {tt : TTD} (hc : X.calm = true) (hN : X.N.Nodup) (hy : X.N[i]? = some y) (hyl : X.env.scope.names.lookup y = some .local)
    (hsw : swapsWith (.ListComp elt [⟨tg, iter, ifs, 0⟩] scope pos) (some (.Name y py)) spos.line X.env = pure true) (hi : DI X tg iter w) (ok : BlkOk X.N X.env.scope scope own) (hown : ∀ j ∈ slots pt, j ∈ own.map (·.2))
    (hg : ∀ (s : Shared) (H : Hp) (C : Addr) (cl : List (Str × Addr)) (fp : List Addr), DP (X.blk s H scope (compEnvC scope cl C X.env) fp) tg pt)
    (ht : ∀ (s : Shared) (H : Hp) (C : Addr) (cl : List (Str × Addr)) (fp : List Addr), DTs (X.blk s H scope (compEnvC scope cl C X.env) fp) ifs tt)
    (he : ∀ (s : Shared) (H : Hp) (C : Addr) (cl : List (Str × Addr)) (fp : List Addr), DE (X.blk s H scope (compEnvC scope cl C X.env) fp) elt te)
    (hs : ∀ x, foldedSetIterable iter X.env x = pure x := by intro _; rfl) : DS X (.Assign [.Name y py] (.ListComp elt [⟨tg, iter, ifs, 0⟩] scope pos) spos) (tdAsg (tdLc w pt tt te (own.map (·.2))) (.nm i)) where
  mono := tdAsg_mono (de_lc (pos := pos) hc hN hi ok hown hg ht he hs).mono
  run := ps_imp (ps_setLc hc hN hy hyl hsw hi.run ok (fun s H C cl fp => (hg s H C cl fp).run) (fun s H C cl fp => (ht s H C cl fp).run) (fun s H C cl fp => (he s H C cl fp).run) hs) fun D σ H ⟨env, S, hev, hst, De, eu, q⟩ => by
    have q2 : liftE X.K (tdLc w pt tt te (own.map (·.2))) σ H (fun v H1 => gName i v σ H1 D.nx) := ⟨env, S, hev, hst, (de_lc (pos := pos) hc hN hi ok hown hg ht he hs).mono _ _ _ _ (fun d S1 q v H1 r s1 e1 => eu.nx _ _ _ _ ((hev.ext e1).set r) s1 e1 q) q⟩
    exact lc_lift (ht X.s_0 X.H_0 0 [] []).mono (he X.s_0 X.H_0 0 [] []).mono hi.mono hown q2
end
end PL

namespace PL
open PySem PySem.Spec PyProof.Rows L2

/-! ### short names for the readings -/
abbrev subD := intD (fun _ _ => True) fun i j => .int (i - j)
abbrev fdivD := intD CFd fun i j => .int (i.fdiv j)
abbrev modD := intD (fun _ j => j ≠ 0) fun i j => .int (i.fmod j)
abbrev powD := intD CPow fun i j => .int (i ^ j.toNat)
abbrev ltD := ordD (fun i j => decide (i < j)) slt
abbrev leD := ordD (fun i j => decide (i ≤ j)) fun a b => !slt b a
abbrev gtD := ordD (fun i j => decide (j < i)) fun a b => slt b a
abbrev geD := ordD (fun i j => decide (j ≤ i)) fun a b => !slt a b
abbrev allD := qntD fun bs => bs.all id
abbrev anyD := qntD fun bs => bs.any id
abbrev iaddD := intD (fun _ _ => True) fun i j => .int (i + j)
theorem bt_int : bootBuiltins "int" = some (.type "int") := by decide +kernel
theorem bt_bool : bootBuiltins "bool" = some (.type "bool") := by decide +kernel
theorem bt_str : bootBuiltins "str" = some (.type "str") := by decide +kernel
theorem bt_list : bootBuiltins "list" = some (.type "list") := by decide +kernel
theorem bt_tuple : bootBuiltins "tuple" = some (.type "tuple") := by decide +kernel
theorem bt_dict : bootBuiltins "dict" = some (.type "dict") := by decide +kernel
theorem bt_set : bootBuiltins "set" = some (.type "set") := by decide +kernel
theorem bt_len : bootBuiltins "len" = some (.builtin "len") := by decide +kernel
theorem bt_all : bootBuiltins "all" = some (.builtin "all") := by decide +kernel
theorem bt_any : bootBuiltins "any" = some (.builtin "any") := by decide +kernel
theorem bt_sum : bootBuiltins "sum" = some (.builtin "sum") := by decide +kernel
theorem bt_repr : bootBuiltins "repr" = some (.builtin "repr") := by decide +kernel
theorem bt_ord : bootBuiltins "ord" = some (.builtin "ord") := by decide +kernel
theorem bt_isinstance : bootBuiltins "isinstance" = some (.builtin "isinstance") := by decide +kernel
theorem bt_sorted : bootBuiltins "sorted" = some (.builtin "sorted") := by decide +kernel
theorem bt_min : bootBuiltins "min" = some (.builtin "min") := by decide +kernel
theorem bt_max : bootBuiltins "max" = some (.builtin "max") := by decide +kernel

/-! ### dicts that are values -/
def keyEq : D → D → Bool
  | .int i, .int j => i == j
  | .str a, .str b => a == b
  | _, _ => false
def lookD : List D → List D → D → Option D
  | k :: ks, v :: vs, q => if keyEq k q = true then some v else lookD ks vs q
  | _, _, _ => none
def isK1 : D → Bool
  | .int _ => true
  | .str _ => true
  | _ => false
theorem keyEq_ky {d e : D} {k l : Key} (h : KyD d k) (h2 : KyD e l) : keyEq d e = decide (k = l) := by
  cases h with
  | int i =>
    cases h2 with
    | int j => rw [key_ll]; rfl
    | str y => rw [key_lr]; rfl
  | str x =>
    cases h2 with
    | int j => rw [key_rl]; rfl
    | str y =>
      rw [key_rr]
      show (x == y) = _
      by_cases e : x = y
      · subst e; simp
      · rw [decide_eq_false e]; exact beq_eq_false_iff_ne.mpr e
theorem ky_rep {K : PySem.W.Frag} {S : Sto} {H : Hp} {d : D} {v : V} (r : RepD K S H d v) (h : isK1 d = true) : ∃ k, KyD d k ∧ v = kV k := by
  cases r <;> first | exact ⟨_, .int _, rfl⟩ | exact ⟨_, .str _, rfl⟩ | (unfold isK1 at h; cases h)
theorem look_rep {K : PySem.W.Frag} {S : Sto} {H : Hp} {q : D} {k : Key} (hq : KyD q k) : ∀ {dk dv : List D} {ks : List Key} {vs : List V}, Paired KyD dk ks → RepDs K S H dv vs → ks.length = vs.length → match lookD dk dv q with
    | some d => ∃ v, valV (ks.zip vs) k = some v ∧ RepD K S H d v
    | none => valV (ks.zip vs) k = none
  | _, _, _, _, .nil, _, _ => by unfold lookD; rfl
  | _, _, _, _, .cons h t, .nil, l => by simp at l
  | _, _, _, _, .cons (a := d) (b := k2) h t, .cons hv tv, l => by
    unfold lookD
    rw [List.zip_cons_cons, keyEq_ky h hq]
    by_cases e : k2 = k
    · rw [if_pos (by simp [e])]
      exact ⟨_, valV_pos e, hv⟩
    · rw [if_neg (by simp [e]), valV_neg e]
      exact look_rep hq t tv (by simpa using l)
/-- a dict: a value, or one of the store -/
def getD' (S : Sto) : D → Option (List D × List D)
  | .dct ks vs => some (ks, vs)
  | .ref a => match S a with
    | some (.dct ks vs) => some (ks, vs)
    | _ => none
  | _ => none
theorem getD'_rep {K : PySem.W.Frag} {S : Sto} {H : Hp} {d : D} {v : V} {dk dv : List D} (hs : RepS K S H) (r : RepD K S H d v) (e : getD' S d = some (dk, dv)) :
    ∃ a ks vs, v = .ref a ∧ H a = some (.dK (ks.zip vs)) ∧ ks.length = vs.length ∧ Paired KyD dk ks ∧ RepDs K S H dv vs := by
  unfold getD' at e
  split at e
  · cases e
    cases r with
    | dctK n h l k r => exact ⟨_, _, _, rfl, h, l, k, r⟩
  · split at e
    · cases e
      rename_i q
      obtain ⟨u, h1, h2⟩ := hs _ _ q
      cases r
      cases h2 with
      | dK l k r => exact ⟨_, _, _, rfl, h1, l, k, r⟩
    · cases e
  · cases e
section
variable {X : Cx} {pos : Pos} {o e f : Expr} {es : List Expr} {to te tf : TED} {t : TAD}
/-- d.get(e, f), keys ints and texts -/
def tdGet2 (to te tf : TED) : TED := fun env S Q => to env S fun x S1 => (getD' S1 x).isSome = true ∧ te env S1 fun k S2 => tf env S2 fun z S3 => match getD' S3 x with
  | some (ks, vs) => isK1 k = true ∧ Q ((lookD ks vs k).getD z) S3
  | none => False
theorem isD_rep {K : PySem.W.Frag} {S : Sto} {H : Hp} {d : D} {v : V} (hs : RepS K S H) (r : RepD K S H d v) (e : (getD' S d).isSome = true) : ∃ a, v = .ref a ∧ IsD H a := by
  obtain ⟨⟨dk, dv⟩, e⟩ := Option.isSome_iff_exists.mp e
  obtain ⟨a, ks, vs, rfl, h, _⟩ := getD'_rep hs r e
  exact ⟨a, rfl, .inl ⟨_, .inl h⟩⟩
theorem tdGet2_mono (ho : DE X o to) (he : DE X e te) (hf : DE X f tf) : ∀ env S (Q Q' : QD), (∀ d s, Q d s → Q' d s) → tdGet2 to te tf env S Q → tdGet2 to te tf env S Q' :=
  fun env S Q Q' h q => ho.mono _ _ _ _ (fun x s q => ⟨q.1, he.mono _ _ _ _ (fun k s q => hf.mono _ _ _ _ (fun z s q => by
    split at q
    · exact ⟨q.1, h _ _ q.2⟩
    · exact q.elim) q) q.2⟩) q
/-- the keys are ints and texts: told of the dict's own kind -/
theorem de_get2 {apos : Pos} (hu : X.A.units + 200 < cLine) (ho : DE X o to) (he : DE X e te) (hf : DE X f tf) (m : M2 X o "get" apos e f pos) : DE X (.Call (.Attribute o "get" apos) [e, f] [] pos) (tdGet2 to te tf) where
  mono := tdGet2_mono ho he hf
  run := pe_imp (pe_dget2 (by omega) ho.run he.run hf.run m) fun σ H Q ⟨env, S, hev, hst, q⟩ => ⟨env, S, hev, hst, ho.mono _ _ _ _ (fun x S1 q v H1 r1 s1 e1 => by
    obtain ⟨q0, q⟩ := q
    obtain ⟨a, rfl, hd⟩ := isD_rep s1 r1 q0
    refine ⟨a, rfl, hd, env, S1, hev.ext e1, s1, he.mono _ _ _ _ (fun k S2 q v2 H2 r2 s2 e2 => ⟨env, S2, hev.ext (e1.trans e2), s2, hf.mono _ _ _ _ (fun z S3 q v3 H3 r3 s3 e3 => ?_) q⟩) q⟩
    split at q
    · rename_i ks vs eg
      obtain ⟨hk, q⟩ := q
      have e23 := e2.trans e3
      obtain ⟨kk, hky, rfl⟩ := ky_rep r2 hk
      obtain ⟨a', ks', vs', ea, h, l, pk, rv⟩ := getD'_rep s3 (r1.ext e23) eg
      cases ea
      refine ⟨_, .inl ⟨_, kk, .inl h, rfl, rfl⟩, ?_⟩
      have hl := look_rep hky pk rv l
      cases hq : lookD ks vs k with
      | some d =>
        rw [hq] at hl q
        obtain ⟨w, ew, rw'⟩ := hl
        rw [ew]
        exact q w H3 rw' s3 ((e1.trans e2).trans e3)
      | none =>
        rw [hq] at hl q
        rw [hl]
        exact q v3 H3 r3 s3 ((e1.trans e2).trans e3)
    · exact q.elim) q⟩

/-! ### {"x": e, ..} with written texts for keys -/
structure DPPs (X : Cx) (pos : Pos) (keys : List (Option Expr)) (values : List Expr) (xs : List Str) (t : TAD) : Prop where
  mono : ∀ env S (Q Q' : List D → Sto → Prop), (∀ d s, Q d s → Q' d s) → t env S Q → t env S Q'
  run : ∃ trs, PPs X pos keys values trs ∧ ∀ σ H (Q : List (V × V) → Hp → Prop), (∃ env S, RepEnv X.K S H env σ ∧ RepS X.K S H ∧ t env S fun ds S' => ds.length = xs.length ∧ ∀ vs H', RepDs X.K S' H' ds vs → RepS X.K S' H' → Ext S H S' H' → Q ((xs.map V.str).zip vs) H') → tPairs trs σ H Q
theorem dpp_nil : DPPs X pos [] [] [] tdNil where
  mono := fun env S Q Q' h q => h _ _ q
  run := ⟨[], pps_nil, fun σ H Q ⟨env, S, he, hs, _, q⟩ => q [] H .nil hs Ext.refl⟩
theorem dpp_cons {x : Str} {i : Nat} {p : Pos} {keys : List (Option Expr)} {values : List Expr} {xs : List Str} (he : DE X e te) (hr : DPPs X pos keys values xs t) : DPPs X pos (some (.Constant (.str x) i p) :: keys) (e :: values) (x :: xs) (tdCons te t) where
  mono := fun env S Q Q' h q => he.mono _ _ _ _ (fun x s q => hr.mono _ _ _ _ (fun xs s q => h _ _ q) q) q
  run := by
    obtain ⟨trs, h1, h2⟩ := hr.run
    refine ⟨(tC (.str x), liftE X.K te) :: trs, pps_cons pe_str he.run h1, fun σ H Q ⟨env, S, hev, hst, q⟩ => ?_⟩
    refine ⟨env, S, hev, hst, he.mono _ _ _ _ (fun d S1 q1 v1 H1 r1 s1 e1 => h2 σ H1 _ ⟨env, S1, hev.ext e1, s1, hr.mono _ _ _ _ (fun ds S2 q2 => ?_) q1⟩) q⟩
    obtain ⟨hl, q2⟩ := q2
    exact ⟨by simpa using hl, fun vs H2 r2 s2 e2 => q2 (v1 :: vs) H2 (.cons (r1.ext e2) r2) s2 (e1.trans e2)⟩
def tdDisp (xs : List Str) (t : TAD) : TED := fun env S Q => ∀ p, S p = none → t env (sup S p (.dct [] [])) fun ds S2 => ds.length = xs.length ∧ S2 p = some (.dct [] []) ∧ Q (.dct (xs.map D.str) ds) (sdel S2 p)
theorem merge_nodup : ∀ (more acc : List (Key × V)), ((acc ++ more).map (·.1)).Nodup → mergeK acc more = acc ++ more
  | [], acc, _ => by unfold mergeK; simp
  | kv :: r, acc, h => by
    have h1 : ¬ (acc.any fun p => decide (p.1 = kv.1)) = true := by
      rw [List.any_eq_true]
      rintro ⟨p, hp, e⟩
      have e' := of_decide_eq_true e
      rw [List.map_append, List.nodup_append] at h
      exact h.2.2 p.1 (List.mem_map_of_mem hp) kv.1 (by simp) e'
    have h2 : mergeK acc (kv :: r) = mergeK (acc ++ [kv]) r := by
      unfold mergeK
      rw [List.foldl_cons]
      unfold putK
      rw [if_neg h1]
    rw [h2, merge_nodup r (acc ++ [kv]) (by simpa using h)]
    simp
theorem de_disp {keys : List (Option Expr)} {values : List Expr} {xs : List Str} (h : DPPs X pos keys values xs t) (hx : xs.Nodup) (h15 : xs.length ≤ 15) (hall : keys.all (·.isSome) = true := by rfl) (hl : keys.length = values.length := by rfl) (h0 : keys ≠ [] := by exact fun z => nomatch z)
    (hk15 : keys.length ≤ 15 := by decide) : DE X (.Dict keys values pos) (tdDisp xs t) where
  mono := fun env S Q Q' hq q p n => h.mono _ _ _ _ (fun ds s q => ⟨q.1, q.2.1, hq _ _ q.2.2⟩) (q p n)
  run := by
    obtain ⟨trs, h1, h2⟩ := h.run
    refine pe_imp (pe_disp h1 hall hl h0 hk15) fun σ H Q ⟨env, S, hev, hst, q⟩ => ?_
    intro p hp
    have ep : Ext S H (sup S p (.dct [] [])) (upd H p (.dK [])) := Ext.newS hp
    have sp : RepS X.K (sup S p (.dct [] [])) (upd H p (.dK [])) := hst.newS hp (.dK (ks := []) (vs := []) rfl .nil .nil)
    refine h2 σ _ _ ⟨env, _, hev.ext ep, sp, h.mono _ _ _ _ (fun ds S2 q2 => ?_) (q p (hst.free hp))⟩
    obtain ⟨hl2, q3, q4⟩ := q2
    refine ⟨hl2, fun vs H2 r2 s2 e2 => ?_⟩
    obtain ⟨u, g1, g2⟩ := s2 p _ q3
    have hlen := r2.len
    have g3 : H2 p = some (.dK []) := by
      cases g2 with
      | dK l k r =>
        cases r
        cases k
        exact g1
    refine ⟨g3, (xs.map Sum.inr).zip vs, ?_, by simp; omega, ?_⟩
    · have : ∀ (xs : List Str) (vs : List V), (xs.map V.str).zip vs = ((xs.map (Sum.inr : Str → Key)).zip vs).map fun kv => (kV kv.1, kv.2) := by
        intro xs
        induction xs with
        | nil => intro vs; rfl
        | cons x r ih =>
          intro vs
          cases vs with
          | nil => rfl
          | cons v vs => simp [ih vs, kV]
      exact this xs vs
    · have hm : mergeK [] ((xs.map (Sum.inr : Str → Key)).zip vs) = (xs.map Sum.inr).zip vs := by
        rw [merge_nodup _ _ ?_, List.nil_append]
        rw [List.nil_append]
        have : ((xs.map (Sum.inr : Str → Key)).zip vs).map (·.1) = xs.map Sum.inr := by
          rw [List.map_fst_zip]
          simp; omega
        rw [this]
        exact List.Pairwise.map _ (fun a b hab e => hab (Sum.inr.inj e)) hx
      rw [hm]
      have e3 : Ext S2 H2 (sdel S2 p) (upd H2 p (.dK ((xs.map Sum.inr).zip vs))) := fun a u ha hu => by
        have hne : a ≠ p := fun e => by subst e; rw [q3] at ha; cases ha
        rw [upd_ne hne, sdel_ne hne]
        exact ⟨hu, ha⟩
      have kys : Paired KyD (xs.map D.str) (xs.map (Sum.inr : Str → Key)) := by
        have : ∀ xs : List Str, Paired KyD (xs.map D.str) (xs.map (Sum.inr : Str → Key)) := fun xs => by
          induction xs with
          | nil => exact .nil
          | cons x r ih => exact .cons (.str x) ih
        exact this xs
      have s3 : RepS X.K (sdel S2 p) (upd H2 p (.dK ((xs.map Sum.inr).zip vs))) := fun a o ea => by
        have hne : a ≠ p := fun e => by subst e; rw [sdel_same] at ea; cases ea
        rw [sdel_ne hne] at ea
        obtain ⟨u, b1, b2⟩ := s2 a o ea
        exact ⟨u, by rw [upd_ne hne]; exact b1, b2.ext e3⟩
      exact q4 (.ref p) _ (.dctK sdel_same upd_same (by simp; omega) kys (r2.ext e3)) s3 ((ep.trans e2).trans e3)
/-- {} -/
def tdDict0 : TED := fun _ S Q => Q (.dct [] []) S
theorem de_dict0 : DE X (.Dict [] [] pos) tdDict0 where
  mono := fun env S Q Q' h q => h _ _ q
  run := pe_imp pe_dnewK fun σ H Q ⟨env, S, he, hs, q⟩ p n => q (.ref p) _ (.dctK (ks := []) (vs := []) (hs.free n) upd_same rfl .nil .nil) (hs.new n) (Ext.new n)
end
end PL

namespace PL
open PySem PySem.Spec PyProof.Rows L2
section
variable {X : Cx}
/-- sum of a tuple of ints -/
theorem sum_tup_raw {prog : Program} {w : World} {A : Around} {E : Value → Shared → Prop} {s : Shared} {a : Addr} {its : List Value} {ns : List Int} {Q : Value → Shared → Prop} (hh : A.handled = none) (ht : IsTup s.heap a its.toArray) (hi : IntsAre its ns)
    (h : ∀ h' tk t', (∀ b o, s.heap.get? b = some o → h'.get? b = some o) → Q (.int ns.sum t') { s with heap := h', toks := tk }) : wpAny (model prog w) A (call (.builtin "sum") [.ref a]) Q E s := by
  obtain ⟨xs, e⟩ := hi.allInts.items
  have hn : numsOf (intItems xs).toList = ns := by rw [← e]; exact hi.numsOf
  rw [nums_intItems] at hn
  have hlt : a < s.heap.objs.size := by obtain ⟨o, e1, _⟩ := ht; exact Heap.lt_size e1
  refine PySem.call_sum_walkG (wpAny_pyIter_tuple (items := its.toArray) ht ?_)
  have ht2 := ht
  obtain ⟨o, e1, e2, n, e3⟩ := ht2
  refine ⟨s.heap.objs.size, [s.heap.objs.size, a], [s.heap.objs.size], its.toArray.size, _, _, numAt xs, rfl, PySem.Walks.tuple (A := A.in1) hh s.heap.objs.size a (Nat.ne_of_lt hlt) its.toArray, ⟨⟨_, Heap.get?_push_size _ rfl, rfl, rfl⟩, ⟨o, Heap.get?_push_of_some _ e1, e2, n, e3⟩⟩, ?_, ?_, fun h' tk t' hk => ?_⟩
  · intro b hb
    rcases List.mem_cons.mp hb with rfl | hb
    · exact Heap.lt_size (Heap.get?_push_size _ rfl)
    · rw [List.mem_singleton] at hb
      subst hb
      exact Heap.lt_size (Heap.get?_push_of_some _ e1)
  · intro i v hv
    rw [e] at hv
    exact intItems_at hv
  · have hz : its.toArray.size = xs.size := by rw [e]; simp [intItems]
    rw [hz, preSum_eq, List.take_of_length_le (by simp), hn]
    refine h h' tk t' fun b o hb => hk b o ?_ (Heap.get?_push_of_some _ hb)
    rw [List.mem_singleton]
    exact Nat.ne_of_lt (Heap.lt_size hb)
def sumT : Sto → List D → PR := fun S ds => match ds with
  | [.tup xs] => match asI xs with
    | some ns => some (True, .int ns.sum)
    | none => none
  | _ => none
theorem dcal_sumT (hc : X.calm = true) : DCal X (.builtin "sum") (rdC sumT) := dcal_P fun pins s σ H vs us Q S ds c d I rv hs r e hC q => by
  unfold sumT at e
  split at e
  · split at e
    · rename_i ns en
      cases e
      obtain ⟨v, rfl, r1⟩ := r.one_inv
      cases r1 with
      | tup h r2 =>
        obtain rfl := asI_rep r2 en
        obtain ⟨its, rv2, ht, _⟩ := I.tuple h.sq
        rw [Vals.ref1 rv]
        exact sum_tup_raw (I.ok.hd hc) ht rv2.ints fun h' tk t' hk => ⟨.int _, H, I.kept hk, ⟨_, rfl⟩, q _ _ (.int _) hs Ext.refl⟩
    · cases e
  · cases e
/-- a text so many times -/
def mulS : Sto → D → D → PR := fun _ x y => match x, y with
  | .str a, .int n => some (0 ≤ n ∧ n ≤ 1000 ∧ a.length ≤ 1000, .str (Txt.mul a n))
  | _, _ => none
theorem dop_mulS : DOp X (binaryOp .Mult) (rdP mulS) :=
  dop_P fun pins s σ H vx vy v u Q S x y c d I rx ry hs r1 r2 e hC q => by
    unfold mulS at e
    split at e
    · cases e; cases r1; cases r2
      obtain ⟨t1, rfl⟩ := rx
      obtain ⟨t2, rfl⟩ := ry
      refine SB.mul ?_ fun t' k => ⟨.str _, H, I.tok _, ⟨_, rfl⟩, q _ _ (.str _) hs Ext.refl⟩
      rename_i a n
      obtain ⟨h1, h2, h3⟩ := hC
      refine ⟨?_, fun h4 _ => ?_, fun h4 _ => ?_⟩
      · rw [decide_eq_false (by omega), decide_eq_false (by omega)]; rfl
      · have hn : 1 ≤ n := by omega
        have : (2 ^ 63 - 1) / n ≥ (2 ^ 63 - 1) / 1000 := by
          apply Int.le_ediv_of_mul_le (by omega)
          have e1 : ((2 : Int) ^ 63 - 1) / 1000 = 9223372036854775 := by decide
          rw [e1]
          have : (9223372036854775 : Int) * n ≤ 9223372036854775 * 1000 := by omega
          omega
        have e1 : ((2 : Int) ^ 63 - 1) / 1000 = 9223372036854775 := by decide
        omega
      · have h5 : a.length * n.toNat ≤ 1000 * 1000 := Nat.mul_le_mul h3 (by omega)
        unfold Builtin.Str.tooLong
        have hs2 : sizeLine = 16777216 := sizeLine_eq
        simp only [decide_eq_false_iff_not]
        omega
    · cases e
end
end PL

namespace PL
open PySem PySem.Spec PyProof.Rows L2

/-! ### reading readings: one step each, from behind -/
section
variable {env e' : Env'} {S S1 : Sto} {Q : QD} {i n m : Nat} {d x y : D} {ds : List D} {ta tb te tf to tl : TED} {t tk : TAD} {c u : TTD} {st su : TSD} {nx bk ct : Env' → Sto → Prop} {rt : QD} {De : EndsD} {QB : Bool → Sto → Prop} {QL : List D → Sto → Prop} {b : Bool} {cc : Prop} {k : Int} {p : TPat} {a : Addr}
theorem p_var (e : env[i]? = some (some d)) (q : Q d S) : tdVar i env S Q := by unfold tdVar; rw [e]; exact q
theorem p_c (q : Q d S) : tdC d env S Q := q
theorem p_op {rd : D → D → Sto → QD → Prop} (q : ta env S fun x S1 => tb env S1 fun y S2 => rd x y S2 Q) : tdOp rd ta tb env S Q := q
theorem p_r {f : Sto → D → D → PR} (e : f S x y = some (cc, d)) (h : cc) (q : Q d S) : rdP f x y S Q := by unfold rdP; rw [e]; exact ⟨h, q⟩
theorem p_un {rd : D → Sto → QD → Prop} (q : ta env S fun x S1 => rd x S1 Q) : tdUn rd ta env S Q := q
theorem p_neg (q : Q (.int (-k)) S) : rdNeg (.int k) S Q := q
theorem p_cb {rd : List D → Sto → QD → Prop} (q : t env S fun ds S1 => rd ds S1 Q) : tdCB rd t env S Q := q
theorem p_rc {f : Sto → List D → PR} (e : f S ds = some (cc, d)) (h : cc) (q : Q d S) : rdC f ds S Q := by unfold rdC; rw [e]; exact ⟨h, q⟩
theorem p_nil (q : QL [] S) : tdNil env S QL := q
theorem p_cons (q : te env S fun x S1 => t env S1 fun xs S2 => QL (x :: xs) S2) : tdCons te t env S QL := q
theorem p_tup (q : t env S fun ds S1 => ds.length ≤ sizeLine ∧ Q (.tup ds) S1) : tdTup t env S Q := q
theorem p_lst (q : t env S fun ds S1 => ds.length ≤ sizeLine ∧ Q (.lst ds) S1) : tdLst t env S Q := q
theorem p_lstR (q : t env S fun ds S1 => ds.length ≤ sizeLine ∧ ∀ p, S1 p = none → Q (.ref p) (sup S1 p (.lst ds))) : tdLstR t env S Q := q
theorem szl {n : Nat} (h : n ≤ 10000 := by first | exact Nat.le_of_ble_eq_true rfl | (simp; done) | (simp; omega)) : n ≤ sizeLine := Nat.le_trans h (by rw [sizeLine_eq]; decide)
theorem p_b (q : te env S (qb QB)) : tdB te env S QB := q
theorem p_qb (q : QB b S) : qb QB (.bl b) S := q
theorem p_and (q : c env S fun k S1 => if k = true then u env S1 QB else QB false S1) : tdAnd c u env S QB := q
theorem p_or (q : c env S fun k S1 => if k = true then QB true S1 else u env S1 QB) : tdOr c u env S QB := q
theorem p_not (q : c env S fun k S1 => QB (!k) S1) : tdNot c env S QB := q
theorem p_andV (q : ta env S (qb fun k S1 => if k = true then tb env S1 Q else Q (.bl false) S1)) : tdAndV ta tb env S Q := q
theorem p_orV (q : ta env S (qb fun k S1 => if k = true then Q (.bl true) S1 else tb env S1 Q)) : tdOrV ta tb env S Q := q
theorem p_notV (q : ta env S (qb fun k S1 => Q (.bl (!k)) S1)) : tdNotV ta env S Q := q
theorem p_if (q : c env S fun k S1 => if k = true then ta env S1 Q else tb env S1 Q) : tdIf c ta tb env S Q := q
theorem p_T {A B : Prop} (e : b = true) (q : A) : if b = true then A else B := by rw [if_pos e]; exact q
theorem p_F {A B : Prop} (e : b = false) (q : B) : if b = true then A else B := by rw [if_neg (by rw [e]; exact Bool.false_ne_true)]; exact q
theorem p_ite {A B : Prop} (q1 : b = true → A) (q2 : b = false → B) : if b = true then A else B := by
  cases b with
  | true => rw [if_pos rfl]; exact q1 rfl
  | false => rw [if_neg Bool.false_ne_true]; exact q2 rfl
theorem p_iteD {P : Prop} [Decidable P] {A B : Prop} (q1 : P → A) (q2 : ¬ P → B) : if decide P = true then A else B := p_ite (fun h => q1 (of_decide_eq_true h)) fun h => q2 (of_decide_eq_false h)
theorem p_next (q : nx env S) : tdNext ⟨nx, rt, bk, ct⟩ env S := q
theorem p_seq (q : st ⟨su ⟨nx, rt, bk, ct⟩, rt, bk, ct⟩ env S) : tdSeq st su ⟨nx, rt, bk, ct⟩ env S := q
theorem p_break (q : bk env S) : tdBreak ⟨nx, rt, bk, ct⟩ env S := q
theorem p_cont (q : ct env S) : tdCont ⟨nx, rt, bk, ct⟩ env S := q
theorem p_drop (q : te env S fun _ S1 => nx env S1) : tdDrop te ⟨nx, rt, bk, ct⟩ env S := q
theorem p_ret (q : te env S rt) : tdRet te ⟨nx, rt, bk, ct⟩ env S := q
theorem p_retN (q : rt .non S) : tdRetN ⟨nx, rt, bk, ct⟩ env S := q
theorem p_ifS (q : c env S fun b S1 => if b = true then st ⟨nx, rt, bk, ct⟩ env S1 else su ⟨nx, rt, bk, ct⟩ env S1) : tdIfS c st su ⟨nx, rt, bk, ct⟩ env S := q
/-- the binding of a target, ahead -/
def pAsg (p : TPat) (env : Env') (nx : Env' → Sto → Prop) : QD := fun d S => ∃ e', bindD p d env = some e' ∧ nx e' S
theorem p_asg (m : ∀ Q Q' : QD, (∀ d s, Q d s → Q' d s) → te env S Q → te env S Q') (q : te env S (pAsg p env nx)) : tdAsg te p ⟨nx, rt, bk, ct⟩ env S := m _ _ (fun d s ⟨e', h1, h2⟩ => by rw [h1]; exact h2) q
theorem p_asg' (q : te env S fun d S1 => match bindD p d env with
  | some env' => nx env' S1
  | none => False) : tdAsg te p ⟨nx, rt, bk, ct⟩ env S := q
theorem p_bindM {A : Env' → Prop} (e : bindD p d env = some e') (q : A e') : match bindD p d env with
  | some env' => A env'
  | none => False := by rw [e]; exact q
theorem p_par {vs : List Nat} (q : t env S fun ds S1 => ds.length = vs.length ∧ nx ((vs.zip ds).foldl (fun e p => e.set p.1 (some p.2)) env) S1) : tdPar vs t ⟨nx, rt, bk, ct⟩ env S := q
/-- an item of a list of the store -/
theorem p_ixS {xs : List D} (h : S a = some (.lst xs)) (e : atI xs k = some d) (q : Q d S) : rdP ixD (.ref a) (.int k) S Q := p_r (cc := True) (by unfold ixD; simp only [getQ, h, e]) trivial q
theorem p_ixQ {xs : List D} (h : getQ S x = some xs) (e : atI xs k = some d) (q : Q d S) : rdP ixD x (.int k) S Q := p_r (cc := True) (by unfold ixD; simp only [h, e]) trivial q
def pSet (S : Sto) (d x y : D) (nx : Sto → Prop) : Prop := match x, y with
  | .ref a, .int k => match S a with
    | some (.lst ds) => match ixN ds.length k with
      | some j => nx (sup S a (.lst (ds.set j d)))
      | none => False
    | _ => False
  | _, _ => False
theorem p_setI (q : te env S fun d S1 => to env S1 fun x S2 => tf env S2 fun y S3 => pSet S3 d x y fun S4 => nx env S4) : tdSetI te to tf ⟨nx, rt, bk, ct⟩ env S := q
theorem p_set {xs : List D} {j : Nat} {N : Sto → Prop} (h : S a = some (.lst xs)) (e : ixN xs.length k = some j) (q : N (sup S a (.lst (xs.set j d)))) : pSet S d (.ref a) (.int k) N := by
  unfold pSet
  simp only [h, e]
  exact q
theorem p_call {sp : SpD} {dds : List D} (q : t env S fun ds S1 => sp (ds ++ dds) S1 Q) : tdCall sp dds t env S Q := q
theorem p_callK {sp : SpD} {pm : List Nat} {dds : List D} (q : t env S fun ds S1 => tk env S1 fun zs S2 => ds.length = n ∧ zs.length = m ∧ sp (pick pm (ds ++ zs ++ dds)) S2 Q) : tdCallK sp n m pm dds t tk env S Q := q
theorem p_noPart {QO : Option Int → Sto → Prop} (q : QO none S) : tdNoPart env S QO := q
def pPart (QO : Option Int → Sto → Prop) : QD := fun d S1 => match d with
  | .int i => QO (some i) S1
  | _ => False
theorem p_part {QO : Option Int → Sto → Prop} (q : te env S (pPart QO)) : tdPart te env S QO := q
theorem p_partI {QO : Option Int → Sto → Prop} (q : QO (some k) S) : pPart QO (.int k) S := q
theorem p_sl {to' th : TOD} (q : te env S fun x S1 => to' env S1 fun lo S2 => th env S2 fun hi S3 => onP (slD lo hi S3 x) S3 Q) : tdSl te to' th env S Q := q
theorem p_onP (h : cc) (q : Q d S) : onP (some (cc, d)) S Q := ⟨h, q⟩
theorem p_onE {o : PR} (e : o = some (cc, d)) (h : cc) (q : Q d S) : onP o S Q := by rw [e]; exact ⟨h, q⟩
def pKIn (neg : Bool) (tbl : List (Str × D)) (Q : QD) : QD := fun c S1 => match c with
  | .str z => Q (.bl (if neg then !(tbl.lookup z).isSome else (tbl.lookup z).isSome)) S1
  | _ => False
theorem p_kin {neg : Bool} {tbl : List (Str × D)} (q : te env S (pKIn neg tbl Q)) : tdKIn neg tbl te env S Q := q
theorem p_kinS {neg : Bool} {tbl : List (Str × D)} {z : Str} (e : (if neg then !(tbl.lookup z).isSome else (tbl.lookup z).isSome) = b) (q : Q (.bl b) S) : pKIn neg tbl Q (.str z) S := by
  subst e; exact q
def pKGet (tbl : List (Str × D)) (Q : QD) : QD := fun c S1 => match c with
  | .str z => match tbl.lookup z with
    | some r => Q r S1
    | none => False
  | _ => False
theorem p_kget {tbl : List (Str × D)} (q : te env S (pKGet tbl Q)) : tdKGet tbl te env S Q := q
theorem p_kgetS {tbl : List (Str × D)} {z : Str} (e : tbl.lookup z = some d) (q : Q d S) : pKGet tbl Q (.str z) S := by
  show (match tbl.lookup z with | some r => Q r S | none => False)
  rw [e]; exact q
theorem p_lm {g : LM} (q : to env S fun x S1 => lmObj x S1 fun a => t env S1 fun args S2 => lmEnd g a args S2 Q) : tdLm g to t env S Q := q
theorem p_lmO {N : Addr → Prop} {xs : List D} (h : S a = some (.lst xs)) (q : N a) : lmObj (.ref a) S N := ⟨by unfold lstAt; rw [h]; rfl, q⟩
theorem p_lmE {g : LM} {args xs ys : List D} (h : S a = some (.lst xs)) (e : g S xs args = some (cc, ys, d)) (hc : cc) (q : Q d (sup S a (.lst ys))) : lmEnd g a args S Q := by
  unfold lmEnd lstAt
  simp only [h, e]
  exact ⟨hc, q⟩
theorem p_freeze {xs : List D} (e : env[i]? = some (some (.ref a))) (h : S a = some (.lst xs)) (q : st De (env.set i (some (.lst xs))) (sdel S a)) : tdFreeze i st De env S := by
  unfold tdFreeze lstAt
  simp only [e, h]
  exact q
theorem p_for {w : TID} (q : w env S fun ds S1 => forD p st ds De env S1) : tdFor w p st De env S := q
def pSeqV (QL : List D → Sto → Prop) : QD := fun d S1 => match seqV d with
  | some ds => QL ds S1
  | none => False
theorem p_seqI (q : te env S (pSeqV QL)) : tdSeqI te env S QL := q
theorem p_seqL (q : QL ds S) : pSeqV QL (.lst ds) S := q
theorem p_seqT (q : QL ds S) : pSeqV QL (.tup ds) S := q
def pRng1 (QL : List D → Sto → Prop) : List D → Sto → Prop := fun ds S1 => match ds with
  | [.int j] => rng1 j ∧ QL (upto 0 j.toNat) S1
  | _ => False
theorem p_rng1 (q : t env S (pRng1 QL)) : tdRng1 t env S QL := q
theorem p_rng1I (h : rng1 k) (q : QL (upto 0 k.toNat) S) : pRng1 QL [.int k] S := ⟨h, q⟩
theorem p_yes (q : QB true S) : tdYes env S QB := q
theorem p_dispS {xs : List Str} (q : ∀ p, S p = none → t env (sup S p (.dct [] [])) fun ds S2 => ds.length = xs.length ∧ S2 p = some (.dct [] []) ∧ Q (.dct (xs.map D.str) ds) (sdel S2 p)) : tdDisp xs t env S Q := q
/-- a for with a word that holds ahead of each turn -/
theorem for_inv {ds : List D} (I : Nat → Env' → Sto → Prop) (h0 : I 0 env S)
    (hs : ∀ i d env S nx, ds[i]? = some d → I i env S → (∀ e s, I (i + 1) e s → nx e s) → ∃ e', bindD p d env = some e' ∧ st ⟨nx, De.rt, De.nx, nx⟩ e' S)
    (he : ∀ env S, I ds.length env S → De.nx env S) : forD p st ds De env S := by
  have key : ∀ (r : List D) (i : Nat) (env : Env') (S : Sto), r = ds.drop i → i ≤ ds.length → I i env S → forD p st r De env S := by
    intro r
    induction r with
    | nil =>
      intro i env S e hi h
      have : i = ds.length := by
        have := congrArg List.length e
        rw [List.length_drop, List.length_nil] at this
        omega
      subst this
      exact he _ _ h
    | cons d r ih =>
      intro i env S e hi h
      have hl : i < ds.length := by
        have := congrArg List.length e
        rw [List.length_drop, List.length_cons] at this
        omega
      have e2 := List.drop_eq_getElem_cons hl
      rw [← e] at e2
      cases e2
      obtain ⟨e', h1, h2⟩ := hs i _ env S (forD p st (ds.drop (i + 1)) De) (List.getElem?_eq_getElem hl) h fun e s q => ih (i + 1) e s rfl hl q
      unfold forD
      rw [h1]
      exact h2
  exact key ds 0 env S (by simp) (Nat.zero_le _) h0
/-- a comprehension with a word on what it has made -/
theorem lcGo_inv {p : Addr} {step : D → Sto → (Option D → Sto → Prop) → Prop} {Q : List D → Sto → Prop} (I : Nat → List D → Sto → Prop) (xs : List D)
    (hs : ∀ i x acc S k, xs[i]? = some x → I i acc S → S p = some (.lst acc) → (∀ y S1, S1 p = some (.lst acc) → acc.length < sizeLine → I (i + 1) (acc ++ [y]) (sup S1 p (.lst (acc ++ [y]))) → k (some y) S1) → (∀ S1, S1 p = some (.lst acc) → I (i + 1) acc S1 → k none S1) → step x S k)
    (he : ∀ acc S, I xs.length acc S → S p = some (.lst acc) → Q acc (sdel S p)) : ∀ acc S, I 0 acc S → S p = some (.lst acc) → tdLcGo p step xs acc S Q := by
  have key : ∀ (r : List D) (i : Nat) (acc : List D) (S : Sto), r = xs.drop i → i ≤ xs.length → I i acc S → S p = some (.lst acc) → tdLcGo p step r acc S Q := by
    intro r
    induction r with
    | nil =>
      intro i acc S e hi h hp
      have : i = xs.length := by
        have := congrArg List.length e
        rw [List.length_drop, List.length_nil] at this
        omega
      subst this
      exact ⟨hp, he _ _ h hp⟩
    | cons d r ih =>
      intro i acc S e hi h hp
      have hl : i < xs.length := by
        have := congrArg List.length e
        rw [List.length_drop, List.length_cons] at this
        omega
      have e2 := List.drop_eq_getElem_cons hl
      rw [← e] at e2
      cases e2
      exact ⟨hp, hs i _ acc S _ (List.getElem?_eq_getElem hl) h hp (fun y S1 h1 h2 h3 => ⟨h1, h2, ih (i + 1) _ _ rfl hl h3 sup_same⟩) fun S1 h1 h3 => ⟨h1, ih (i + 1) _ _ rfl hl h3 h1⟩⟩
  exact fun acc S h hp => key xs 0 acc S (by simp) (Nat.zero_le _) h hp
theorem l2lt {x : Int} {k : Nat} (h : x.natAbs < 2 ^ k) (hk : 0 < k) : x.natAbs.log2 < k := by
  by_cases e : x.natAbs = 0
  · rw [e]; simpa using hk
  · exact (Nat.log2_lt e).mpr h
theorem mul_ok {x y : Int} {k l : Nat} (h : x.natAbs < 2 ^ k) (h2 : y.natAbs < 2 ^ l) (hk : 0 < k) (hl : 0 < l) (s : k + l ≤ 1000000) : x.natAbs.log2 + y.natAbs.log2 < 1000000 := by
  have := l2lt h hk
  have := l2lt h2 hl
  omega
theorem p_modB {i j : Int} (h : 0 < j) (q : ∀ x, 0 ≤ x → x < j → Q (.int x) S) : rdP modD (.int i) (.int j) S Q := p_r (d := .int (i.fmod j)) rfl (show j ≠ 0 by omega) (q _ (Int.fmod_nonneg_of_pos i h) (Int.fmod_lt_of_pos i h))
theorem p_mod {i j : Int} (h : j ≠ 0) (q : Q (.int (i.fmod j)) S) : rdP modD (.int i) (.int j) S Q := p_r (d := .int (i.fmod j)) rfl h q
theorem p_sub {i j : Int} (q : Q (.int (i - j)) S) : rdP subD (.int i) (.int j) S Q := p_r (d := .int (i - j)) rfl trivial q
theorem p_fdiv {i j : Int} (h : CFd i j) (q : Q (.int (i.fdiv j)) S) : rdP fdivD (.int i) (.int j) S Q := p_r (d := .int (i.fdiv j)) rfl h q
theorem p_pow {i j : Int} (h : CPow i j) (q : Q (.int (i ^ j.toNat)) S) : rdP powD (.int i) (.int j) S Q := p_r (d := .int (i ^ j.toNat)) rfl h q
theorem p_lt {i j : Int} (q : Q (.bl (decide (i < j))) S) : rdP ltD (.int i) (.int j) S Q := p_r (d := .bl (decide (i < j))) rfl trivial q
theorem p_le {i j : Int} (q : Q (.bl (decide (i ≤ j))) S) : rdP leD (.int i) (.int j) S Q := p_r (d := .bl (decide (i ≤ j))) rfl trivial q
theorem p_gt {i j : Int} (q : Q (.bl (decide (j < i))) S) : rdP gtD (.int i) (.int j) S Q := p_r (d := .bl (decide (j < i))) rfl trivial q
theorem p_ge {i j : Int} (q : Q (.bl (decide (j ≤ i))) S) : rdP geD (.int i) (.int j) S Q := p_r (d := .bl (decide (j ≤ i))) rfl trivial q
theorem p_eqR (h1 : okD (res S x) = true) (h2 : okD (res S y) = true) (q : Q (.bl (eqD (res S x) (res S y))) S) : rdP (eqR false) x y S Q := p_r (d := .bl (eqD (res S x) (res S y))) rfl ⟨h1, h2⟩ q
theorem p_neR (h1 : okD (res S x) = true) (h2 : okD (res S y) = true) (q : Q (.bl (!eqD (res S x) (res S y))) S) : rdP (eqR true) x y S Q := p_r (d := .bl (!eqD (res S x) (res S y))) rfl ⟨h1, h2⟩ q
theorem eqD_int {i j : Int} : eqD (.int i) (.int j) = decide (i = j) := by
  show PyData.eqv (.int i) (.int j) = _
  unfold PyData.eqv
  by_cases h : i = j <;> simp [h]
theorem eqD_str {i j : Str} : eqD (.str i) (.str j) = (i == j) := by
  show PyData.eqv (.str i) (.str j) = _
  unfold PyData.eqv
  rfl
theorem p_eqI {i j : Int} (q : Q (.bl (decide (i = j))) S) : rdP (eqR false) (.int i) (.int j) S Q := p_eqR rfl rfl (by rw [show eqD (res S (.int i)) (res S (.int j)) = decide (i = j) from eqD_int]; exact q)
theorem p_neI {i j : Int} (q : Q (.bl (!decide (i = j))) S) : rdP (eqR true) (.int i) (.int j) S Q := p_neR rfl rfl (by rw [show eqD (res S (.int i)) (res S (.int j)) = decide (i = j) from eqD_int]; exact q)
theorem p_repr (h : reprOk (res S x)) (q : Q (.str (pyd (res S x)).shown) S) : rdC reprR [x] S Q := p_rc (d := .str (pyd (res S x)).shown) rfl h q
theorem p_isi {n t : String} (e : typD S x = some t) (h : n ∈ ["NoneType", "bool", "int", "str", "tuple", "list", "dict"]) (q : Q (.bl (isaB t n)) S) : rdC isiD [x, .ty n] S Q := p_rc (cc := n ∈ ["NoneType", "bool", "int", "str", "tuple", "list", "dict"]) (d := .bl (isaB t n)) (by unfold isiD; simp only [e]) h q
theorem mul_ok200 {x y : Int} (h : x.natAbs < 2 ^ 200) (h2 : y.natAbs < 2 ^ 200) : x.natAbs.log2 + y.natAbs.log2 < 1000000 := mul_ok h h2 (by decide) (by decide) (by decide)
theorem p_mulI {i j : Int} (h : i.natAbs < 2 ^ 200) (h2 : j.natAbs < 2 ^ 200) (q : Q (.int (i * j)) S) : rdP mulD (.int i) (.int j) S Q := p_r (d := .int (i * j)) rfl (mul_ok200 h h2) q
theorem sdel_sup {o : MO} (h : S a = none) : sdel (sup S a o) a = S := by
  funext q
  by_cases e : q = a
  · subst e; rw [sdel_same, h]
  · rw [sdel_ne e, sup_ne e]
def pDisp (p : Addr) (xs : List Str) (Q : QD) : List D → Sto → Prop := fun ds S2 => ds.length = xs.length ∧ S2 p = some (.dct [] []) ∧ Q (.dct (xs.map D.str) ds) (sdel S2 p)
theorem p_disp {xs : List Str} (q : ∀ p, S p = none → t env (sup S p (.dct [] [])) (pDisp p xs Q)) : tdDisp xs t env S Q := q
theorem p_dispE {xs : List Str} {p : Addr} (hp : S p = none) (hl : ds.length = xs.length) (q : Q (.dct (xs.map D.str) ds) S) : pDisp p xs Q ds (sup S p (.dct [] [])) := ⟨hl, sup_same, by rw [sdel_sup hp]; exact q⟩
def pGet2 (x k z : D) (Q : QD) (S3 : Sto) : Prop := match getD' S3 x with
  | some (ks, vs) => isK1 k = true ∧ Q ((lookD ks vs k).getD z) S3
  | none => False
theorem p_get2 (q : to env S fun x S1 => (getD' S1 x).isSome = true ∧ te env S1 fun k S2 => tf env S2 fun z S3 => pGet2 x k z Q S3) : tdGet2 to te tf env S Q := q
theorem p_getI {A : Prop} (h : (getD' S x).isSome = true) (q : A) : (getD' S x).isSome = true ∧ A := ⟨h, q⟩
theorem p_getS {ks vs : List D} {k z : D} (e : getD' S x = some (ks, vs)) (h : isK1 k = true) (l : lookD ks vs k = some d) (q : Q d S) : pGet2 x k z Q S := by
  unfold pGet2
  rw [e]
  exact ⟨h, by rw [l]; exact q⟩
theorem p_getN {ks vs : List D} {k z : D} (e : getD' S x = some (ks, vs)) (h : isK1 k = true) (l : lookD ks vs k = none) (q : Q z S) : pGet2 x k z Q S := by
  unfold pGet2
  rw [e]
  exact ⟨h, by rw [l]; exact q⟩
theorem p_isN {d : D} (q : Q (.bl (isNon d)) S) : rdP (isNR false) d .non S Q := p_r (cc := True) (d := .bl (isNon d)) rfl trivial q
theorem p_ix0 {r : List D} (q : Q x S) : rdP ixD (.tup (x :: r)) (.int 0) S Q := p_ixQ (xs := x :: r) rfl (by
  unfold L2.atI ixN
  rw [if_pos (by decide), if_pos (by rw [List.length_cons]; omega)]
  rfl) q
theorem p_ix0L {r : List D} (q : Q x S) : rdP ixD (.lst (x :: r)) (.int 0) S Q := p_ixQ (xs := x :: r) rfl (by
  unfold L2.atI ixN
  rw [if_pos (by decide), if_pos (by rw [List.length_cons]; omega)]
  rfl) q
theorem inR_tup {neg : Bool} : PL.inR neg S x (.tup ds) = some (flD x = true ∧ ds.all flD = true, .bl (if neg then !inD x ds else inD x ds)) := by
  unfold PL.inR
  split
  · rename_i h; cases h
  · rename_i h; cases h; rfl
  · rename_i h1 h2; exact absurd rfl (h1 ds)
theorem p_inT (h : flD x = true ∧ ds.all flD = true) (q : Q (.bl (inD x ds)) S) : rdP (PL.inR false) x (.tup ds) S Q := p_r inR_tup h q
theorem p_notInT (h : flD x = true ∧ ds.all flD = true) (q : Q (.bl (!inD x ds)) S) : rdP (PL.inR true) x (.tup ds) S Q := p_r inR_tup h q
theorem to_bl {b c : Bool} (e : b = c) (q : Q (.bl c) S) : Q (.bl b) S := by rw [e]; exact q
theorem p_kinT {tbl : List (Str × D)} {z : Str} (e : tbl.lookup z = some d) (q : Q (.bl true) S) : pKIn false tbl Q (.str z) S := p_kinS (by rw [e]; rfl) q
theorem p_kinF {tbl : List (Str × D)} {z : Str} (e : tbl.lookup z = none) (q : Q (.bl false) S) : pKIn false tbl Q (.str z) S := p_kinS (by rw [e]; rfl) q
theorem p_nkinT {tbl : List (Str × D)} {z : Str} (e : tbl.lookup z = some d) (q : Q (.bl false) S) : pKIn true tbl Q (.str z) S := p_kinS (by rw [e]; rfl) q
theorem p_nkinF {tbl : List (Str × D)} {z : Str} (e : tbl.lookup z = none) (q : Q (.bl true) S) : pKIn true tbl Q (.str z) S := p_kinS (by rw [e]; rfl) q
theorem p_lc {w : TID} {pt : TPat} {tt : TTD} {own : List Nat} (q : w env S fun ds S1 => ∀ p, S1 p = none → tdLcGo p (lcStep pt tt te (wipeD env own)) ds [] (sup S1 p (.lst [])) fun acc S2 => Q (.lst acc) S2) : tdLc w pt tt te own env S Q := q
theorem p_addR {xs ys : List D} (hx : getL S x = some xs) (hy : getL S y = some ys) (hl : xs.length + ys.length ≤ sizeLine) (q : ∀ p, S p = none → Q (.ref p) (sup S p (.lst (xs ++ ys)))) : rdAddR x y S Q := by
  unfold rdAddR
  rw [hx, hy]
  exact ⟨hl, q⟩
theorem lc_step {pt : TPat} {tt : TTD} {k : Option D → Sto → Prop} (e : bindD pt d env = some e') (q : tt e' S fun b S1 => if b = true then te e' S1 fun y S2 => k (some y) S2 else k none S1) : lcStep pt tt te env d S k := by
  unfold lcStep
  rw [e]
  exact q
theorem p_eqL {xs ys : List D} (h1 : okD (.lst xs) = true) (h2 : okD (.lst ys) = true) (q : Q (.bl (eqD (.lst xs) (.lst ys))) S) : rdP (eqR false) (.lst xs) (.lst ys) S Q := p_eqR h1 h2 q
theorem p_neL {xs ys : List D} (h1 : okD (.lst xs) = true) (h2 : okD (.lst ys) = true) (q : Q (.bl (!eqD (.lst xs) (.lst ys))) S) : rdP (eqR true) (.lst xs) (.lst ys) S Q := p_neR h1 h2 q
theorem p_eqT {xs ys : List D} (h1 : okD (.tup xs) = true) (h2 : okD (.tup ys) = true) (q : Q (.bl (eqD (.tup xs) (.tup ys))) S) : rdP (eqR false) (.tup xs) (.tup ys) S Q := p_eqR h1 h2 q
theorem p_neT {xs ys : List D} (h1 : okD (.tup xs) = true) (h2 : okD (.tup ys) = true) (q : Q (.bl (!eqD (.tup xs) (.tup ys))) S) : rdP (eqR true) (.tup xs) (.tup ys) S Q := p_neR h1 h2 q
theorem p_eqS {xs ys : Str} (h1 : okD (.str xs) = true) (h2 : okD (.str ys) = true) (q : Q (.bl (eqD (.str xs) (.str ys))) S) : rdP (eqR false) (.str xs) (.str ys) S Q := p_eqR h1 h2 q
theorem p_neS {xs ys : Str} (h1 : okD (.str xs) = true) (h2 : okD (.str ys) = true) (q : Q (.bl (!eqD (.str xs) (.str ys))) S) : rdP (eqR true) (.str xs) (.str ys) S Q := p_neR h1 h2 q
end
end PL

namespace PL
open PySem PySem.Spec PyProof.Rows L2

/-! ### the yarn: the script and three figures; each draw lies in its bounds -/
def spinM : TSD := (tdSeq (tdAsg (tdOp (rdP addD) (tdOp (rdP addD) (tdOp (rdP addD) (tdOp (rdP modD) (tdVar 5) (tdC (.int 2147483587))) (tdOp (rdP mulD) (tdOp (rdP mulD) (tdC (.int 6991)) (tdVar 2)) (tdVar 2))) (tdOp (rdP mulD) (tdC (.int 1013)) (tdVar 2))) (tdC (.int 257))) (.nm 6)) (tdSeq (tdAsg (tdOp (rdP modD) (tdOp (rdP addD) (tdOp (rdP addD) (tdOp (rdP mulD) (tdVar 6) (tdVar 6)) (tdOp (rdP mulD) (tdC (.int 50021)) (tdVar 2))) (tdC (.int 59))) (tdC (.int 2147483563))) (.nm 6)) (tdRet (tdOp (rdP modD) (tdOp (rdP fdivD) (tdOp (rdP modD) (tdOp (rdP addD) (tdOp (rdP mulD) (tdVar 6) (tdVar 6)) (tdOp (rdP mulD) (tdC (.int 23)) (tdVar 6))) (tdC (.int 2147483549))) (tdC (.int 64))) (tdVar 1)))))
def spinT : TSD := (tdSeq (tdIfS (tdAnd (tdB (tdOp (rdP geD) (tdVar 5) (tdOp (rdP powD) (tdC (.int 10)) (tdC (.int 18))))) (tdB (tdOp (rdP ltD) (tdVar 4) (tdCB (rdC lenD) (tdCons (tdOp (rdP ixD) (tdVar 0) (tdC (.int 0))) tdNil))))) (tdSeq (tdSetI (tdOp (rdP fdivD) (tdVar 5) (tdVar 1)) (tdVar 0) (tdC (.int 1))) (tdRet (tdOp (rdP modD) (tdVar 5) (tdVar 1)))) tdNext) spinM)
def spinR : TSD := (tdSeq (tdAsg (tdOp (rdP ixD) (tdVar 0) (tdC (.int 2))) (.nm 2)) (tdSeq (tdSetI (tdOp (rdP addD) (tdVar 2) (tdC (.int 1))) (tdVar 0) (tdC (.int 2))) (tdSeq (tdIfS (tdB (tdOp (rdP gtD) (tdOp (rdP ixD) (tdVar 0) (tdC (.int 1))) (tdC (.int 0)))) (tdSeq (tdAsg (tdOp (rdP modD) (tdOp (rdP ixD) (tdVar 0) (tdC (.int 1))) (tdVar 1)) (.nm 3)) (tdSeq (tdSetI (tdOp (rdP fdivD) (tdOp (rdP ixD) (tdVar 0) (tdC (.int 1))) (tdVar 1)) (tdVar 0) (tdC (.int 1))) (tdRet (tdVar 3)))) tdNext) (tdSeq (tdAsg (tdOp (rdP ixD) (tdVar 0) (tdC (.int 3))) (.nm 4)) (tdSeq (tdSetI (tdOp (rdP addD) (tdVar 4) (tdC (.int 1))) (tdVar 0) (tdC (.int 3))) (tdSeq (tdAsg (tdIf (tdB (tdOp (rdP (eqR true)) (tdOp (rdP ixD) (tdVar 0) (tdC (.int 0))) (tdLst tdNil))) (tdOp (rdP ixD) (tdOp (rdP ixD) (tdVar 0) (tdC (.int 0))) (tdOp (rdP modD) (tdVar 4) (tdCB (rdC lenD) (tdCons (tdOp (rdP ixD) (tdVar 0) (tdC (.int 0))) tdNil)))) (tdC (.int 12))) (.nm 5)) spinT))))))
def Yn (ns : List Int) (y : Addr) (B : Nat) (S : Sto) : Prop := ∃ (a c : Int) (t : Nat), S y = some (.lst [.lst (ns.map D.int), .int a, .int t, .int c]) ∧ t ≤ B
def Only (y : Addr) (S S' : Sto) : Prop := ∀ q, q ≠ y → S' q = S q
theorem Yn.up {ns : List Int} {y : Addr} {B C : Nat} {S : Sto} (h : Yn ns y B S) (l : B ≤ C) : Yn ns y C S := let ⟨a, c, t, e, b⟩ := h; ⟨a, c, t, e, Nat.le_trans b l⟩
theorem Yn.ne {ns : List Int} {y p : Addr} {B : Nat} {S : Sto} (h : Yn ns y B S) (e : S p = none) : p ≠ y := fun k => by
  obtain ⟨a, c, t, h1, _⟩ := h
  rw [← k, e] at h1; cases h1
theorem Yn.sup {ns : List Int} {y p : Addr} {B : Nat} {S : Sto} {o : MO} (h : Yn ns y B S) (n : p ≠ y) : Yn ns y B (sup S p o) := by
  obtain ⟨a, c, t, h1, h2⟩ := h
  exact ⟨a, c, t, by rw [sup_ne (Ne.symm n)]; exact h1, h2⟩
theorem Yn.del {ns : List Int} {y p : Addr} {B : Nat} {S : Sto} (h : Yn ns y B S) (n : p ≠ y) : Yn ns y B (sdel S p) := by
  obtain ⟨a, c, t, h1, h2⟩ := h
  exact ⟨a, c, t, by rw [sdel_ne (Ne.symm n)]; exact h1, h2⟩
theorem Only.refl {y : Addr} {S : Sto} : Only y S S := fun _ _ => rfl
theorem Only.trans {y : Addr} {S S1 S2 : Sto} (h : Only y S S1) (k : Only y S1 S2) : Only y S S2 := fun q n => (k q n).trans (h q n)
theorem only_sup {y : Addr} {S : Sto} {o : MO} : Only y S (sup S y o) := fun q n => sup_ne n
theorem fmod_lo {a m : Int} (h : 0 < m) : 0 ≤ a.fmod m := Int.fmod_nonneg_of_pos a h
theorem fmod_hi {a m : Int} (h : 0 < m) : a.fmod m < m := Int.fmod_lt_of_pos a h
theorem atI_map {ns : List Int} {i : Int} (h0 : 0 ≤ i) (h1 : i < ns.length) : ∃ n, atI (ns.map D.int) i = some (.int n) := by
  unfold L2.atI ixN
  rw [if_pos h0, List.length_map, if_pos h1]
  refine ⟨ns[i.toNat]'(by omega), ?_⟩
  show (ns.map D.int)[i.toNat]? = _
  rw [List.getElem?_map, List.getElem?_eq_getElem (by omega)]
  rfl
theorem isDts_ints : ∀ ns : List Int, isDts (ns.map D.int) = true
  | [] => rfl
  | n :: r => by rw [List.map_cons]; unfold isDts; rw [isDts_ints r]; rfl
/-! ### data of bounded looks -/
structure Okd (d : D) (k w : Nat) : Prop where
  dt : isDt d = true
  lay : PyData.canLay0 (pyd d) = true
  dep : PyData.depth (pyd d) ≤ k
  sh : PyData.showable (pyd d) = true
  len : (PyData.shown (pyd d)).length ≤ w
theorem Okd.mono {d : D} {k w k' w' : Nat} (h : Okd d k w) (l : k ≤ k' := by decide) (m : w ≤ w' := by decide) : Okd d k' w' := ⟨h.dt, h.lay, Nat.le_trans h.dep l, h.sh, Nat.le_trans h.len m⟩
theorem okd_int {i : Int} (h : i.natAbs < 10 ^ 30) : Okd (.int i) 0 31 where
  dt := rfl
  lay := rfl
  dep := Nat.le_refl _
  sh := by
    show decide (i.natAbs.log2 < 1920) = true
    have : i.natAbs < 2 ^ 100 := Nat.lt_trans h (by decide)
    have := l2lt this (by decide)
    exact decide_eq_true (by omega)
  len := by
    show (Str.ofString (toString i)).length ≤ 31
    rw [PySem.ofString_length]
    exact int_text_length_le10 (k := 30) (by decide) h
theorem okd_non : Okd .non 0 4 := ⟨rfl, rfl, Nat.le_refl _, rfl, by decide⟩
theorem okd_bl {b : Bool} : Okd (.bl b) 0 5 := ⟨rfl, rfl, Nat.le_refl _, rfl, by cases b <;> decide⟩
theorem okd_str {x : Str} {w : Nat} (h : (PyData.strOk x && decide ((reprText x).length ≤ w)) = true) : Okd (.str x) 0 w :=
  have h := Bool.and_eq_true_iff.mp h
  ⟨rfl, by show PyData.canLay0 (.str x) = true; simpa [PyData.canLay0] using h.1, Nat.le_refl _, by show PyData.showable (.str x) = true; simp [PyData.showable], of_decide_eq_true h.2⟩
theorem join_le {w : Nat} : ∀ ts : List Str, (∀ t ∈ ts, t.length ≤ w) → (Str.join ", " ts).length ≤ ts.length * (w + 2)
  | [], _ => Nat.zero_le _
  | [x], h => by
    show x.length ≤ _
    have := h x (by simp)
    simp only [List.length_cons, List.length_nil]
    omega
  | x :: y :: r, h => by
    have ih := join_le (y :: r) fun t ht => h t (List.mem_cons_of_mem _ ht)
    have := h x (by simp)
    show (x ++ ", " ++ Str.join ", " (y :: r)).length ≤ _
    rw [strLen_append, strLen_append]
    have e : ((", " : String) : Str).length = 2 := rfl
    rw [List.length_cons, Nat.succ_mul]
    omega
theorem shownAll_mem {w : Nat} : ∀ ds : List D, (∀ d ∈ ds, (PyData.shown (pyd d)).length ≤ w) → ∀ t ∈ PyData.shownAll (pyds ds), t.length ≤ w
  | [], _, t, h => by unfold pyds PyData.shownAll at h; cases h
  | d :: r, h, t, ht => by
    unfold pyds PyData.shownAll at ht
    rcases List.mem_cons.mp ht with rfl | ht
    · exact h d (by simp)
    · exact shownAll_mem r (fun d hd => h d (List.mem_cons_of_mem _ hd)) t ht
theorem shownAll_len : ∀ ds : List D, (PyData.shownAll (pyds ds)).length = ds.length
  | [] => by unfold pyds PyData.shownAll; rfl
  | d :: r => by unfold pyds PyData.shownAll; rw [List.length_cons, List.length_cons, shownAll_len r]
theorem okds {k w : Nat} : ∀ ds : List D, (∀ d ∈ ds, Okd d k w) → isDts ds = true ∧ PyData.canLayAll0 (pyds ds) = true ∧ PyData.depthAll (pyds ds) ≤ k ∧ PyData.showableAll (pyds ds) = true
  | [], _ => ⟨rfl, rfl, Nat.zero_le _, rfl⟩
  | d :: r, h => by
    have ih := okds r fun d hd => h d (List.mem_cons_of_mem _ hd)
    have h0 := h d (by simp)
    refine ⟨?_, ?_, ?_, ?_⟩
    · unfold isDts; rw [h0.dt, ih.1]; rfl
    · unfold pyds PyData.canLayAll0; rw [h0.lay, ih.2.1]; rfl
    · unfold pyds PyData.depthAll; exact Nat.max_le.mpr ⟨h0.dep, ih.2.2.1⟩
    · unfold pyds PyData.showableAll; rw [h0.sh, ih.2.2.2]; rfl
theorem okd_lst {ds : List D} {k w n : Nat} (h : ∀ d ∈ ds, Okd d k w) (hn : ds.length ≤ n) : Okd (.lst ds) (k + 1) (n * (w + 2) + 2) := by
  obtain ⟨a, b, c, e⟩ := okds ds h
  refine ⟨by unfold isDt; exact a, by unfold pyd PyData.canLay0; exact b, by unfold pyd PyData.depth; omega, by unfold pyd PyData.showable; exact e, ?_⟩
  unfold pyd PyData.shown
  rw [listText_eq_join, strLen_append, strLen_append]
  have := join_le _ (shownAll_mem ds fun d hd => (h d hd).len)
  rw [shownAll_len] at this
  have l : ds.length * (w + 2) ≤ n * (w + 2) := Nat.mul_le_mul_right _ hn
  have e1 : (("[" : String) : Str).length = 1 := rfl
  have e2 : (("]" : String) : Str).length = 1 := rfl
  omega
theorem okd_tup {ds : List D} {k w n : Nat} (h : ∀ d ∈ ds, Okd d k w) (hn : ds.length ≤ n) : Okd (.tup ds) (k + 1) (n * (w + 2) + 3) := by
  obtain ⟨a, b, c, e⟩ := okds ds h
  refine ⟨by unfold isDt; exact a, by unfold pyd PyData.canLay0; exact b, by unfold pyd PyData.depth; omega, by unfold pyd PyData.showable; exact e, ?_⟩
  unfold pyd PyData.shown tupleText
  rw [strLen_append, strLen_append]
  have := join_le _ (shownAll_mem ds fun d hd => (h d hd).len)
  rw [shownAll_len] at this
  have l : ds.length * (w + 2) ≤ n * (w + 2) := Nat.mul_le_mul_right _ hn
  have e1 : (("(" : String) : Str).length = 1 := rfl
  have e2 : ((if (PyData.shownAll (pyds ds)).length == 1 then ",)" else ")" : String) : Str).length ≤ 2 := by split <;> decide
  omega
theorem Okd.ok {d : D} {k w : Nat} (h : Okd d k w) (l : k ≤ 64 := by decide) : okD d = true := by
  unfold okD SeqAt.shaped
  rw [h.dt, h.lay, decide_eq_true (Nat.le_trans h.dep l)]; rfl
theorem Okd.repr {d : D} {k w : Nat} (h : Okd d k w) (l : k ≤ 64 := by decide) (m : w ≤ 16000000 := by decide) : reprOk d :=
  ⟨h.dt, h.sh, PyData.hasDict_of_canLay _ h.lay, by have := h.len; rw [sizeLine_eq]; omega, by have := h.dep; omega⟩
theorem ok_flat {d : D} (h : flD d = true) (l : PyData.canLay0 (pyd d) = true) : okD d = true := by
  cases d <;> first | (simp [flD] at h; done) | skip
  all_goals (unfold okD SeqAt.shaped; rw [l]; rfl)
theorem ok_ints (ns : List Int) : okD (.lst (ns.map D.int)) = true := by
  have key : ∀ ns : List Int, PyData.canLayAll0 (pyds (ns.map D.int)) = true ∧ PyData.depthAll (pyds (ns.map D.int)) = 0 := by
    intro ns
    induction ns with
    | nil => exact ⟨rfl, rfl⟩
    | cons n r ih =>
      rw [List.map_cons]
      unfold pyds PyData.canLayAll0 PyData.depthAll
      rw [ih.1, ih.2]
      exact ⟨rfl, rfl⟩
  unfold okD SeqAt.shaped isDt pyd PyData.canLay0 PyData.depth
  rw [isDts_ints, (key ns).1, (key ns).2]
  rfl
/-- flat data of bounded looks, by a look -/
def okB : D → Bool
  | .non => true
  | .bl _ => true
  | .int i => decide (i.natAbs < 10 ^ 30)
  | .str x => PyData.strOk x && decide ((reprText x).length ≤ 31)
  | _ => false
theorem okB_okd {d : D} (h : okB d = true) : Okd d 0 31 := by
  cases d <;> first | (simp [okB] at h; done) | skip
  · exact okd_non.mono
  · exact okd_bl.mono
  · exact okd_int (of_decide_eq_true h)
  · exact okd_str h
theorem okB_int {i : Int} (h0 : -1000000000 ≤ i) (h1 : i ≤ 1000000000) : okB (.int i) = true := decide_eq_true (by omega)
theorem okB_ok {d : D} (h : okB d = true) : okD d = true := (okB_okd h).ok
theorem okB_res {d : D} {S : Sto} (h : okB d = true) : res S d = d := by
  cases d <;> first | rfl | (simp [okB] at h)
theorem okB_okR {d : D} {S : Sto} (h : okB d = true) : okD (res S d) = true := by rw [okB_res h]; exact okB_ok h
theorem okB_mem {ds : List D} {d : D} (h : d ∈ ds) (a : ds.all okB = true) : okB d = true := List.all_eq_true.mp a d h
theorem ok_nil : ([] : List D).all okB = true := rfl
theorem ok_cons {d : D} {r : List D} (h : okB d = true) (t : r.all okB = true) : (d :: r).all okB = true := by rw [List.all_cons, h, t]; rfl
theorem p_mulB {a : Str} {b : Bool} {S : Sto} {Q : QD} (h : a.length ≤ 1000) (q1 : Q (.str (Txt.mul a 1)) S) (q0 : Q (.str (Txt.mul a 0)) S) : rdP mulS (.str a) (.int (if b = true then 1 else 0)) S Q := by
  cases b with
  | true => exact p_r rfl ⟨by decide, by decide, h⟩ q1
  | false => exact p_r rfl ⟨by decide, by decide, h⟩ q0
theorem mem3 {P : D → Prop} {d a b c : D} (h : d ∈ [a, b, c]) (pa : P a) (pb : P b) (pc : P c) : P d := by
  rcases List.mem_cons.mp h with rfl | h
  · exact pa
  rcases List.mem_cons.mp h with rfl | h
  · exact pb
  rcases List.mem_cons.mp h with rfl | h
  · exact pc
  · cases h
theorem p_reprB {d : D} {S : Sto} {Q : QD} (h : okB d = true) (q : Q (.str (PyData.shown (pyd d))) S) : rdC reprR [d] S Q := p_repr (by rw [okB_res h]; exact (okB_okd h).repr) (by rw [okB_res h]; exact q)
theorem mem_sub {d : D} {ds es : List D} (h : d ∈ ds) (s : ∀ x ∈ ds, x ∈ es) : d ∈ es := s d h
theorem p_ixE {ds : List D} {k : Int} {S : Sto} {Q : QD} (h0 : 0 ≤ k) (h1 : k < ds.length) (q : ∀ d, d ∈ ds → Q d S) : rdP ixD (.lst ds) (.int k) S Q := by
  have e : atI ds k = some (ds[k.toNat]'(by omega)) := by
    unfold L2.atI ixN
    rw [if_pos h0, if_pos h1]
    show ds[k.toNat]? = _
    rw [List.getElem?_eq_getElem (by omega)]
  exact p_ixQ rfl e (q _ (List.getElem_mem _))
theorem spin_m {m c f : Int} {t : Nat} {S : Sto} {y : Addr} {Q : QD} {nx : Env' → Sto → Prop} (hm : 0 < m) (ht : t ≤ 1000000000)
    (q : ∀ k, 0 ≤ k → k < m → Q (.int k) S) : spinM ⟨nx, Q, fun _ _ => False, fun _ _ => False⟩ [some (.ref y), some (.int m), some (.int t), none, some (.int c), some (.int f), none] S := by
  unfold spinM
  have f0 : 0 ≤ f.fmod 2147483587 := fmod_lo (by decide)
  have f1 : f.fmod 2147483587 < 2147483587 := fmod_hi (by decide)
  have tt0 : (0 : Int) ≤ 6991 * t * t := Int.mul_nonneg (by omega) (by omega)
  have tt1 : (6991 : Int) * t * t ≤ 6991 * 1000000000 * 1000000000 := by
    have h1 : (6991 : Int) * t ≤ 6991 * 1000000000 := by omega
    exact Int.mul_le_mul h1 (by omega) (by omega) (by omega)
  have F (x : Int) : CFd x 64 := .inl ⟨by decide, by decide⟩
  (repeat' (first | with_reducible refine p_modB (j := 2147483563) (by decide) fun x x0 x1 => ?_ | with_reducible refine p_fdiv (F _) ?_ | with_reducible refine p_seq ?_ | with_reducible refine p_next ?_ | with_reducible refine p_var (by with_unfolding_all rfl) ?_ | with_reducible refine p_c ?_ | with_reducible refine p_op ?_ | with_reducible refine p_cb ?_ | with_reducible refine p_call ?_ | with_reducible refine p_cons ?_ | with_reducible refine p_nil ?_ | with_reducible refine p_tup ?_ | with_reducible refine p_lst ?_ | with_reducible refine p_b ?_ | with_reducible refine p_qb ?_ | with_reducible refine p_and ?_ | with_reducible refine p_or ?_ | with_reducible refine p_not ?_ | with_reducible refine p_andV ?_ | with_reducible refine p_orV ?_ | with_reducible refine p_notV ?_ | with_reducible refine p_if ?_ | with_reducible refine p_ifS ?_ | with_reducible refine p_un ?_ | with_reducible refine p_neg ?_ | with_reducible refine p_ret ?_ | with_reducible refine p_retN ?_ | with_reducible refine p_drop ?_ | with_reducible refine p_asg' ?_ | with_reducible refine p_par ?_ | with_reducible refine p_setI ?_ | with_reducible refine p_sl ?_ | with_reducible refine p_noPart ?_ | with_reducible refine p_part ?_ | with_reducible refine p_partI ?_ | with_reducible refine p_kin ?_ | with_reducible refine p_kget ?_ | with_reducible refine p_lm ?_ | with_reducible refine p_for ?_ | with_reducible refine p_seqI ?_ | with_reducible refine p_seqL ?_ | with_reducible refine p_seqT ?_ | with_reducible refine p_rng1 ?_ | with_reducible refine p_rng1I (by unfold rng1; decide) ?_ | with_reducible refine p_yes ?_ | with_reducible refine p_callK ?_ | with_reducible refine p_lc ?_ | with_reducible refine p_disp fun _ hp0 => ?_ | with_reducible refine p_get2 ?_ | with_reducible refine p_bindM (by with_unfolding_all rfl) ?_ | with_reducible refine p_mulI (by first | decide | omega) (by first | decide | omega) ?_ | with_reducible refine p_mod (by first | decide | omega | assumption) ?_ | with_reducible refine p_sub ?_ | with_reducible refine p_ix0 ?_ | with_reducible refine p_ix0L ?_ | with_reducible refine p_inT (by first | decide +kernel | exact ⟨rfl, rfl⟩ | (simp [flD]; done)) ?_ | with_reducible refine p_notInT (by first | decide +kernel | exact ⟨rfl, rfl⟩ | (simp [flD]; done)) ?_ | with_reducible refine p_fdiv (by first | assumption | decide) ?_ | with_reducible refine p_pow (by unfold CPow; decide) ?_ | with_reducible refine p_lt ?_ | with_reducible refine p_le ?_ | with_reducible refine p_gt ?_ | with_reducible refine p_ge ?_ | with_reducible refine p_eqI ?_ | with_reducible refine p_neI ?_ | with_reducible refine p_eqL (by first | decide +kernel | assumption) (by first | decide +kernel | assumption) ?_ | with_reducible refine p_neL (by first | decide +kernel | assumption) (by first | decide +kernel | assumption) ?_ | with_reducible refine p_eqT (by first | decide +kernel | assumption) (by first | decide +kernel | assumption) ?_ | with_reducible refine p_neT (by first | decide +kernel | assumption) (by first | decide +kernel | assumption) ?_ | with_reducible refine p_eqS (by first | decide +kernel | assumption) (by first | decide +kernel | assumption) ?_ | with_reducible refine p_neS (by first | decide +kernel | assumption) (by first | decide +kernel | assumption) ?_ | with_reducible refine p_isi (by with_unfolding_all rfl) (by decide) ?_ | with_reducible refine p_lmO (by first | assumption | exact sup_same) ?_ | with_reducible refine p_lmE (by first | assumption | exact sup_same) (by with_unfolding_all rfl) (by (first | exact True.intro | exact szl | (with_reducible assumption) | decide | (simp only [List.length_cons, List.length_nil]; first | exact szl | omega) | omega)) ?_ | with_reducible refine p_freeze (by with_unfolding_all rfl) (by first | assumption | exact sup_same) ?_ | with_reducible refine p_dispE (by assumption) (by with_unfolding_all rfl) ?_ | with_reducible refine p_getI (by with_unfolding_all rfl) ?_ | with_reducible refine p_getS (by with_unfolding_all rfl) (by with_unfolding_all rfl) (by first | with_unfolding_all rfl | with_unfolding_all assumption) ?_ | with_reducible refine p_getN (by with_unfolding_all rfl) (by with_unfolding_all rfl) (by first | with_unfolding_all rfl | with_unfolding_all assumption) ?_ | with_reducible refine p_r (by with_unfolding_all rfl) (by (first | exact True.intro | exact szl | (with_reducible assumption) | decide | (simp only [List.length_cons, List.length_nil]; first | exact szl | omega) | omega)) ?_ | with_reducible refine p_rc (by with_unfolding_all rfl) (by (first | exact True.intro | exact szl | (with_reducible assumption) | decide | (simp only [List.length_cons, List.length_nil]; first | exact szl | omega) | omega)) ?_ | with_reducible refine p_ixS (by first | assumption | exact sup_same) (by with_unfolding_all rfl) ?_ | with_reducible refine p_set (by first | assumption | exact sup_same) (by with_unfolding_all rfl) ?_ | with_reducible refine p_onE (by with_unfolding_all rfl) (by (first | exact True.intro | exact szl | (with_reducible assumption) | decide | (simp only [List.length_cons, List.length_nil]; first | exact szl | omega) | omega)) ?_ | with_reducible refine p_kgetS (by first | with_unfolding_all rfl | with_unfolding_all assumption) ?_ | with_reducible refine p_kinT (by first | with_unfolding_all rfl | with_unfolding_all assumption) ?_ | with_reducible refine p_kinF (by first | with_unfolding_all rfl | with_unfolding_all assumption) ?_ | with_reducible refine p_nkinT (by first | with_unfolding_all rfl | with_unfolding_all assumption) ?_ | with_reducible refine p_nkinF (by first | with_unfolding_all rfl | with_unfolding_all assumption) ?_ | with_reducible refine p_T (by with_unfolding_all rfl) ?_ | with_reducible refine p_F (by with_unfolding_all rfl) ?_ | with_reducible refine And.intro (a := List.length _ ≤ sizeLine) szl ?_ | with_reducible refine And.intro (a := List.length _ = _) (by with_unfolding_all rfl) ?_))
  exact q _ (fmod_lo hm) (fmod_hi hm)
theorem spin_t {ns : List Int} {y : Addr} {m a c f : Int} {t : Nat} {S : Sto} {Q : QD} {nx : Env' → Sto → Prop} (hns : ns.length ≤ 63) (h : S y = some (.lst [.lst (ns.map D.int), .int a, .int ((t + 1 : Nat) : Int), .int (c + 1)])) (hm : 0 < m) (hm2 : m < 1073741824) (ht : t ≤ 1000000000)
    (q : ∀ k a' S', 0 ≤ k → k < m → S' y = some (.lst [.lst (ns.map D.int), .int a', .int ((t + 1 : Nat) : Int), .int (c + 1)]) → Only y S S' → Q (.int k) S') : spinT ⟨nx, Q, fun _ _ => False, fun _ _ => False⟩ [some (.ref y), some (.int m), some (.int t), none, some (.int c), some (.int f), none] S := by
  unfold spinT
  have hf : CFd f m := .inl ⟨by omega, by omega⟩
  have hp : CPow 10 18 := by unfold CPow; decide
  (repeat' (first | with_reducible refine p_seq ?_ | with_reducible refine p_next ?_ | with_reducible refine p_var (by with_unfolding_all rfl) ?_ | with_reducible refine p_c ?_ | with_reducible refine p_op ?_ | with_reducible refine p_cb ?_ | with_reducible refine p_call ?_ | with_reducible refine p_cons ?_ | with_reducible refine p_nil ?_ | with_reducible refine p_tup ?_ | with_reducible refine p_lst ?_ | with_reducible refine p_b ?_ | with_reducible refine p_qb ?_ | with_reducible refine p_and ?_ | with_reducible refine p_or ?_ | with_reducible refine p_not ?_ | with_reducible refine p_andV ?_ | with_reducible refine p_orV ?_ | with_reducible refine p_notV ?_ | with_reducible refine p_if ?_ | with_reducible refine p_ifS ?_ | with_reducible refine p_un ?_ | with_reducible refine p_neg ?_ | with_reducible refine p_ret ?_ | with_reducible refine p_retN ?_ | with_reducible refine p_drop ?_ | with_reducible refine p_asg' ?_ | with_reducible refine p_par ?_ | with_reducible refine p_setI ?_ | with_reducible refine p_sl ?_ | with_reducible refine p_noPart ?_ | with_reducible refine p_part ?_ | with_reducible refine p_partI ?_ | with_reducible refine p_kin ?_ | with_reducible refine p_kget ?_ | with_reducible refine p_lm ?_ | with_reducible refine p_for ?_ | with_reducible refine p_seqI ?_ | with_reducible refine p_seqL ?_ | with_reducible refine p_seqT ?_ | with_reducible refine p_rng1 ?_ | with_reducible refine p_rng1I (by unfold rng1; decide) ?_ | with_reducible refine p_yes ?_ | with_reducible refine p_callK ?_ | with_reducible refine p_lc ?_ | with_reducible refine p_disp fun _ hp0 => ?_ | with_reducible refine p_get2 ?_ | with_reducible refine p_bindM (by with_unfolding_all rfl) ?_ | with_reducible refine p_mulI (by first | decide | omega) (by first | decide | omega) ?_ | with_reducible refine p_mod (by first | decide | omega | assumption) ?_ | with_reducible refine p_sub ?_ | with_reducible refine p_ix0 ?_ | with_reducible refine p_ix0L ?_ | with_reducible refine p_inT (by first | decide +kernel | exact ⟨rfl, rfl⟩ | (simp [flD]; done)) ?_ | with_reducible refine p_notInT (by first | decide +kernel | exact ⟨rfl, rfl⟩ | (simp [flD]; done)) ?_ | with_reducible refine p_fdiv (by first | assumption | decide) ?_ | with_reducible refine p_pow (by unfold CPow; decide) ?_ | with_reducible refine p_lt ?_ | with_reducible refine p_le ?_ | with_reducible refine p_gt ?_ | with_reducible refine p_ge ?_ | with_reducible refine p_eqI ?_ | with_reducible refine p_neI ?_ | with_reducible refine p_eqL (by first | decide +kernel | assumption) (by first | decide +kernel | assumption) ?_ | with_reducible refine p_neL (by first | decide +kernel | assumption) (by first | decide +kernel | assumption) ?_ | with_reducible refine p_eqT (by first | decide +kernel | assumption) (by first | decide +kernel | assumption) ?_ | with_reducible refine p_neT (by first | decide +kernel | assumption) (by first | decide +kernel | assumption) ?_ | with_reducible refine p_eqS (by first | decide +kernel | assumption) (by first | decide +kernel | assumption) ?_ | with_reducible refine p_neS (by first | decide +kernel | assumption) (by first | decide +kernel | assumption) ?_ | with_reducible refine p_isi (by with_unfolding_all rfl) (by decide) ?_ | with_reducible refine p_lmO (by first | assumption | exact sup_same) ?_ | with_reducible refine p_lmE (by first | assumption | exact sup_same) (by with_unfolding_all rfl) (by (first | exact True.intro | exact szl | (with_reducible assumption) | decide | (simp only [List.length_cons, List.length_nil]; first | exact szl | omega) | omega)) ?_ | with_reducible refine p_freeze (by with_unfolding_all rfl) (by first | assumption | exact sup_same) ?_ | with_reducible refine p_dispE (by assumption) (by with_unfolding_all rfl) ?_ | with_reducible refine p_getI (by with_unfolding_all rfl) ?_ | with_reducible refine p_getS (by with_unfolding_all rfl) (by with_unfolding_all rfl) (by first | with_unfolding_all rfl | with_unfolding_all assumption) ?_ | with_reducible refine p_getN (by with_unfolding_all rfl) (by with_unfolding_all rfl) (by first | with_unfolding_all rfl | with_unfolding_all assumption) ?_ | with_reducible refine p_r (by with_unfolding_all rfl) (by (first | exact True.intro | exact szl | (with_reducible assumption) | decide | (simp only [List.length_cons, List.length_nil]; first | exact szl | omega) | omega)) ?_ | with_reducible refine p_rc (by with_unfolding_all rfl) (by (first | exact True.intro | exact szl | (with_reducible assumption) | decide | (simp only [List.length_cons, List.length_nil]; first | exact szl | omega) | omega)) ?_ | with_reducible refine p_ixS (by first | assumption | exact sup_same) (by with_unfolding_all rfl) ?_ | with_reducible refine p_set (by first | assumption | exact sup_same) (by with_unfolding_all rfl) ?_ | with_reducible refine p_onE (by with_unfolding_all rfl) (by (first | exact True.intro | exact szl | (with_reducible assumption) | decide | (simp only [List.length_cons, List.length_nil]; first | exact szl | omega) | omega)) ?_ | with_reducible refine p_kgetS (by first | with_unfolding_all rfl | with_unfolding_all assumption) ?_ | with_reducible refine p_kinT (by first | with_unfolding_all rfl | with_unfolding_all assumption) ?_ | with_reducible refine p_kinF (by first | with_unfolding_all rfl | with_unfolding_all assumption) ?_ | with_reducible refine p_nkinT (by first | with_unfolding_all rfl | with_unfolding_all assumption) ?_ | with_reducible refine p_nkinF (by first | with_unfolding_all rfl | with_unfolding_all assumption) ?_ | with_reducible refine p_T (by with_unfolding_all rfl) ?_ | with_reducible refine p_F (by with_unfolding_all rfl) ?_ | with_reducible refine And.intro (a := List.length _ ≤ sizeLine) szl ?_ | with_reducible refine And.intro (a := List.length _ = _) (by with_unfolding_all rfl) ?_))
  refine p_iteD (fun h1 => ?_) (fun h1 => ?_)
  · (repeat' (first | with_reducible refine p_seq ?_ | with_reducible refine p_next ?_ | with_reducible refine p_var (by with_unfolding_all rfl) ?_ | with_reducible refine p_c ?_ | with_reducible refine p_op ?_ | with_reducible refine p_cb ?_ | with_reducible refine p_call ?_ | with_reducible refine p_cons ?_ | with_reducible refine p_nil ?_ | with_reducible refine p_tup ?_ | with_reducible refine p_lst ?_ | with_reducible refine p_b ?_ | with_reducible refine p_qb ?_ | with_reducible refine p_and ?_ | with_reducible refine p_or ?_ | with_reducible refine p_not ?_ | with_reducible refine p_andV ?_ | with_reducible refine p_orV ?_ | with_reducible refine p_notV ?_ | with_reducible refine p_if ?_ | with_reducible refine p_ifS ?_ | with_reducible refine p_un ?_ | with_reducible refine p_neg ?_ | with_reducible refine p_ret ?_ | with_reducible refine p_retN ?_ | with_reducible refine p_drop ?_ | with_reducible refine p_asg' ?_ | with_reducible refine p_par ?_ | with_reducible refine p_setI ?_ | with_reducible refine p_sl ?_ | with_reducible refine p_noPart ?_ | with_reducible refine p_part ?_ | with_reducible refine p_partI ?_ | with_reducible refine p_kin ?_ | with_reducible refine p_kget ?_ | with_reducible refine p_lm ?_ | with_reducible refine p_for ?_ | with_reducible refine p_seqI ?_ | with_reducible refine p_seqL ?_ | with_reducible refine p_seqT ?_ | with_reducible refine p_rng1 ?_ | with_reducible refine p_rng1I (by unfold rng1; decide) ?_ | with_reducible refine p_yes ?_ | with_reducible refine p_callK ?_ | with_reducible refine p_lc ?_ | with_reducible refine p_disp fun _ hp0 => ?_ | with_reducible refine p_get2 ?_ | with_reducible refine p_bindM (by with_unfolding_all rfl) ?_ | with_reducible refine p_mulI (by first | decide | omega) (by first | decide | omega) ?_ | with_reducible refine p_mod (by first | decide | omega | assumption) ?_ | with_reducible refine p_sub ?_ | with_reducible refine p_ix0 ?_ | with_reducible refine p_ix0L ?_ | with_reducible refine p_inT (by first | decide +kernel | exact ⟨rfl, rfl⟩ | (simp [flD]; done)) ?_ | with_reducible refine p_notInT (by first | decide +kernel | exact ⟨rfl, rfl⟩ | (simp [flD]; done)) ?_ | with_reducible refine p_fdiv (by first | assumption | decide) ?_ | with_reducible refine p_pow (by unfold CPow; decide) ?_ | with_reducible refine p_lt ?_ | with_reducible refine p_le ?_ | with_reducible refine p_gt ?_ | with_reducible refine p_ge ?_ | with_reducible refine p_eqI ?_ | with_reducible refine p_neI ?_ | with_reducible refine p_eqL (by first | decide +kernel | assumption) (by first | decide +kernel | assumption) ?_ | with_reducible refine p_neL (by first | decide +kernel | assumption) (by first | decide +kernel | assumption) ?_ | with_reducible refine p_eqT (by first | decide +kernel | assumption) (by first | decide +kernel | assumption) ?_ | with_reducible refine p_neT (by first | decide +kernel | assumption) (by first | decide +kernel | assumption) ?_ | with_reducible refine p_eqS (by first | decide +kernel | assumption) (by first | decide +kernel | assumption) ?_ | with_reducible refine p_neS (by first | decide +kernel | assumption) (by first | decide +kernel | assumption) ?_ | with_reducible refine p_isi (by with_unfolding_all rfl) (by decide) ?_ | with_reducible refine p_lmO (by first | assumption | exact sup_same) ?_ | with_reducible refine p_lmE (by first | assumption | exact sup_same) (by with_unfolding_all rfl) (by (first | exact True.intro | exact szl | (with_reducible assumption) | decide | (simp only [List.length_cons, List.length_nil]; first | exact szl | omega) | omega)) ?_ | with_reducible refine p_freeze (by with_unfolding_all rfl) (by first | assumption | exact sup_same) ?_ | with_reducible refine p_dispE (by assumption) (by with_unfolding_all rfl) ?_ | with_reducible refine p_getI (by with_unfolding_all rfl) ?_ | with_reducible refine p_getS (by with_unfolding_all rfl) (by with_unfolding_all rfl) (by first | with_unfolding_all rfl | with_unfolding_all assumption) ?_ | with_reducible refine p_getN (by with_unfolding_all rfl) (by with_unfolding_all rfl) (by first | with_unfolding_all rfl | with_unfolding_all assumption) ?_ | with_reducible refine p_r (by with_unfolding_all rfl) (by (first | exact True.intro | exact szl | (with_reducible assumption) | decide | (simp only [List.length_cons, List.length_nil]; first | exact szl | omega) | omega)) ?_ | with_reducible refine p_rc (by with_unfolding_all rfl) (by (first | exact True.intro | exact szl | (with_reducible assumption) | decide | (simp only [List.length_cons, List.length_nil]; first | exact szl | omega) | omega)) ?_ | with_reducible refine p_ixS (by first | assumption | exact sup_same) (by with_unfolding_all rfl) ?_ | with_reducible refine p_set (by first | assumption | exact sup_same) (by with_unfolding_all rfl) ?_ | with_reducible refine p_onE (by with_unfolding_all rfl) (by (first | exact True.intro | exact szl | (with_reducible assumption) | decide | (simp only [List.length_cons, List.length_nil]; first | exact szl | omega) | omega)) ?_ | with_reducible refine p_kgetS (by first | with_unfolding_all rfl | with_unfolding_all assumption) ?_ | with_reducible refine p_kinT (by first | with_unfolding_all rfl | with_unfolding_all assumption) ?_ | with_reducible refine p_kinF (by first | with_unfolding_all rfl | with_unfolding_all assumption) ?_ | with_reducible refine p_nkinT (by first | with_unfolding_all rfl | with_unfolding_all assumption) ?_ | with_reducible refine p_nkinF (by first | with_unfolding_all rfl | with_unfolding_all assumption) ?_ | with_reducible refine p_T (by with_unfolding_all rfl) ?_ | with_reducible refine p_F (by with_unfolding_all rfl) ?_ | with_reducible refine And.intro (a := List.length _ ≤ sizeLine) szl ?_ | with_reducible refine And.intro (a := List.length _ = _) (by with_unfolding_all rfl) ?_))
    refine p_iteD (fun h2 => ?_) (fun h2 => ?_)
    · (repeat' (first | with_reducible refine p_seq ?_ | with_reducible refine p_next ?_ | with_reducible refine p_var (by with_unfolding_all rfl) ?_ | with_reducible refine p_c ?_ | with_reducible refine p_op ?_ | with_reducible refine p_cb ?_ | with_reducible refine p_call ?_ | with_reducible refine p_cons ?_ | with_reducible refine p_nil ?_ | with_reducible refine p_tup ?_ | with_reducible refine p_lst ?_ | with_reducible refine p_b ?_ | with_reducible refine p_qb ?_ | with_reducible refine p_and ?_ | with_reducible refine p_or ?_ | with_reducible refine p_not ?_ | with_reducible refine p_andV ?_ | with_reducible refine p_orV ?_ | with_reducible refine p_notV ?_ | with_reducible refine p_if ?_ | with_reducible refine p_ifS ?_ | with_reducible refine p_un ?_ | with_reducible refine p_neg ?_ | with_reducible refine p_ret ?_ | with_reducible refine p_retN ?_ | with_reducible refine p_drop ?_ | with_reducible refine p_asg' ?_ | with_reducible refine p_par ?_ | with_reducible refine p_setI ?_ | with_reducible refine p_sl ?_ | with_reducible refine p_noPart ?_ | with_reducible refine p_part ?_ | with_reducible refine p_partI ?_ | with_reducible refine p_kin ?_ | with_reducible refine p_kget ?_ | with_reducible refine p_lm ?_ | with_reducible refine p_for ?_ | with_reducible refine p_seqI ?_ | with_reducible refine p_seqL ?_ | with_reducible refine p_seqT ?_ | with_reducible refine p_rng1 ?_ | with_reducible refine p_rng1I (by unfold rng1; decide) ?_ | with_reducible refine p_yes ?_ | with_reducible refine p_callK ?_ | with_reducible refine p_lc ?_ | with_reducible refine p_disp fun _ hp0 => ?_ | with_reducible refine p_get2 ?_ | with_reducible refine p_bindM (by with_unfolding_all rfl) ?_ | with_reducible refine p_mulI (by first | decide | omega) (by first | decide | omega) ?_ | with_reducible refine p_mod (by first | decide | omega | assumption) ?_ | with_reducible refine p_sub ?_ | with_reducible refine p_ix0 ?_ | with_reducible refine p_ix0L ?_ | with_reducible refine p_inT (by first | decide +kernel | exact ⟨rfl, rfl⟩ | (simp [flD]; done)) ?_ | with_reducible refine p_notInT (by first | decide +kernel | exact ⟨rfl, rfl⟩ | (simp [flD]; done)) ?_ | with_reducible refine p_fdiv (by first | assumption | decide) ?_ | with_reducible refine p_pow (by unfold CPow; decide) ?_ | with_reducible refine p_lt ?_ | with_reducible refine p_le ?_ | with_reducible refine p_gt ?_ | with_reducible refine p_ge ?_ | with_reducible refine p_eqI ?_ | with_reducible refine p_neI ?_ | with_reducible refine p_eqL (by first | decide +kernel | assumption) (by first | decide +kernel | assumption) ?_ | with_reducible refine p_neL (by first | decide +kernel | assumption) (by first | decide +kernel | assumption) ?_ | with_reducible refine p_eqT (by first | decide +kernel | assumption) (by first | decide +kernel | assumption) ?_ | with_reducible refine p_neT (by first | decide +kernel | assumption) (by first | decide +kernel | assumption) ?_ | with_reducible refine p_eqS (by first | decide +kernel | assumption) (by first | decide +kernel | assumption) ?_ | with_reducible refine p_neS (by first | decide +kernel | assumption) (by first | decide +kernel | assumption) ?_ | with_reducible refine p_isi (by with_unfolding_all rfl) (by decide) ?_ | with_reducible refine p_lmO (by first | assumption | exact sup_same) ?_ | with_reducible refine p_lmE (by first | assumption | exact sup_same) (by with_unfolding_all rfl) (by (first | exact True.intro | exact szl | (with_reducible assumption) | decide | (simp only [List.length_cons, List.length_nil]; first | exact szl | omega) | omega)) ?_ | with_reducible refine p_freeze (by with_unfolding_all rfl) (by first | assumption | exact sup_same) ?_ | with_reducible refine p_dispE (by assumption) (by with_unfolding_all rfl) ?_ | with_reducible refine p_getI (by with_unfolding_all rfl) ?_ | with_reducible refine p_getS (by with_unfolding_all rfl) (by with_unfolding_all rfl) (by first | with_unfolding_all rfl | with_unfolding_all assumption) ?_ | with_reducible refine p_getN (by with_unfolding_all rfl) (by with_unfolding_all rfl) (by first | with_unfolding_all rfl | with_unfolding_all assumption) ?_ | with_reducible refine p_r (by with_unfolding_all rfl) (by (first | exact True.intro | exact szl | (with_reducible assumption) | decide | (simp only [List.length_cons, List.length_nil]; first | exact szl | omega) | omega)) ?_ | with_reducible refine p_rc (by with_unfolding_all rfl) (by (first | exact True.intro | exact szl | (with_reducible assumption) | decide | (simp only [List.length_cons, List.length_nil]; first | exact szl | omega) | omega)) ?_ | with_reducible refine p_ixS (by first | assumption | exact sup_same) (by with_unfolding_all rfl) ?_ | with_reducible refine p_set (by first | assumption | exact sup_same) (by with_unfolding_all rfl) ?_ | with_reducible refine p_onE (by with_unfolding_all rfl) (by (first | exact True.intro | exact szl | (with_reducible assumption) | decide | (simp only [List.length_cons, List.length_nil]; first | exact szl | omega) | omega)) ?_ | with_reducible refine p_kgetS (by first | with_unfolding_all rfl | with_unfolding_all assumption) ?_ | with_reducible refine p_kinT (by first | with_unfolding_all rfl | with_unfolding_all assumption) ?_ | with_reducible refine p_kinF (by first | with_unfolding_all rfl | with_unfolding_all assumption) ?_ | with_reducible refine p_nkinT (by first | with_unfolding_all rfl | with_unfolding_all assumption) ?_ | with_reducible refine p_nkinF (by first | with_unfolding_all rfl | with_unfolding_all assumption) ?_ | with_reducible refine p_T (by with_unfolding_all rfl) ?_ | with_reducible refine p_F (by with_unfolding_all rfl) ?_ | with_reducible refine And.intro (a := List.length _ ≤ sizeLine) szl ?_ | with_reducible refine And.intro (a := List.length _ = _) (by with_unfolding_all rfl) ?_))
      exact q _ _ _ (fmod_lo hm) (fmod_hi hm) sup_same only_sup
    · (repeat' (first | with_reducible refine p_seq ?_ | with_reducible refine p_next ?_ | with_reducible refine p_var (by with_unfolding_all rfl) ?_ | with_reducible refine p_c ?_ | with_reducible refine p_op ?_ | with_reducible refine p_cb ?_ | with_reducible refine p_call ?_ | with_reducible refine p_cons ?_ | with_reducible refine p_nil ?_ | with_reducible refine p_tup ?_ | with_reducible refine p_lst ?_ | with_reducible refine p_b ?_ | with_reducible refine p_qb ?_ | with_reducible refine p_and ?_ | with_reducible refine p_or ?_ | with_reducible refine p_not ?_ | with_reducible refine p_andV ?_ | with_reducible refine p_orV ?_ | with_reducible refine p_notV ?_ | with_reducible refine p_if ?_ | with_reducible refine p_ifS ?_ | with_reducible refine p_un ?_ | with_reducible refine p_neg ?_ | with_reducible refine p_ret ?_ | with_reducible refine p_retN ?_ | with_reducible refine p_drop ?_ | with_reducible refine p_asg' ?_ | with_reducible refine p_par ?_ | with_reducible refine p_setI ?_ | with_reducible refine p_sl ?_ | with_reducible refine p_noPart ?_ | with_reducible refine p_part ?_ | with_reducible refine p_partI ?_ | with_reducible refine p_kin ?_ | with_reducible refine p_kget ?_ | with_reducible refine p_lm ?_ | with_reducible refine p_for ?_ | with_reducible refine p_seqI ?_ | with_reducible refine p_seqL ?_ | with_reducible refine p_seqT ?_ | with_reducible refine p_rng1 ?_ | with_reducible refine p_rng1I (by unfold rng1; decide) ?_ | with_reducible refine p_yes ?_ | with_reducible refine p_callK ?_ | with_reducible refine p_lc ?_ | with_reducible refine p_disp fun _ hp0 => ?_ | with_reducible refine p_get2 ?_ | with_reducible refine p_bindM (by with_unfolding_all rfl) ?_ | with_reducible refine p_mulI (by first | decide | omega) (by first | decide | omega) ?_ | with_reducible refine p_mod (by first | decide | omega | assumption) ?_ | with_reducible refine p_sub ?_ | with_reducible refine p_ix0 ?_ | with_reducible refine p_ix0L ?_ | with_reducible refine p_inT (by first | decide +kernel | exact ⟨rfl, rfl⟩ | (simp [flD]; done)) ?_ | with_reducible refine p_notInT (by first | decide +kernel | exact ⟨rfl, rfl⟩ | (simp [flD]; done)) ?_ | with_reducible refine p_fdiv (by first | assumption | decide) ?_ | with_reducible refine p_pow (by unfold CPow; decide) ?_ | with_reducible refine p_lt ?_ | with_reducible refine p_le ?_ | with_reducible refine p_gt ?_ | with_reducible refine p_ge ?_ | with_reducible refine p_eqI ?_ | with_reducible refine p_neI ?_ | with_reducible refine p_eqL (by first | decide +kernel | assumption) (by first | decide +kernel | assumption) ?_ | with_reducible refine p_neL (by first | decide +kernel | assumption) (by first | decide +kernel | assumption) ?_ | with_reducible refine p_eqT (by first | decide +kernel | assumption) (by first | decide +kernel | assumption) ?_ | with_reducible refine p_neT (by first | decide +kernel | assumption) (by first | decide +kernel | assumption) ?_ | with_reducible refine p_eqS (by first | decide +kernel | assumption) (by first | decide +kernel | assumption) ?_ | with_reducible refine p_neS (by first | decide +kernel | assumption) (by first | decide +kernel | assumption) ?_ | with_reducible refine p_isi (by with_unfolding_all rfl) (by decide) ?_ | with_reducible refine p_lmO (by first | assumption | exact sup_same) ?_ | with_reducible refine p_lmE (by first | assumption | exact sup_same) (by with_unfolding_all rfl) (by (first | exact True.intro | exact szl | (with_reducible assumption) | decide | (simp only [List.length_cons, List.length_nil]; first | exact szl | omega) | omega)) ?_ | with_reducible refine p_freeze (by with_unfolding_all rfl) (by first | assumption | exact sup_same) ?_ | with_reducible refine p_dispE (by assumption) (by with_unfolding_all rfl) ?_ | with_reducible refine p_getI (by with_unfolding_all rfl) ?_ | with_reducible refine p_getS (by with_unfolding_all rfl) (by with_unfolding_all rfl) (by first | with_unfolding_all rfl | with_unfolding_all assumption) ?_ | with_reducible refine p_getN (by with_unfolding_all rfl) (by with_unfolding_all rfl) (by first | with_unfolding_all rfl | with_unfolding_all assumption) ?_ | with_reducible refine p_r (by with_unfolding_all rfl) (by (first | exact True.intro | exact szl | (with_reducible assumption) | decide | (simp only [List.length_cons, List.length_nil]; first | exact szl | omega) | omega)) ?_ | with_reducible refine p_rc (by with_unfolding_all rfl) (by (first | exact True.intro | exact szl | (with_reducible assumption) | decide | (simp only [List.length_cons, List.length_nil]; first | exact szl | omega) | omega)) ?_ | with_reducible refine p_ixS (by first | assumption | exact sup_same) (by with_unfolding_all rfl) ?_ | with_reducible refine p_set (by first | assumption | exact sup_same) (by with_unfolding_all rfl) ?_ | with_reducible refine p_onE (by with_unfolding_all rfl) (by (first | exact True.intro | exact szl | (with_reducible assumption) | decide | (simp only [List.length_cons, List.length_nil]; first | exact szl | omega) | omega)) ?_ | with_reducible refine p_kgetS (by first | with_unfolding_all rfl | with_unfolding_all assumption) ?_ | with_reducible refine p_kinT (by first | with_unfolding_all rfl | with_unfolding_all assumption) ?_ | with_reducible refine p_kinF (by first | with_unfolding_all rfl | with_unfolding_all assumption) ?_ | with_reducible refine p_nkinT (by first | with_unfolding_all rfl | with_unfolding_all assumption) ?_ | with_reducible refine p_nkinF (by first | with_unfolding_all rfl | with_unfolding_all assumption) ?_ | with_reducible refine p_T (by with_unfolding_all rfl) ?_ | with_reducible refine p_F (by with_unfolding_all rfl) ?_ | with_reducible refine And.intro (a := List.length _ ≤ sizeLine) szl ?_ | with_reducible refine And.intro (a := List.length _ = _) (by with_unfolding_all rfl) ?_))
      exact spin_m hm ht fun k h0 h1 => q k a _ h0 h1 h Only.refl
  · (repeat' (first | with_reducible refine p_seq ?_ | with_reducible refine p_next ?_ | with_reducible refine p_var (by with_unfolding_all rfl) ?_ | with_reducible refine p_c ?_ | with_reducible refine p_op ?_ | with_reducible refine p_cb ?_ | with_reducible refine p_call ?_ | with_reducible refine p_cons ?_ | with_reducible refine p_nil ?_ | with_reducible refine p_tup ?_ | with_reducible refine p_lst ?_ | with_reducible refine p_b ?_ | with_reducible refine p_qb ?_ | with_reducible refine p_and ?_ | with_reducible refine p_or ?_ | with_reducible refine p_not ?_ | with_reducible refine p_andV ?_ | with_reducible refine p_orV ?_ | with_reducible refine p_notV ?_ | with_reducible refine p_if ?_ | with_reducible refine p_ifS ?_ | with_reducible refine p_un ?_ | with_reducible refine p_neg ?_ | with_reducible refine p_ret ?_ | with_reducible refine p_retN ?_ | with_reducible refine p_drop ?_ | with_reducible refine p_asg' ?_ | with_reducible refine p_par ?_ | with_reducible refine p_setI ?_ | with_reducible refine p_sl ?_ | with_reducible refine p_noPart ?_ | with_reducible refine p_part ?_ | with_reducible refine p_partI ?_ | with_reducible refine p_kin ?_ | with_reducible refine p_kget ?_ | with_reducible refine p_lm ?_ | with_reducible refine p_for ?_ | with_reducible refine p_seqI ?_ | with_reducible refine p_seqL ?_ | with_reducible refine p_seqT ?_ | with_reducible refine p_rng1 ?_ | with_reducible refine p_rng1I (by unfold rng1; decide) ?_ | with_reducible refine p_yes ?_ | with_reducible refine p_callK ?_ | with_reducible refine p_lc ?_ | with_reducible refine p_disp fun _ hp0 => ?_ | with_reducible refine p_get2 ?_ | with_reducible refine p_bindM (by with_unfolding_all rfl) ?_ | with_reducible refine p_mulI (by first | decide | omega) (by first | decide | omega) ?_ | with_reducible refine p_mod (by first | decide | omega | assumption) ?_ | with_reducible refine p_sub ?_ | with_reducible refine p_ix0 ?_ | with_reducible refine p_ix0L ?_ | with_reducible refine p_inT (by first | decide +kernel | exact ⟨rfl, rfl⟩ | (simp [flD]; done)) ?_ | with_reducible refine p_notInT (by first | decide +kernel | exact ⟨rfl, rfl⟩ | (simp [flD]; done)) ?_ | with_reducible refine p_fdiv (by first | assumption | decide) ?_ | with_reducible refine p_pow (by unfold CPow; decide) ?_ | with_reducible refine p_lt ?_ | with_reducible refine p_le ?_ | with_reducible refine p_gt ?_ | with_reducible refine p_ge ?_ | with_reducible refine p_eqI ?_ | with_reducible refine p_neI ?_ | with_reducible refine p_eqL (by first | decide +kernel | assumption) (by first | decide +kernel | assumption) ?_ | with_reducible refine p_neL (by first | decide +kernel | assumption) (by first | decide +kernel | assumption) ?_ | with_reducible refine p_eqT (by first | decide +kernel | assumption) (by first | decide +kernel | assumption) ?_ | with_reducible refine p_neT (by first | decide +kernel | assumption) (by first | decide +kernel | assumption) ?_ | with_reducible refine p_eqS (by first | decide +kernel | assumption) (by first | decide +kernel | assumption) ?_ | with_reducible refine p_neS (by first | decide +kernel | assumption) (by first | decide +kernel | assumption) ?_ | with_reducible refine p_isi (by with_unfolding_all rfl) (by decide) ?_ | with_reducible refine p_lmO (by first | assumption | exact sup_same) ?_ | with_reducible refine p_lmE (by first | assumption | exact sup_same) (by with_unfolding_all rfl) (by (first | exact True.intro | exact szl | (with_reducible assumption) | decide | (simp only [List.length_cons, List.length_nil]; first | exact szl | omega) | omega)) ?_ | with_reducible refine p_freeze (by with_unfolding_all rfl) (by first | assumption | exact sup_same) ?_ | with_reducible refine p_dispE (by assumption) (by with_unfolding_all rfl) ?_ | with_reducible refine p_getI (by with_unfolding_all rfl) ?_ | with_reducible refine p_getS (by with_unfolding_all rfl) (by with_unfolding_all rfl) (by first | with_unfolding_all rfl | with_unfolding_all assumption) ?_ | with_reducible refine p_getN (by with_unfolding_all rfl) (by with_unfolding_all rfl) (by first | with_unfolding_all rfl | with_unfolding_all assumption) ?_ | with_reducible refine p_r (by with_unfolding_all rfl) (by (first | exact True.intro | exact szl | (with_reducible assumption) | decide | (simp only [List.length_cons, List.length_nil]; first | exact szl | omega) | omega)) ?_ | with_reducible refine p_rc (by with_unfolding_all rfl) (by (first | exact True.intro | exact szl | (with_reducible assumption) | decide | (simp only [List.length_cons, List.length_nil]; first | exact szl | omega) | omega)) ?_ | with_reducible refine p_ixS (by first | assumption | exact sup_same) (by with_unfolding_all rfl) ?_ | with_reducible refine p_set (by first | assumption | exact sup_same) (by with_unfolding_all rfl) ?_ | with_reducible refine p_onE (by with_unfolding_all rfl) (by (first | exact True.intro | exact szl | (with_reducible assumption) | decide | (simp only [List.length_cons, List.length_nil]; first | exact szl | omega) | omega)) ?_ | with_reducible refine p_kgetS (by first | with_unfolding_all rfl | with_unfolding_all assumption) ?_ | with_reducible refine p_kinT (by first | with_unfolding_all rfl | with_unfolding_all assumption) ?_ | with_reducible refine p_kinF (by first | with_unfolding_all rfl | with_unfolding_all assumption) ?_ | with_reducible refine p_nkinT (by first | with_unfolding_all rfl | with_unfolding_all assumption) ?_ | with_reducible refine p_nkinF (by first | with_unfolding_all rfl | with_unfolding_all assumption) ?_ | with_reducible refine p_T (by with_unfolding_all rfl) ?_ | with_reducible refine p_F (by with_unfolding_all rfl) ?_ | with_reducible refine And.intro (a := List.length _ ≤ sizeLine) szl ?_ | with_reducible refine And.intro (a := List.length _ = _) (by with_unfolding_all rfl) ?_))
    exact spin_m hm ht fun k h0 h1 => q k a _ h0 h1 h Only.refl
theorem spin_p {ns : List Int} {y : Addr} {m a c : Int} {t : Nat} {S : Sto} {Q : QD} {nx : Env' → Sto → Prop} (hns : ns.length ≤ 63) (h : S y = some (.lst [.lst (ns.map D.int), .int a, .int t, .int c])) (hm : 0 < m) (hm2 : m < 1073741824) (ht : t ≤ 1000000000)
    (q : ∀ k a' c' S', 0 ≤ k → k < m → S' y = some (.lst [.lst (ns.map D.int), .int a', .int ((t + 1 : Nat) : Int), .int c']) → Only y S S' → Q (.int k) S') : spinR ⟨nx, Q, fun _ _ => False, fun _ _ => False⟩ [some (.ref y), some (.int m), none, none, none, none, none] S := by
  unfold spinR
  have hf : CFd a m := .inl ⟨by omega, by omega⟩
  have hok := ok_ints ns
  (repeat' (first | with_reducible refine p_seq ?_ | with_reducible refine p_next ?_ | with_reducible refine p_var (by with_unfolding_all rfl) ?_ | with_reducible refine p_c ?_ | with_reducible refine p_op ?_ | with_reducible refine p_cb ?_ | with_reducible refine p_call ?_ | with_reducible refine p_cons ?_ | with_reducible refine p_nil ?_ | with_reducible refine p_tup ?_ | with_reducible refine p_lst ?_ | with_reducible refine p_b ?_ | with_reducible refine p_qb ?_ | with_reducible refine p_and ?_ | with_reducible refine p_or ?_ | with_reducible refine p_not ?_ | with_reducible refine p_andV ?_ | with_reducible refine p_orV ?_ | with_reducible refine p_notV ?_ | with_reducible refine p_if ?_ | with_reducible refine p_ifS ?_ | with_reducible refine p_un ?_ | with_reducible refine p_neg ?_ | with_reducible refine p_ret ?_ | with_reducible refine p_retN ?_ | with_reducible refine p_drop ?_ | with_reducible refine p_asg' ?_ | with_reducible refine p_par ?_ | with_reducible refine p_setI ?_ | with_reducible refine p_sl ?_ | with_reducible refine p_noPart ?_ | with_reducible refine p_part ?_ | with_reducible refine p_partI ?_ | with_reducible refine p_kin ?_ | with_reducible refine p_kget ?_ | with_reducible refine p_lm ?_ | with_reducible refine p_for ?_ | with_reducible refine p_seqI ?_ | with_reducible refine p_seqL ?_ | with_reducible refine p_seqT ?_ | with_reducible refine p_rng1 ?_ | with_reducible refine p_rng1I (by unfold rng1; decide) ?_ | with_reducible refine p_yes ?_ | with_reducible refine p_callK ?_ | with_reducible refine p_lc ?_ | with_reducible refine p_disp fun _ hp0 => ?_ | with_reducible refine p_get2 ?_ | with_reducible refine p_bindM (by with_unfolding_all rfl) ?_ | with_reducible refine p_mulI (by first | decide | omega) (by first | decide | omega) ?_ | with_reducible refine p_mod (by first | decide | omega | assumption) ?_ | with_reducible refine p_sub ?_ | with_reducible refine p_ix0 ?_ | with_reducible refine p_ix0L ?_ | with_reducible refine p_inT (by first | decide +kernel | exact ⟨rfl, rfl⟩ | (simp [flD]; done)) ?_ | with_reducible refine p_notInT (by first | decide +kernel | exact ⟨rfl, rfl⟩ | (simp [flD]; done)) ?_ | with_reducible refine p_fdiv (by first | assumption | decide) ?_ | with_reducible refine p_pow (by unfold CPow; decide) ?_ | with_reducible refine p_lt ?_ | with_reducible refine p_le ?_ | with_reducible refine p_gt ?_ | with_reducible refine p_ge ?_ | with_reducible refine p_eqI ?_ | with_reducible refine p_neI ?_ | with_reducible refine p_eqL (by first | decide +kernel | assumption) (by first | decide +kernel | assumption) ?_ | with_reducible refine p_neL (by first | decide +kernel | assumption) (by first | decide +kernel | assumption) ?_ | with_reducible refine p_eqT (by first | decide +kernel | assumption) (by first | decide +kernel | assumption) ?_ | with_reducible refine p_neT (by first | decide +kernel | assumption) (by first | decide +kernel | assumption) ?_ | with_reducible refine p_eqS (by first | decide +kernel | assumption) (by first | decide +kernel | assumption) ?_ | with_reducible refine p_neS (by first | decide +kernel | assumption) (by first | decide +kernel | assumption) ?_ | with_reducible refine p_isi (by with_unfolding_all rfl) (by decide) ?_ | with_reducible refine p_lmO (by first | assumption | exact sup_same) ?_ | with_reducible refine p_lmE (by first | assumption | exact sup_same) (by with_unfolding_all rfl) (by (first | exact True.intro | exact szl | (with_reducible assumption) | decide | (simp only [List.length_cons, List.length_nil]; first | exact szl | omega) | omega)) ?_ | with_reducible refine p_freeze (by with_unfolding_all rfl) (by first | assumption | exact sup_same) ?_ | with_reducible refine p_dispE (by assumption) (by with_unfolding_all rfl) ?_ | with_reducible refine p_getI (by with_unfolding_all rfl) ?_ | with_reducible refine p_getS (by with_unfolding_all rfl) (by with_unfolding_all rfl) (by first | with_unfolding_all rfl | with_unfolding_all assumption) ?_ | with_reducible refine p_getN (by with_unfolding_all rfl) (by with_unfolding_all rfl) (by first | with_unfolding_all rfl | with_unfolding_all assumption) ?_ | with_reducible refine p_r (by with_unfolding_all rfl) (by (first | exact True.intro | exact szl | (with_reducible assumption) | decide | (simp only [List.length_cons, List.length_nil]; first | exact szl | omega) | omega)) ?_ | with_reducible refine p_rc (by with_unfolding_all rfl) (by (first | exact True.intro | exact szl | (with_reducible assumption) | decide | (simp only [List.length_cons, List.length_nil]; first | exact szl | omega) | omega)) ?_ | with_reducible refine p_ixS (by first | assumption | exact sup_same) (by with_unfolding_all rfl) ?_ | with_reducible refine p_set (by first | assumption | exact sup_same) (by with_unfolding_all rfl) ?_ | with_reducible refine p_onE (by with_unfolding_all rfl) (by (first | exact True.intro | exact szl | (with_reducible assumption) | decide | (simp only [List.length_cons, List.length_nil]; first | exact szl | omega) | omega)) ?_ | with_reducible refine p_kgetS (by first | with_unfolding_all rfl | with_unfolding_all assumption) ?_ | with_reducible refine p_kinT (by first | with_unfolding_all rfl | with_unfolding_all assumption) ?_ | with_reducible refine p_kinF (by first | with_unfolding_all rfl | with_unfolding_all assumption) ?_ | with_reducible refine p_nkinT (by first | with_unfolding_all rfl | with_unfolding_all assumption) ?_ | with_reducible refine p_nkinF (by first | with_unfolding_all rfl | with_unfolding_all assumption) ?_ | with_reducible refine p_T (by with_unfolding_all rfl) ?_ | with_reducible refine p_F (by with_unfolding_all rfl) ?_ | with_reducible refine And.intro (a := List.length _ ≤ sizeLine) szl ?_ | with_reducible refine And.intro (a := List.length _ = _) (by with_unfolding_all rfl) ?_))
  refine p_iteD (fun h1 => ?_) (fun h1 => ?_)
  · (repeat' (first | with_reducible refine p_seq ?_ | with_reducible refine p_next ?_ | with_reducible refine p_var (by with_unfolding_all rfl) ?_ | with_reducible refine p_c ?_ | with_reducible refine p_op ?_ | with_reducible refine p_cb ?_ | with_reducible refine p_call ?_ | with_reducible refine p_cons ?_ | with_reducible refine p_nil ?_ | with_reducible refine p_tup ?_ | with_reducible refine p_lst ?_ | with_reducible refine p_b ?_ | with_reducible refine p_qb ?_ | with_reducible refine p_and ?_ | with_reducible refine p_or ?_ | with_reducible refine p_not ?_ | with_reducible refine p_andV ?_ | with_reducible refine p_orV ?_ | with_reducible refine p_notV ?_ | with_reducible refine p_if ?_ | with_reducible refine p_ifS ?_ | with_reducible refine p_un ?_ | with_reducible refine p_neg ?_ | with_reducible refine p_ret ?_ | with_reducible refine p_retN ?_ | with_reducible refine p_drop ?_ | with_reducible refine p_asg' ?_ | with_reducible refine p_par ?_ | with_reducible refine p_setI ?_ | with_reducible refine p_sl ?_ | with_reducible refine p_noPart ?_ | with_reducible refine p_part ?_ | with_reducible refine p_partI ?_ | with_reducible refine p_kin ?_ | with_reducible refine p_kget ?_ | with_reducible refine p_lm ?_ | with_reducible refine p_for ?_ | with_reducible refine p_seqI ?_ | with_reducible refine p_seqL ?_ | with_reducible refine p_seqT ?_ | with_reducible refine p_rng1 ?_ | with_reducible refine p_rng1I (by unfold rng1; decide) ?_ | with_reducible refine p_yes ?_ | with_reducible refine p_callK ?_ | with_reducible refine p_lc ?_ | with_reducible refine p_disp fun _ hp0 => ?_ | with_reducible refine p_get2 ?_ | with_reducible refine p_bindM (by with_unfolding_all rfl) ?_ | with_reducible refine p_mulI (by first | decide | omega) (by first | decide | omega) ?_ | with_reducible refine p_mod (by first | decide | omega | assumption) ?_ | with_reducible refine p_sub ?_ | with_reducible refine p_ix0 ?_ | with_reducible refine p_ix0L ?_ | with_reducible refine p_inT (by first | decide +kernel | exact ⟨rfl, rfl⟩ | (simp [flD]; done)) ?_ | with_reducible refine p_notInT (by first | decide +kernel | exact ⟨rfl, rfl⟩ | (simp [flD]; done)) ?_ | with_reducible refine p_fdiv (by first | assumption | decide) ?_ | with_reducible refine p_pow (by unfold CPow; decide) ?_ | with_reducible refine p_lt ?_ | with_reducible refine p_le ?_ | with_reducible refine p_gt ?_ | with_reducible refine p_ge ?_ | with_reducible refine p_eqI ?_ | with_reducible refine p_neI ?_ | with_reducible refine p_eqL (by first | decide +kernel | assumption) (by first | decide +kernel | assumption) ?_ | with_reducible refine p_neL (by first | decide +kernel | assumption) (by first | decide +kernel | assumption) ?_ | with_reducible refine p_eqT (by first | decide +kernel | assumption) (by first | decide +kernel | assumption) ?_ | with_reducible refine p_neT (by first | decide +kernel | assumption) (by first | decide +kernel | assumption) ?_ | with_reducible refine p_eqS (by first | decide +kernel | assumption) (by first | decide +kernel | assumption) ?_ | with_reducible refine p_neS (by first | decide +kernel | assumption) (by first | decide +kernel | assumption) ?_ | with_reducible refine p_isi (by with_unfolding_all rfl) (by decide) ?_ | with_reducible refine p_lmO (by first | assumption | exact sup_same) ?_ | with_reducible refine p_lmE (by first | assumption | exact sup_same) (by with_unfolding_all rfl) (by (first | exact True.intro | exact szl | (with_reducible assumption) | decide | (simp only [List.length_cons, List.length_nil]; first | exact szl | omega) | omega)) ?_ | with_reducible refine p_freeze (by with_unfolding_all rfl) (by first | assumption | exact sup_same) ?_ | with_reducible refine p_dispE (by assumption) (by with_unfolding_all rfl) ?_ | with_reducible refine p_getI (by with_unfolding_all rfl) ?_ | with_reducible refine p_getS (by with_unfolding_all rfl) (by with_unfolding_all rfl) (by first | with_unfolding_all rfl | with_unfolding_all assumption) ?_ | with_reducible refine p_getN (by with_unfolding_all rfl) (by with_unfolding_all rfl) (by first | with_unfolding_all rfl | with_unfolding_all assumption) ?_ | with_reducible refine p_r (by with_unfolding_all rfl) (by (first | exact True.intro | exact szl | (with_reducible assumption) | decide | (simp only [List.length_cons, List.length_nil]; first | exact szl | omega) | omega)) ?_ | with_reducible refine p_rc (by with_unfolding_all rfl) (by (first | exact True.intro | exact szl | (with_reducible assumption) | decide | (simp only [List.length_cons, List.length_nil]; first | exact szl | omega) | omega)) ?_ | with_reducible refine p_ixS (by first | assumption | exact sup_same) (by with_unfolding_all rfl) ?_ | with_reducible refine p_set (by first | assumption | exact sup_same) (by with_unfolding_all rfl) ?_ | with_reducible refine p_onE (by with_unfolding_all rfl) (by (first | exact True.intro | exact szl | (with_reducible assumption) | decide | (simp only [List.length_cons, List.length_nil]; first | exact szl | omega) | omega)) ?_ | with_reducible refine p_kgetS (by first | with_unfolding_all rfl | with_unfolding_all assumption) ?_ | with_reducible refine p_kinT (by first | with_unfolding_all rfl | with_unfolding_all assumption) ?_ | with_reducible refine p_kinF (by first | with_unfolding_all rfl | with_unfolding_all assumption) ?_ | with_reducible refine p_nkinT (by first | with_unfolding_all rfl | with_unfolding_all assumption) ?_ | with_reducible refine p_nkinF (by first | with_unfolding_all rfl | with_unfolding_all assumption) ?_ | with_reducible refine p_T (by with_unfolding_all rfl) ?_ | with_reducible refine p_F (by with_unfolding_all rfl) ?_ | with_reducible refine And.intro (a := List.length _ ≤ sizeLine) szl ?_ | with_reducible refine And.intro (a := List.length _ = _) (by with_unfolding_all rfl) ?_))
    exact q _ _ _ _ (fmod_lo hm) (fmod_hi hm) sup_same (only_sup.trans only_sup)
  · have hS : (sup (sup S y (.lst [.lst (ns.map D.int), .int a, .int (t + 1), .int c])) y (.lst [.lst (ns.map D.int), .int a, .int (t + 1), .int (c + 1)])) y = some (.lst [.lst (ns.map D.int), .int a, .int (t + 1), .int (c + 1)]) := sup_same
    have hO : Only y S (sup (sup S y (.lst [.lst (ns.map D.int), .int a, .int (t + 1), .int c])) y (.lst [.lst (ns.map D.int), .int a, .int (t + 1), .int (c + 1)])) := only_sup.trans only_sup
    (repeat' (first | with_reducible refine p_seq ?_ | with_reducible refine p_next ?_ | with_reducible refine p_var (by with_unfolding_all rfl) ?_ | with_reducible refine p_c ?_ | with_reducible refine p_op ?_ | with_reducible refine p_cb ?_ | with_reducible refine p_call ?_ | with_reducible refine p_cons ?_ | with_reducible refine p_nil ?_ | with_reducible refine p_tup ?_ | with_reducible refine p_lst ?_ | with_reducible refine p_b ?_ | with_reducible refine p_qb ?_ | with_reducible refine p_and ?_ | with_reducible refine p_or ?_ | with_reducible refine p_not ?_ | with_reducible refine p_andV ?_ | with_reducible refine p_orV ?_ | with_reducible refine p_notV ?_ | with_reducible refine p_if ?_ | with_reducible refine p_ifS ?_ | with_reducible refine p_un ?_ | with_reducible refine p_neg ?_ | with_reducible refine p_ret ?_ | with_reducible refine p_retN ?_ | with_reducible refine p_drop ?_ | with_reducible refine p_asg' ?_ | with_reducible refine p_par ?_ | with_reducible refine p_setI ?_ | with_reducible refine p_sl ?_ | with_reducible refine p_noPart ?_ | with_reducible refine p_part ?_ | with_reducible refine p_partI ?_ | with_reducible refine p_kin ?_ | with_reducible refine p_kget ?_ | with_reducible refine p_lm ?_ | with_reducible refine p_for ?_ | with_reducible refine p_seqI ?_ | with_reducible refine p_seqL ?_ | with_reducible refine p_seqT ?_ | with_reducible refine p_rng1 ?_ | with_reducible refine p_rng1I (by unfold rng1; decide) ?_ | with_reducible refine p_yes ?_ | with_reducible refine p_callK ?_ | with_reducible refine p_lc ?_ | with_reducible refine p_disp fun _ hp0 => ?_ | with_reducible refine p_get2 ?_ | with_reducible refine p_bindM (by with_unfolding_all rfl) ?_ | with_reducible refine p_mulI (by first | decide | omega) (by first | decide | omega) ?_ | with_reducible refine p_mod (by first | decide | omega | assumption) ?_ | with_reducible refine p_sub ?_ | with_reducible refine p_ix0 ?_ | with_reducible refine p_ix0L ?_ | with_reducible refine p_inT (by first | decide +kernel | exact ⟨rfl, rfl⟩ | (simp [flD]; done)) ?_ | with_reducible refine p_notInT (by first | decide +kernel | exact ⟨rfl, rfl⟩ | (simp [flD]; done)) ?_ | with_reducible refine p_fdiv (by first | assumption | decide) ?_ | with_reducible refine p_pow (by unfold CPow; decide) ?_ | with_reducible refine p_lt ?_ | with_reducible refine p_le ?_ | with_reducible refine p_gt ?_ | with_reducible refine p_ge ?_ | with_reducible refine p_eqI ?_ | with_reducible refine p_neI ?_ | with_reducible refine p_eqL (by first | decide +kernel | assumption) (by first | decide +kernel | assumption) ?_ | with_reducible refine p_neL (by first | decide +kernel | assumption) (by first | decide +kernel | assumption) ?_ | with_reducible refine p_eqT (by first | decide +kernel | assumption) (by first | decide +kernel | assumption) ?_ | with_reducible refine p_neT (by first | decide +kernel | assumption) (by first | decide +kernel | assumption) ?_ | with_reducible refine p_eqS (by first | decide +kernel | assumption) (by first | decide +kernel | assumption) ?_ | with_reducible refine p_neS (by first | decide +kernel | assumption) (by first | decide +kernel | assumption) ?_ | with_reducible refine p_isi (by with_unfolding_all rfl) (by decide) ?_ | with_reducible refine p_lmO (by first | assumption | exact sup_same) ?_ | with_reducible refine p_lmE (by first | assumption | exact sup_same) (by with_unfolding_all rfl) (by (first | exact True.intro | exact szl | (with_reducible assumption) | decide | (simp only [List.length_cons, List.length_nil]; first | exact szl | omega) | omega)) ?_ | with_reducible refine p_freeze (by with_unfolding_all rfl) (by first | assumption | exact sup_same) ?_ | with_reducible refine p_dispE (by assumption) (by with_unfolding_all rfl) ?_ | with_reducible refine p_getI (by with_unfolding_all rfl) ?_ | with_reducible refine p_getS (by with_unfolding_all rfl) (by with_unfolding_all rfl) (by first | with_unfolding_all rfl | with_unfolding_all assumption) ?_ | with_reducible refine p_getN (by with_unfolding_all rfl) (by with_unfolding_all rfl) (by first | with_unfolding_all rfl | with_unfolding_all assumption) ?_ | with_reducible refine p_r (by with_unfolding_all rfl) (by (first | exact True.intro | exact szl | (with_reducible assumption) | decide | (simp only [List.length_cons, List.length_nil]; first | exact szl | omega) | omega)) ?_ | with_reducible refine p_rc (by with_unfolding_all rfl) (by (first | exact True.intro | exact szl | (with_reducible assumption) | decide | (simp only [List.length_cons, List.length_nil]; first | exact szl | omega) | omega)) ?_ | with_reducible refine p_ixS (by first | assumption | exact sup_same) (by with_unfolding_all rfl) ?_ | with_reducible refine p_set (by first | assumption | exact sup_same) (by with_unfolding_all rfl) ?_ | with_reducible refine p_onE (by with_unfolding_all rfl) (by (first | exact True.intro | exact szl | (with_reducible assumption) | decide | (simp only [List.length_cons, List.length_nil]; first | exact szl | omega) | omega)) ?_ | with_reducible refine p_kgetS (by first | with_unfolding_all rfl | with_unfolding_all assumption) ?_ | with_reducible refine p_kinT (by first | with_unfolding_all rfl | with_unfolding_all assumption) ?_ | with_reducible refine p_kinF (by first | with_unfolding_all rfl | with_unfolding_all assumption) ?_ | with_reducible refine p_nkinT (by first | with_unfolding_all rfl | with_unfolding_all assumption) ?_ | with_reducible refine p_nkinF (by first | with_unfolding_all rfl | with_unfolding_all assumption) ?_ | with_reducible refine p_T (by with_unfolding_all rfl) ?_ | with_reducible refine p_F (by with_unfolding_all rfl) ?_ | with_reducible refine And.intro (a := List.length _ ≤ sizeLine) szl ?_ | with_reducible refine And.intro (a := List.length _ = _) (by with_unfolding_all rfl) ?_))
    cases ns with
    | nil =>
      (repeat' (first | with_reducible refine p_seq ?_ | with_reducible refine p_next ?_ | with_reducible refine p_var (by with_unfolding_all rfl) ?_ | with_reducible refine p_c ?_ | with_reducible refine p_op ?_ | with_reducible refine p_cb ?_ | with_reducible refine p_call ?_ | with_reducible refine p_cons ?_ | with_reducible refine p_nil ?_ | with_reducible refine p_tup ?_ | with_reducible refine p_lst ?_ | with_reducible refine p_b ?_ | with_reducible refine p_qb ?_ | with_reducible refine p_and ?_ | with_reducible refine p_or ?_ | with_reducible refine p_not ?_ | with_reducible refine p_andV ?_ | with_reducible refine p_orV ?_ | with_reducible refine p_notV ?_ | with_reducible refine p_if ?_ | with_reducible refine p_ifS ?_ | with_reducible refine p_un ?_ | with_reducible refine p_neg ?_ | with_reducible refine p_ret ?_ | with_reducible refine p_retN ?_ | with_reducible refine p_drop ?_ | with_reducible refine p_asg' ?_ | with_reducible refine p_par ?_ | with_reducible refine p_setI ?_ | with_reducible refine p_sl ?_ | with_reducible refine p_noPart ?_ | with_reducible refine p_part ?_ | with_reducible refine p_partI ?_ | with_reducible refine p_kin ?_ | with_reducible refine p_kget ?_ | with_reducible refine p_lm ?_ | with_reducible refine p_for ?_ | with_reducible refine p_seqI ?_ | with_reducible refine p_seqL ?_ | with_reducible refine p_seqT ?_ | with_reducible refine p_rng1 ?_ | with_reducible refine p_rng1I (by unfold rng1; decide) ?_ | with_reducible refine p_yes ?_ | with_reducible refine p_callK ?_ | with_reducible refine p_lc ?_ | with_reducible refine p_disp fun _ hp0 => ?_ | with_reducible refine p_get2 ?_ | with_reducible refine p_bindM (by with_unfolding_all rfl) ?_ | with_reducible refine p_mulI (by first | decide | omega) (by first | decide | omega) ?_ | with_reducible refine p_mod (by first | decide | omega | assumption) ?_ | with_reducible refine p_sub ?_ | with_reducible refine p_ix0 ?_ | with_reducible refine p_ix0L ?_ | with_reducible refine p_inT (by first | decide +kernel | exact ⟨rfl, rfl⟩ | (simp [flD]; done)) ?_ | with_reducible refine p_notInT (by first | decide +kernel | exact ⟨rfl, rfl⟩ | (simp [flD]; done)) ?_ | with_reducible refine p_fdiv (by first | assumption | decide) ?_ | with_reducible refine p_pow (by unfold CPow; decide) ?_ | with_reducible refine p_lt ?_ | with_reducible refine p_le ?_ | with_reducible refine p_gt ?_ | with_reducible refine p_ge ?_ | with_reducible refine p_eqI ?_ | with_reducible refine p_neI ?_ | with_reducible refine p_eqL (by first | decide +kernel | assumption) (by first | decide +kernel | assumption) ?_ | with_reducible refine p_neL (by first | decide +kernel | assumption) (by first | decide +kernel | assumption) ?_ | with_reducible refine p_eqT (by first | decide +kernel | assumption) (by first | decide +kernel | assumption) ?_ | with_reducible refine p_neT (by first | decide +kernel | assumption) (by first | decide +kernel | assumption) ?_ | with_reducible refine p_eqS (by first | decide +kernel | assumption) (by first | decide +kernel | assumption) ?_ | with_reducible refine p_neS (by first | decide +kernel | assumption) (by first | decide +kernel | assumption) ?_ | with_reducible refine p_isi (by with_unfolding_all rfl) (by decide) ?_ | with_reducible refine p_lmO (by first | assumption | exact sup_same) ?_ | with_reducible refine p_lmE (by first | assumption | exact sup_same) (by with_unfolding_all rfl) (by (first | exact True.intro | exact szl | (with_reducible assumption) | decide | (simp only [List.length_cons, List.length_nil]; first | exact szl | omega) | omega)) ?_ | with_reducible refine p_freeze (by with_unfolding_all rfl) (by first | assumption | exact sup_same) ?_ | with_reducible refine p_dispE (by assumption) (by with_unfolding_all rfl) ?_ | with_reducible refine p_getI (by with_unfolding_all rfl) ?_ | with_reducible refine p_getS (by with_unfolding_all rfl) (by with_unfolding_all rfl) (by first | with_unfolding_all rfl | with_unfolding_all assumption) ?_ | with_reducible refine p_getN (by with_unfolding_all rfl) (by with_unfolding_all rfl) (by first | with_unfolding_all rfl | with_unfolding_all assumption) ?_ | with_reducible refine p_r (by with_unfolding_all rfl) (by (first | exact True.intro | exact szl | (with_reducible assumption) | decide | (simp only [List.length_cons, List.length_nil]; first | exact szl | omega) | omega)) ?_ | with_reducible refine p_rc (by with_unfolding_all rfl) (by (first | exact True.intro | exact szl | (with_reducible assumption) | decide | (simp only [List.length_cons, List.length_nil]; first | exact szl | omega) | omega)) ?_ | with_reducible refine p_ixS (by first | assumption | exact sup_same) (by with_unfolding_all rfl) ?_ | with_reducible refine p_set (by first | assumption | exact sup_same) (by with_unfolding_all rfl) ?_ | with_reducible refine p_onE (by with_unfolding_all rfl) (by (first | exact True.intro | exact szl | (with_reducible assumption) | decide | (simp only [List.length_cons, List.length_nil]; first | exact szl | omega) | omega)) ?_ | with_reducible refine p_kgetS (by first | with_unfolding_all rfl | with_unfolding_all assumption) ?_ | with_reducible refine p_kinT (by first | with_unfolding_all rfl | with_unfolding_all assumption) ?_ | with_reducible refine p_kinF (by first | with_unfolding_all rfl | with_unfolding_all assumption) ?_ | with_reducible refine p_nkinT (by first | with_unfolding_all rfl | with_unfolding_all assumption) ?_ | with_reducible refine p_nkinF (by first | with_unfolding_all rfl | with_unfolding_all assumption) ?_ | with_reducible refine p_T (by with_unfolding_all rfl) ?_ | with_reducible refine p_F (by with_unfolding_all rfl) ?_ | with_reducible refine And.intro (a := List.length _ ≤ sizeLine) szl ?_ | with_reducible refine And.intro (a := List.length _ = _) (by with_unfolding_all rfl) ?_))
      exact spin_t hns hS hm hm2 ht fun k a' S' h0 h1 h2 h3 => q k a' _ S' h0 h1 h2 (hO.trans h3)
    | cons n r =>
      (repeat' (first | with_reducible refine p_seq ?_ | with_reducible refine p_next ?_ | with_reducible refine p_var (by with_unfolding_all rfl) ?_ | with_reducible refine p_c ?_ | with_reducible refine p_op ?_ | with_reducible refine p_cb ?_ | with_reducible refine p_call ?_ | with_reducible refine p_cons ?_ | with_reducible refine p_nil ?_ | with_reducible refine p_tup ?_ | with_reducible refine p_lst ?_ | with_reducible refine p_b ?_ | with_reducible refine p_qb ?_ | with_reducible refine p_and ?_ | with_reducible refine p_or ?_ | with_reducible refine p_not ?_ | with_reducible refine p_andV ?_ | with_reducible refine p_orV ?_ | with_reducible refine p_notV ?_ | with_reducible refine p_if ?_ | with_reducible refine p_ifS ?_ | with_reducible refine p_un ?_ | with_reducible refine p_neg ?_ | with_reducible refine p_ret ?_ | with_reducible refine p_retN ?_ | with_reducible refine p_drop ?_ | with_reducible refine p_asg' ?_ | with_reducible refine p_par ?_ | with_reducible refine p_setI ?_ | with_reducible refine p_sl ?_ | with_reducible refine p_noPart ?_ | with_reducible refine p_part ?_ | with_reducible refine p_partI ?_ | with_reducible refine p_kin ?_ | with_reducible refine p_kget ?_ | with_reducible refine p_lm ?_ | with_reducible refine p_for ?_ | with_reducible refine p_seqI ?_ | with_reducible refine p_seqL ?_ | with_reducible refine p_seqT ?_ | with_reducible refine p_rng1 ?_ | with_reducible refine p_rng1I (by unfold rng1; decide) ?_ | with_reducible refine p_yes ?_ | with_reducible refine p_callK ?_ | with_reducible refine p_lc ?_ | with_reducible refine p_disp fun _ hp0 => ?_ | with_reducible refine p_get2 ?_ | with_reducible refine p_bindM (by with_unfolding_all rfl) ?_ | with_reducible refine p_mulI (by first | decide | omega) (by first | decide | omega) ?_ | with_reducible refine p_mod (by first | decide | omega | assumption) ?_ | with_reducible refine p_sub ?_ | with_reducible refine p_ix0 ?_ | with_reducible refine p_ix0L ?_ | with_reducible refine p_inT (by first | decide +kernel | exact ⟨rfl, rfl⟩ | (simp [flD]; done)) ?_ | with_reducible refine p_notInT (by first | decide +kernel | exact ⟨rfl, rfl⟩ | (simp [flD]; done)) ?_ | with_reducible refine p_fdiv (by first | assumption | decide) ?_ | with_reducible refine p_pow (by unfold CPow; decide) ?_ | with_reducible refine p_lt ?_ | with_reducible refine p_le ?_ | with_reducible refine p_gt ?_ | with_reducible refine p_ge ?_ | with_reducible refine p_eqI ?_ | with_reducible refine p_neI ?_ | with_reducible refine p_eqL (by first | decide +kernel | assumption) (by first | decide +kernel | assumption) ?_ | with_reducible refine p_neL (by first | decide +kernel | assumption) (by first | decide +kernel | assumption) ?_ | with_reducible refine p_eqT (by first | decide +kernel | assumption) (by first | decide +kernel | assumption) ?_ | with_reducible refine p_neT (by first | decide +kernel | assumption) (by first | decide +kernel | assumption) ?_ | with_reducible refine p_eqS (by first | decide +kernel | assumption) (by first | decide +kernel | assumption) ?_ | with_reducible refine p_neS (by first | decide +kernel | assumption) (by first | decide +kernel | assumption) ?_ | with_reducible refine p_isi (by with_unfolding_all rfl) (by decide) ?_ | with_reducible refine p_lmO (by first | assumption | exact sup_same) ?_ | with_reducible refine p_lmE (by first | assumption | exact sup_same) (by with_unfolding_all rfl) (by (first | exact True.intro | exact szl | (with_reducible assumption) | decide | (simp only [List.length_cons, List.length_nil]; first | exact szl | omega) | omega)) ?_ | with_reducible refine p_freeze (by with_unfolding_all rfl) (by first | assumption | exact sup_same) ?_ | with_reducible refine p_dispE (by assumption) (by with_unfolding_all rfl) ?_ | with_reducible refine p_getI (by with_unfolding_all rfl) ?_ | with_reducible refine p_getS (by with_unfolding_all rfl) (by with_unfolding_all rfl) (by first | with_unfolding_all rfl | with_unfolding_all assumption) ?_ | with_reducible refine p_getN (by with_unfolding_all rfl) (by with_unfolding_all rfl) (by first | with_unfolding_all rfl | with_unfolding_all assumption) ?_ | with_reducible refine p_r (by with_unfolding_all rfl) (by (first | exact True.intro | exact szl | (with_reducible assumption) | decide | (simp only [List.length_cons, List.length_nil]; first | exact szl | omega) | omega)) ?_ | with_reducible refine p_rc (by with_unfolding_all rfl) (by (first | exact True.intro | exact szl | (with_reducible assumption) | decide | (simp only [List.length_cons, List.length_nil]; first | exact szl | omega) | omega)) ?_ | with_reducible refine p_ixS (by first | assumption | exact sup_same) (by with_unfolding_all rfl) ?_ | with_reducible refine p_set (by first | assumption | exact sup_same) (by with_unfolding_all rfl) ?_ | with_reducible refine p_onE (by with_unfolding_all rfl) (by (first | exact True.intro | exact szl | (with_reducible assumption) | decide | (simp only [List.length_cons, List.length_nil]; first | exact szl | omega) | omega)) ?_ | with_reducible refine p_kgetS (by first | with_unfolding_all rfl | with_unfolding_all assumption) ?_ | with_reducible refine p_kinT (by first | with_unfolding_all rfl | with_unfolding_all assumption) ?_ | with_reducible refine p_kinF (by first | with_unfolding_all rfl | with_unfolding_all assumption) ?_ | with_reducible refine p_nkinT (by first | with_unfolding_all rfl | with_unfolding_all assumption) ?_ | with_reducible refine p_nkinF (by first | with_unfolding_all rfl | with_unfolding_all assumption) ?_ | with_reducible refine p_T (by with_unfolding_all rfl) ?_ | with_reducible refine p_F (by with_unfolding_all rfl) ?_ | with_reducible refine And.intro (a := List.length _ ≤ sizeLine) szl ?_ | with_reducible refine And.intro (a := List.length _ = _) (by with_unfolding_all rfl) ?_))
      have hn : ((n :: r).map D.int).length = (n :: r).length := by simp
      have h0 : 0 ≤ c.fmod ((n :: r).map D.int).length := fmod_lo (by simp)
      have h1 : c.fmod ((n :: r).map D.int).length < (n :: r).length := by
        have := fmod_hi (a := c) (m := ((n :: r).map D.int).length) (by simp)
        rw [hn] at this ⊢
        exact this
      obtain ⟨z, hz⟩ := atI_map h0 h1
      refine p_mod (by rw [hn, List.length_cons]; omega) ?_
      refine p_ixQ rfl hz ?_
      (repeat' (first | with_reducible refine p_seq ?_ | with_reducible refine p_next ?_ | with_reducible refine p_var (by with_unfolding_all rfl) ?_ | with_reducible refine p_c ?_ | with_reducible refine p_op ?_ | with_reducible refine p_cb ?_ | with_reducible refine p_call ?_ | with_reducible refine p_cons ?_ | with_reducible refine p_nil ?_ | with_reducible refine p_tup ?_ | with_reducible refine p_lst ?_ | with_reducible refine p_b ?_ | with_reducible refine p_qb ?_ | with_reducible refine p_and ?_ | with_reducible refine p_or ?_ | with_reducible refine p_not ?_ | with_reducible refine p_andV ?_ | with_reducible refine p_orV ?_ | with_reducible refine p_notV ?_ | with_reducible refine p_if ?_ | with_reducible refine p_ifS ?_ | with_reducible refine p_un ?_ | with_reducible refine p_neg ?_ | with_reducible refine p_ret ?_ | with_reducible refine p_retN ?_ | with_reducible refine p_drop ?_ | with_reducible refine p_asg' ?_ | with_reducible refine p_par ?_ | with_reducible refine p_setI ?_ | with_reducible refine p_sl ?_ | with_reducible refine p_noPart ?_ | with_reducible refine p_part ?_ | with_reducible refine p_partI ?_ | with_reducible refine p_kin ?_ | with_reducible refine p_kget ?_ | with_reducible refine p_lm ?_ | with_reducible refine p_for ?_ | with_reducible refine p_seqI ?_ | with_reducible refine p_seqL ?_ | with_reducible refine p_seqT ?_ | with_reducible refine p_rng1 ?_ | with_reducible refine p_rng1I (by unfold rng1; decide) ?_ | with_reducible refine p_yes ?_ | with_reducible refine p_callK ?_ | with_reducible refine p_lc ?_ | with_reducible refine p_disp fun _ hp0 => ?_ | with_reducible refine p_get2 ?_ | with_reducible refine p_bindM (by with_unfolding_all rfl) ?_ | with_reducible refine p_mulI (by first | decide | omega) (by first | decide | omega) ?_ | with_reducible refine p_mod (by first | decide | omega | assumption) ?_ | with_reducible refine p_sub ?_ | with_reducible refine p_ix0 ?_ | with_reducible refine p_ix0L ?_ | with_reducible refine p_inT (by first | decide +kernel | exact ⟨rfl, rfl⟩ | (simp [flD]; done)) ?_ | with_reducible refine p_notInT (by first | decide +kernel | exact ⟨rfl, rfl⟩ | (simp [flD]; done)) ?_ | with_reducible refine p_fdiv (by first | assumption | decide) ?_ | with_reducible refine p_pow (by unfold CPow; decide) ?_ | with_reducible refine p_lt ?_ | with_reducible refine p_le ?_ | with_reducible refine p_gt ?_ | with_reducible refine p_ge ?_ | with_reducible refine p_eqI ?_ | with_reducible refine p_neI ?_ | with_reducible refine p_eqL (by first | decide +kernel | assumption) (by first | decide +kernel | assumption) ?_ | with_reducible refine p_neL (by first | decide +kernel | assumption) (by first | decide +kernel | assumption) ?_ | with_reducible refine p_eqT (by first | decide +kernel | assumption) (by first | decide +kernel | assumption) ?_ | with_reducible refine p_neT (by first | decide +kernel | assumption) (by first | decide +kernel | assumption) ?_ | with_reducible refine p_eqS (by first | decide +kernel | assumption) (by first | decide +kernel | assumption) ?_ | with_reducible refine p_neS (by first | decide +kernel | assumption) (by first | decide +kernel | assumption) ?_ | with_reducible refine p_isi (by with_unfolding_all rfl) (by decide) ?_ | with_reducible refine p_lmO (by first | assumption | exact sup_same) ?_ | with_reducible refine p_lmE (by first | assumption | exact sup_same) (by with_unfolding_all rfl) (by (first | exact True.intro | exact szl | (with_reducible assumption) | decide | (simp only [List.length_cons, List.length_nil]; first | exact szl | omega) | omega)) ?_ | with_reducible refine p_freeze (by with_unfolding_all rfl) (by first | assumption | exact sup_same) ?_ | with_reducible refine p_dispE (by assumption) (by with_unfolding_all rfl) ?_ | with_reducible refine p_getI (by with_unfolding_all rfl) ?_ | with_reducible refine p_getS (by with_unfolding_all rfl) (by with_unfolding_all rfl) (by first | with_unfolding_all rfl | with_unfolding_all assumption) ?_ | with_reducible refine p_getN (by with_unfolding_all rfl) (by with_unfolding_all rfl) (by first | with_unfolding_all rfl | with_unfolding_all assumption) ?_ | with_reducible refine p_r (by with_unfolding_all rfl) (by (first | exact True.intro | exact szl | (with_reducible assumption) | decide | (simp only [List.length_cons, List.length_nil]; first | exact szl | omega) | omega)) ?_ | with_reducible refine p_rc (by with_unfolding_all rfl) (by (first | exact True.intro | exact szl | (with_reducible assumption) | decide | (simp only [List.length_cons, List.length_nil]; first | exact szl | omega) | omega)) ?_ | with_reducible refine p_ixS (by first | assumption | exact sup_same) (by with_unfolding_all rfl) ?_ | with_reducible refine p_set (by first | assumption | exact sup_same) (by with_unfolding_all rfl) ?_ | with_reducible refine p_onE (by with_unfolding_all rfl) (by (first | exact True.intro | exact szl | (with_reducible assumption) | decide | (simp only [List.length_cons, List.length_nil]; first | exact szl | omega) | omega)) ?_ | with_reducible refine p_kgetS (by first | with_unfolding_all rfl | with_unfolding_all assumption) ?_ | with_reducible refine p_kinT (by first | with_unfolding_all rfl | with_unfolding_all assumption) ?_ | with_reducible refine p_kinF (by first | with_unfolding_all rfl | with_unfolding_all assumption) ?_ | with_reducible refine p_nkinT (by first | with_unfolding_all rfl | with_unfolding_all assumption) ?_ | with_reducible refine p_nkinF (by first | with_unfolding_all rfl | with_unfolding_all assumption) ?_ | with_reducible refine p_T (by with_unfolding_all rfl) ?_ | with_reducible refine p_F (by with_unfolding_all rfl) ?_ | with_reducible refine And.intro (a := List.length _ ≤ sizeLine) szl ?_ | with_reducible refine And.intro (a := List.length _ = _) (by with_unfolding_all rfl) ?_))
      exact spin_t hns hS hm hm2 ht fun k a' S' h0 h1 h2 h3 => q k a' _ S' h0 h1 h2 (hO.trans h3)
abbrev spinN : List Str := ["_law_yarn_here", "_law_many", "_law_turn", "_law_found", "_law_at", "_law_figure", "_law_mixed"]
theorem spin_y {ns : List Int} {y : Addr} {m : Int} {B : Nat} {S0 S : Sto} {Q : QD} (hns : ns.length ≤ 63) (h : Yn ns y B S) (o : Only y S0 S) (hm : 0 < m ∧ m < 1073741824) (hB : B ≤ 1000000000)
    (q : ∀ k S', 0 ≤ k → k < m → Yn ns y (B + 1) S' → Only y S0 S' → Q (.int k) S') : mkSp 2 spinN spinR [.ref y, .int m] S Q := by
  obtain ⟨a, c, t, h1, h2⟩ := h
  refine mkSp_of rfl (spin_p hns h1 hm.1 hm.2 (Nat.le_trans h2 hB) fun k a' c' S' k0 k1 hS hO => q k S' k0 k1 ⟨a', c', t + 1, hS, by omega⟩ (o.trans hO))
def yarnR : TSD := (tdRet (tdLstR (tdCons (tdSl (tdVar 0) tdNoPart (tdPart (tdC (.int 63)))) (tdCons (tdC (.int 0)) (tdCons (tdC (.int 0)) (tdCons (tdC (.int 0)) tdNil))))))
abbrev yarnN : List Str := ["_law_script"]
theorem yarn_y {ns : List Int} {S : Sto} {Q : QD} (hns : ns.length ≤ 63) (q : ∀ y S', S y = none → Yn ns y 0 S' → Only y S S' → Q (.ref y) S') : mkSp 1 yarnN yarnR [.scr (ns.map D.int)] S Q := by
  refine mkSp_of rfl ?_
  show yarnR ⟨_, _, _, _⟩ [some (.scr (ns.map D.int))] S
  unfold yarnR
  (repeat' (first | with_reducible refine p_seq ?_ | with_reducible refine p_next ?_ | with_reducible refine p_var (by with_unfolding_all rfl) ?_ | with_reducible refine p_c ?_ | with_reducible refine p_op ?_ | with_reducible refine p_cb ?_ | with_reducible refine p_call ?_ | with_reducible refine p_cons ?_ | with_reducible refine p_nil ?_ | with_reducible refine p_tup ?_ | with_reducible refine p_lst ?_ | with_reducible refine p_b ?_ | with_reducible refine p_qb ?_ | with_reducible refine p_and ?_ | with_reducible refine p_or ?_ | with_reducible refine p_not ?_ | with_reducible refine p_andV ?_ | with_reducible refine p_orV ?_ | with_reducible refine p_notV ?_ | with_reducible refine p_if ?_ | with_reducible refine p_ifS ?_ | with_reducible refine p_un ?_ | with_reducible refine p_neg ?_ | with_reducible refine p_ret ?_ | with_reducible refine p_retN ?_ | with_reducible refine p_drop ?_ | with_reducible refine p_asg' ?_ | with_reducible refine p_par ?_ | with_reducible refine p_setI ?_ | with_reducible refine p_sl ?_ | with_reducible refine p_noPart ?_ | with_reducible refine p_part ?_ | with_reducible refine p_partI ?_ | with_reducible refine p_kin ?_ | with_reducible refine p_kget ?_ | with_reducible refine p_lm ?_ | with_reducible refine p_for ?_ | with_reducible refine p_seqI ?_ | with_reducible refine p_seqL ?_ | with_reducible refine p_seqT ?_ | with_reducible refine p_rng1 ?_ | with_reducible refine p_rng1I (by unfold rng1; decide) ?_ | with_reducible refine p_yes ?_ | with_reducible refine p_callK ?_ | with_reducible refine p_lc ?_ | with_reducible refine p_disp fun _ hp0 => ?_ | with_reducible refine p_get2 ?_ | with_reducible refine p_bindM (by with_unfolding_all rfl) ?_ | with_reducible refine p_mulI (by first | decide | omega) (by first | decide | omega) ?_ | with_reducible refine p_mod (by first | decide | omega | assumption) ?_ | with_reducible refine p_sub ?_ | with_reducible refine p_ix0 ?_ | with_reducible refine p_ix0L ?_ | with_reducible refine p_inT (by first | decide +kernel | exact ⟨rfl, rfl⟩ | (simp [flD]; done)) ?_ | with_reducible refine p_notInT (by first | decide +kernel | exact ⟨rfl, rfl⟩ | (simp [flD]; done)) ?_ | with_reducible refine p_fdiv (by first | assumption | decide) ?_ | with_reducible refine p_pow (by unfold CPow; decide) ?_ | with_reducible refine p_lt ?_ | with_reducible refine p_le ?_ | with_reducible refine p_gt ?_ | with_reducible refine p_ge ?_ | with_reducible refine p_eqI ?_ | with_reducible refine p_neI ?_ | with_reducible refine p_eqL (by first | decide +kernel | assumption) (by first | decide +kernel | assumption) ?_ | with_reducible refine p_neL (by first | decide +kernel | assumption) (by first | decide +kernel | assumption) ?_ | with_reducible refine p_eqT (by first | decide +kernel | assumption) (by first | decide +kernel | assumption) ?_ | with_reducible refine p_neT (by first | decide +kernel | assumption) (by first | decide +kernel | assumption) ?_ | with_reducible refine p_eqS (by first | decide +kernel | assumption) (by first | decide +kernel | assumption) ?_ | with_reducible refine p_neS (by first | decide +kernel | assumption) (by first | decide +kernel | assumption) ?_ | with_reducible refine p_isi (by with_unfolding_all rfl) (by decide) ?_ | with_reducible refine p_lmO (by first | assumption | exact sup_same) ?_ | with_reducible refine p_lmE (by first | assumption | exact sup_same) (by with_unfolding_all rfl) (by (first | exact True.intro | exact szl | (with_reducible assumption) | decide | (simp only [List.length_cons, List.length_nil]; first | exact szl | omega) | omega)) ?_ | with_reducible refine p_freeze (by with_unfolding_all rfl) (by first | assumption | exact sup_same) ?_ | with_reducible refine p_dispE (by assumption) (by with_unfolding_all rfl) ?_ | with_reducible refine p_getI (by with_unfolding_all rfl) ?_ | with_reducible refine p_getS (by with_unfolding_all rfl) (by with_unfolding_all rfl) (by first | with_unfolding_all rfl | with_unfolding_all assumption) ?_ | with_reducible refine p_getN (by with_unfolding_all rfl) (by with_unfolding_all rfl) (by first | with_unfolding_all rfl | with_unfolding_all assumption) ?_ | with_reducible refine p_r (by with_unfolding_all rfl) (by (first | exact True.intro | exact szl | (with_reducible assumption) | decide | (simp only [List.length_cons, List.length_nil]; first | exact szl | omega) | omega)) ?_ | with_reducible refine p_rc (by with_unfolding_all rfl) (by (first | exact True.intro | exact szl | (with_reducible assumption) | decide | (simp only [List.length_cons, List.length_nil]; first | exact szl | omega) | omega)) ?_ | with_reducible refine p_ixS (by first | assumption | exact sup_same) (by with_unfolding_all rfl) ?_ | with_reducible refine p_set (by first | assumption | exact sup_same) (by with_unfolding_all rfl) ?_ | with_reducible refine p_onE (by with_unfolding_all rfl) (by (first | exact True.intro | exact szl | (with_reducible assumption) | decide | (simp only [List.length_cons, List.length_nil]; first | exact szl | omega) | omega)) ?_ | with_reducible refine p_kgetS (by first | with_unfolding_all rfl | with_unfolding_all assumption) ?_ | with_reducible refine p_kinT (by first | with_unfolding_all rfl | with_unfolding_all assumption) ?_ | with_reducible refine p_kinF (by first | with_unfolding_all rfl | with_unfolding_all assumption) ?_ | with_reducible refine p_nkinT (by first | with_unfolding_all rfl | with_unfolding_all assumption) ?_ | with_reducible refine p_nkinF (by first | with_unfolding_all rfl | with_unfolding_all assumption) ?_ | with_reducible refine p_T (by with_unfolding_all rfl) ?_ | with_reducible refine p_F (by with_unfolding_all rfl) ?_ | with_reducible refine And.intro (a := List.length _ ≤ sizeLine) szl ?_ | with_reducible refine And.intro (a := List.length _ = _) (by with_unfolding_all rfl) ?_))
  refine p_lstR ?_
  (repeat' (first | with_reducible refine p_seq ?_ | with_reducible refine p_next ?_ | with_reducible refine p_var (by with_unfolding_all rfl) ?_ | with_reducible refine p_c ?_ | with_reducible refine p_op ?_ | with_reducible refine p_cb ?_ | with_reducible refine p_call ?_ | with_reducible refine p_cons ?_ | with_reducible refine p_nil ?_ | with_reducible refine p_tup ?_ | with_reducible refine p_lst ?_ | with_reducible refine p_b ?_ | with_reducible refine p_qb ?_ | with_reducible refine p_and ?_ | with_reducible refine p_or ?_ | with_reducible refine p_not ?_ | with_reducible refine p_andV ?_ | with_reducible refine p_orV ?_ | with_reducible refine p_notV ?_ | with_reducible refine p_if ?_ | with_reducible refine p_ifS ?_ | with_reducible refine p_un ?_ | with_reducible refine p_neg ?_ | with_reducible refine p_ret ?_ | with_reducible refine p_retN ?_ | with_reducible refine p_drop ?_ | with_reducible refine p_asg' ?_ | with_reducible refine p_par ?_ | with_reducible refine p_setI ?_ | with_reducible refine p_sl ?_ | with_reducible refine p_noPart ?_ | with_reducible refine p_part ?_ | with_reducible refine p_partI ?_ | with_reducible refine p_kin ?_ | with_reducible refine p_kget ?_ | with_reducible refine p_lm ?_ | with_reducible refine p_for ?_ | with_reducible refine p_seqI ?_ | with_reducible refine p_seqL ?_ | with_reducible refine p_seqT ?_ | with_reducible refine p_rng1 ?_ | with_reducible refine p_rng1I (by unfold rng1; decide) ?_ | with_reducible refine p_yes ?_ | with_reducible refine p_callK ?_ | with_reducible refine p_lc ?_ | with_reducible refine p_disp fun _ hp0 => ?_ | with_reducible refine p_get2 ?_ | with_reducible refine p_bindM (by with_unfolding_all rfl) ?_ | with_reducible refine p_mulI (by first | decide | omega) (by first | decide | omega) ?_ | with_reducible refine p_mod (by first | decide | omega | assumption) ?_ | with_reducible refine p_sub ?_ | with_reducible refine p_ix0 ?_ | with_reducible refine p_ix0L ?_ | with_reducible refine p_inT (by first | decide +kernel | exact ⟨rfl, rfl⟩ | (simp [flD]; done)) ?_ | with_reducible refine p_notInT (by first | decide +kernel | exact ⟨rfl, rfl⟩ | (simp [flD]; done)) ?_ | with_reducible refine p_fdiv (by first | assumption | decide) ?_ | with_reducible refine p_pow (by unfold CPow; decide) ?_ | with_reducible refine p_lt ?_ | with_reducible refine p_le ?_ | with_reducible refine p_gt ?_ | with_reducible refine p_ge ?_ | with_reducible refine p_eqI ?_ | with_reducible refine p_neI ?_ | with_reducible refine p_eqL (by first | decide +kernel | assumption) (by first | decide +kernel | assumption) ?_ | with_reducible refine p_neL (by first | decide +kernel | assumption) (by first | decide +kernel | assumption) ?_ | with_reducible refine p_eqT (by first | decide +kernel | assumption) (by first | decide +kernel | assumption) ?_ | with_reducible refine p_neT (by first | decide +kernel | assumption) (by first | decide +kernel | assumption) ?_ | with_reducible refine p_eqS (by first | decide +kernel | assumption) (by first | decide +kernel | assumption) ?_ | with_reducible refine p_neS (by first | decide +kernel | assumption) (by first | decide +kernel | assumption) ?_ | with_reducible refine p_isi (by with_unfolding_all rfl) (by decide) ?_ | with_reducible refine p_lmO (by first | assumption | exact sup_same) ?_ | with_reducible refine p_lmE (by first | assumption | exact sup_same) (by with_unfolding_all rfl) (by (first | exact True.intro | exact szl | (with_reducible assumption) | decide | (simp only [List.length_cons, List.length_nil]; first | exact szl | omega) | omega)) ?_ | with_reducible refine p_freeze (by with_unfolding_all rfl) (by first | assumption | exact sup_same) ?_ | with_reducible refine p_dispE (by assumption) (by with_unfolding_all rfl) ?_ | with_reducible refine p_getI (by with_unfolding_all rfl) ?_ | with_reducible refine p_getS (by with_unfolding_all rfl) (by with_unfolding_all rfl) (by first | with_unfolding_all rfl | with_unfolding_all assumption) ?_ | with_reducible refine p_getN (by with_unfolding_all rfl) (by with_unfolding_all rfl) (by first | with_unfolding_all rfl | with_unfolding_all assumption) ?_ | with_reducible refine p_r (by with_unfolding_all rfl) (by (first | exact True.intro | exact szl | (with_reducible assumption) | decide | (simp only [List.length_cons, List.length_nil]; first | exact szl | omega) | omega)) ?_ | with_reducible refine p_rc (by with_unfolding_all rfl) (by (first | exact True.intro | exact szl | (with_reducible assumption) | decide | (simp only [List.length_cons, List.length_nil]; first | exact szl | omega) | omega)) ?_ | with_reducible refine p_ixS (by first | assumption | exact sup_same) (by with_unfolding_all rfl) ?_ | with_reducible refine p_set (by first | assumption | exact sup_same) (by with_unfolding_all rfl) ?_ | with_reducible refine p_onE (by with_unfolding_all rfl) (by (first | exact True.intro | exact szl | (with_reducible assumption) | decide | (simp only [List.length_cons, List.length_nil]; first | exact szl | omega) | omega)) ?_ | with_reducible refine p_kgetS (by first | with_unfolding_all rfl | with_unfolding_all assumption) ?_ | with_reducible refine p_kinT (by first | with_unfolding_all rfl | with_unfolding_all assumption) ?_ | with_reducible refine p_kinF (by first | with_unfolding_all rfl | with_unfolding_all assumption) ?_ | with_reducible refine p_nkinT (by first | with_unfolding_all rfl | with_unfolding_all assumption) ?_ | with_reducible refine p_nkinF (by first | with_unfolding_all rfl | with_unfolding_all assumption) ?_ | with_reducible refine p_T (by with_unfolding_all rfl) ?_ | with_reducible refine p_F (by with_unfolding_all rfl) ?_ | with_reducible refine And.intro (a := List.length _ ≤ sizeLine) szl ?_ | with_reducible refine And.intro (a := List.length _ = _) (by with_unfolding_all rfl) ?_))
  have e : cutD (ns.map D.int) none (some 63) = ns.map D.int := by
    refine cut_whole ⟨rfl, ?_⟩
    show HT.sIx _ _ (some ((63 : Nat) : Int)) = _
    rw [HT.sIx_nat, List.length_map]
    omega
  rw [e]
  exact fun y hy => q y _ hy ⟨0, 0, 0, sup_same, Nat.le_refl _⟩ only_sup
end PL

namespace PL
open PySem PySem.Spec PyProof.Rows L2

/-! ### what repr shows is a text of signs -/
def Sg (x : Str) : Prop := ∀ c ∈ x.cps.toList, c < 0x110000
theorem Sg.ok {x : Str} (h : Sg x) : PyData.strOk x = true := by
  unfold PyData.strOk
  rw [← Array.all_toList, List.all_eq_true]
  exact fun c hc => decide_eq_true (h c hc)
theorem Sg.of {x : Str} (h : PyData.strOk x = true) : Sg x := by
  unfold PyData.strOk at h
  rw [← Array.all_toList, List.all_eq_true] at h
  exact fun c hc => of_decide_eq_true (h c hc)
theorem Sg.app {x y : Str} (h : Sg x) (g : Sg y) : Sg (x ++ y) := fun c hc => (mem_cps_append.mp hc).elim (h c) (g c)
theorem char_lt (c : Char) : c.toNat < 0x110000 := by
  have := c.valid
  unfold Char.toNat UInt32.isValidChar Nat.isValidChar at *
  omega
theorem reprChar_sg {q c : Nat} (hc : c < 0x110000) : ∀ z ∈ Builtin.Str.reprChar q c, z < 0x110000 := by
  have hx (w : Nat) : ∀ z ∈ List.replicate (w - ((Nat.toDigits 16 c).map Char.toNat).length) 48 ++ (Nat.toDigits 16 c).map Char.toNat, z < 0x110000 := by
    intro z hz
    rcases List.mem_append.mp hz with h | h
    · have := (List.mem_replicate.mp h).2; omega
    · obtain ⟨ch, _, rfl⟩ := List.mem_map.mp h
      exact char_lt ch
  intro z hz
  unfold Builtin.Str.reprChar at hz
  dsimp only at hz
  repeat' split at hz
  all_goals first
    | (simp only [List.mem_cons, List.not_mem_nil, or_false] at hz; omega)
    | (rcases List.mem_append.mp hz with h | h
       · simp only [List.mem_cons, List.not_mem_nil, or_false] at h; omega
       · exact hx _ z h)
theorem foldl_sg {q : Nat} : ∀ (l : List Nat) (acc : Array Nat), (∀ c ∈ l, c < 0x110000) → (∀ c ∈ acc.toList, c < 0x110000) → ∀ c ∈ (l.foldl (fun out c => out ++ (Builtin.Str.reprChar q c).toArray) acc).toList, c < 0x110000
  | [], acc, _, h => h
  | c :: r, acc, hl, h => by
    rw [List.foldl_cons]
    refine foldl_sg r _ (fun d hd => hl d (List.mem_cons_of_mem _ hd)) fun z hz => ?_
    rw [Array.toList_append] at hz
    rcases List.mem_append.mp hz with hz | hz
    · exact h z hz
    · exact reprChar_sg (hl c (by simp)) z hz
theorem reprText_sg {x : Str} (h : Sg x) : Sg (reprText x) := by
  unfold Sg reprText
  have hq : reprQuote x < 0x110000 := by unfold reprQuote; split <;> decide
  show ∀ c ∈ ((x.cps.foldl (fun out c => out ++ (Builtin.Str.reprChar (reprQuote x) c).toArray) #[reprQuote x]).push (reprQuote x)).toList, c < 0x110000
  rw [Array.toList_push, ← Array.foldl_toList]
  intro c hc
  rcases List.mem_append.mp hc with hc | hc
  · exact foldl_sg _ _ h (fun c hc => by simp at hc; omega) c hc
  · simp at hc; omega
theorem join_sg {s : Str} (hs : Sg s) : ∀ ts : List Str, (∀ t ∈ ts, Sg t) → Sg (Str.join s ts)
  | [], _ => fun c hc => by
    have : (Str.join s []).cps.toList = [] := rfl
    rw [this] at hc; cases hc
  | [x], h => h x (by simp)
  | x :: y :: r, h => ((h x (by simp)).app hs).app (join_sg hs (y :: r) fun t ht => h t (List.mem_cons_of_mem _ ht))
theorem sgs {x : Str} (h : PyData.strOk x = true := by decide +kernel) : Sg x := .of h
mutual
theorem shown_sg : ∀ d : PyData, d.canLay0 = true → Sg d.shown
  | .none, _ => by unfold PyData.shown; exact sgs
  | .bool b, _ => by unfold PyData.shown; cases b <;> exact sgs
  | .int i, _ => by
    unfold PyData.shown
    intro c hc
    have hc : c ∈ (Str.ofString (toString i)).cps.toList := hc
    rw [Str.ofString_eq_toList] at hc
    obtain ⟨ch, _, rfl⟩ := List.mem_map.mp hc
    exact char_lt ch
  | .str x, h => by
    unfold PyData.shown
    exact reprText_sg (.of (by simpa [PyData.canLay0] using h))
  | .list xs, h => by
    unfold PyData.shown
    rw [listText_eq_join]
    exact (Sg.app sgs (join_sg sgs _ (shownAll_sg xs (by simpa [PyData.canLay0] using h)))).app sgs
  | .tuple xs, h => by
    unfold PyData.shown tupleText
    refine (Sg.app sgs (join_sg sgs _ (shownAll_sg xs (by simpa [PyData.canLay0] using h)))).app ?_
    split <;> exact sgs
  | .dict _, h => by simp [PyData.canLay0] at h
theorem shownAll_sg : ∀ xs : List PyData, PyData.canLayAll0 xs = true → ∀ t ∈ PyData.shownAll xs, Sg t
  | [], _, t, ht => by unfold PyData.shownAll at ht; cases ht
  | x :: xs, h, t, ht => by
    have h' : x.canLay0 = true ∧ PyData.canLayAll0 xs = true := by simpa [PyData.canLayAll0] using h
    unfold PyData.shownAll at ht
    rcases List.mem_cons.mp ht with rfl | ht
    · exact shown_sg x h'.1
    · exact shownAll_sg xs h'.2 t ht
end
theorem Okd.shok {d : D} {k w : Nat} (h : Okd d k w) : okD (.str (PyData.shown (pyd d))) = true := by
  have := (shown_sg _ h.lay).ok
  unfold okD SeqAt.shaped isDt pyd PyData.canLay0 PyData.depth
  rw [this]; rfl
theorem getL_ref {a : Addr} {S S' : Sto} (h : S' a = S a) : getL S' (.ref a) = getL S (.ref a) := by
  simp only [getL, h]
theorem getL_only {y : Addr} {S S' : Sto} {L : D} (h : Only y S S') (n : L ≠ .ref y) : getL S' L = getL S L := by
  cases L <;> try rfl
  rename_i a
  exact getL_ref (h a fun e => n (by rw [e]))
theorem getL_sup {q : Addr} {S : Sto} {xs : List D} : getL (sup S q (.lst xs)) (.ref q) = some xs := by
  simp only [getL, sup_same]
end PL

namespace PL
open PySem PySem.Spec PyProof.Rows L2
section
variable {X : Cx}
/-! ### min and max of two -/
def two (g : Int → Int → Int) : Sto → List D → PR := fun S ds => match ds with
  | [.int i, .int j] => some (True, .int (g i j))
  | _ => none
abbrev minD := two fun i j => if j < i then j else i
abbrev maxD := two fun i j => if j > i then j else i
theorem dcal_two {f : Value} {g : Int → Int → Int} (h : CallR X f (fun xs H Q => ∃ i j, xs = [.int i, .int j] ∧ Q (.int (g i j)) H)) : DCal X f (rdC (two g)) := dcal_P fun pins s σ H vs us Q S ds c d I rv hs r e hC q => by
  unfold two at e
  split at e
  · cases e
    obtain ⟨v, w, rfl, r1, r2⟩ := r.two_inv
    cases r1; cases r2
    exact h pins s σ H _ us Q I rv ⟨_, _, rfl, q _ _ (.int _) hs Ext.refl⟩
  · cases e
theorem dcal_min (hc : X.calm = true) : DCal X (.builtin "min") (rdC minD) := dcal_two (call_min2 hc)
theorem dcal_max (hc : X.calm = true) : DCal X (.builtin "max") (rdC maxD) := dcal_two (call_max2 hc)
theorem p_min {i j : Int} {S : Sto} {Q : QD} (q : Q (.int (if j < i then j else i)) S) : rdC minD [.int i, .int j] S Q := p_rc (cc := True) (d := .int (if j < i then j else i)) rfl trivial q
theorem p_max {i j : Int} {S : Sto} {Q : QD} (q : Q (.int (if j > i then j else i)) S) : rdC maxD [.int i, .int j] S Q := p_rc (cc := True) (d := .int (if j > i then j else i)) rfl trivial q
theorem p_chain {rd rd' : D → D → Sto → QD → Prop} {ta tb tc : TED} {env : Env'} {S : Sto} {Q : QD} (q : ta env S fun x S1 => tb env S1 fun y S2 => rd x y S2 (qb fun k S3 => if k = true then tc env S3 fun z S4 => rd' y z S4 Q else Q (.bl false) S3)) : tdChain rd rd' ta tb tc env S Q := q
end
end PL

namespace LSh
open PySem PySem.Spec PyProof.Rows L2 PL
abbrev N__law_yarn : List Str := ["_law_script"]
def r__law_yarn : TSD := (tdRet (tdLstR (tdCons (tdSl (tdVar 0) tdNoPart (tdPart (tdC (.int 63)))) (tdCons (tdC (.int 0)) (tdCons (tdC (.int 0)) (tdCons (tdC (.int 0)) tdNil))))))
def d__law_yarn : SpD := mkSp 1 N__law_yarn r__law_yarn
abbrev N__law_spin : List Str := ["_law_yarn_here", "_law_many", "_law_turn", "_law_found", "_law_at", "_law_figure", "_law_mixed"]
def r__law_spin : TSD := (tdSeq (tdAsg (tdOp (rdP ixD) (tdVar 0) (tdC (.int 2))) (.nm 2)) (tdSeq (tdSetI (tdOp (rdP addD) (tdVar 2) (tdC (.int 1))) (tdVar 0) (tdC (.int 2))) (tdSeq (tdIfS (tdB (tdOp (rdP gtD) (tdOp (rdP ixD) (tdVar 0) (tdC (.int 1))) (tdC (.int 0)))) (tdSeq (tdAsg (tdOp (rdP modD) (tdOp (rdP ixD) (tdVar 0) (tdC (.int 1))) (tdVar 1)) (.nm 3)) (tdSeq (tdSetI (tdOp (rdP fdivD) (tdOp (rdP ixD) (tdVar 0) (tdC (.int 1))) (tdVar 1)) (tdVar 0) (tdC (.int 1))) (tdRet (tdVar 3)))) tdNext) (tdSeq (tdAsg (tdOp (rdP ixD) (tdVar 0) (tdC (.int 3))) (.nm 4)) (tdSeq (tdSetI (tdOp (rdP addD) (tdVar 4) (tdC (.int 1))) (tdVar 0) (tdC (.int 3))) (tdSeq (tdAsg (tdIf (tdB (tdOp (rdP (eqR true)) (tdOp (rdP ixD) (tdVar 0) (tdC (.int 0))) (tdLst tdNil))) (tdOp (rdP ixD) (tdOp (rdP ixD) (tdVar 0) (tdC (.int 0))) (tdOp (rdP modD) (tdVar 4) (tdCB (rdC lenD) (tdCons (tdOp (rdP ixD) (tdVar 0) (tdC (.int 0))) tdNil)))) (tdC (.int 12))) (.nm 5)) (tdSeq (tdIfS (tdAnd (tdB (tdOp (rdP geD) (tdVar 5) (tdOp (rdP powD) (tdC (.int 10)) (tdC (.int 18))))) (tdB (tdOp (rdP ltD) (tdVar 4) (tdCB (rdC lenD) (tdCons (tdOp (rdP ixD) (tdVar 0) (tdC (.int 0))) tdNil))))) (tdSeq (tdSetI (tdOp (rdP fdivD) (tdVar 5) (tdVar 1)) (tdVar 0) (tdC (.int 1))) (tdRet (tdOp (rdP modD) (tdVar 5) (tdVar 1)))) tdNext) (tdSeq (tdAsg (tdOp (rdP addD) (tdOp (rdP addD) (tdOp (rdP addD) (tdOp (rdP modD) (tdVar 5) (tdC (.int 2147483587))) (tdOp (rdP mulD) (tdOp (rdP mulD) (tdC (.int 6991)) (tdVar 2)) (tdVar 2))) (tdOp (rdP mulD) (tdC (.int 1013)) (tdVar 2))) (tdC (.int 257))) (.nm 6)) (tdSeq (tdAsg (tdOp (rdP modD) (tdOp (rdP addD) (tdOp (rdP addD) (tdOp (rdP mulD) (tdVar 6) (tdVar 6)) (tdOp (rdP mulD) (tdC (.int 50021)) (tdVar 2))) (tdC (.int 59))) (tdC (.int 2147483563))) (.nm 6)) (tdRet (tdOp (rdP modD) (tdOp (rdP fdivD) (tdOp (rdP modD) (tdOp (rdP addD) (tdOp (rdP mulD) (tdVar 6) (tdVar 6)) (tdOp (rdP mulD) (tdC (.int 23)) (tdVar 6))) (tdC (.int 2147483549))) (tdC (.int 64))) (tdVar 1))))))))))))
def d__law_spin : SpD := mkSp 2 N__law_spin r__law_spin
abbrev N__law_operand : List Str := ["_law_yarn_here"]
def r__law_operand : TSD := (tdRet (tdOp (rdP ixD) (tdLst (tdCons (tdC (.int 0)) (tdCons (tdC (.int 1)) (tdCons (tdC (.int 2)) (tdCons (tdC (.str "a")) (tdCons (tdC (.str "b")) (tdCons (tdC (.str "c")) (tdCons (tdC (.str "ab")) (tdCons (tdUn rdNeg (tdC (.int 1))) tdNil))))))))) (tdCall d__law_spin [] (tdCons (tdVar 0) (tdCons (tdC (.int 8)) tdNil)))))
def d__law_operand : SpD := mkSp 1 N__law_operand r__law_operand
abbrev N__law_row : List Str := ["_law_yarn_here", "_law_size", "_law_many", "_law_way", "_law_names", "_law_mark", "_law_name", "_law_turn", "_law_base", "_law_offset", "_law_unit", "_law_twin", "_law_sign", "_law_guard", "_law_some"]
def r__law_row : TSD := (tdSeq (tdPar [3, 4, 5] (tdCons (tdCall d__law_spin [] (tdCons (tdVar 0) (tdCons (tdC (.int 15)) tdNil))) (tdCons (tdLst (tdCons (tdC (.str "a")) (tdCons (tdC (.str "b")) (tdCons (tdC (.str "c")) (tdCons (tdC (.str "ab")) tdNil))))) (tdCons (tdCall d__law_spin [] (tdCons (tdVar 0) (tdCons (tdC (.int 9)) tdNil))) tdNil)))) (tdSeq (tdPar [6, 7] (tdCons (tdOp (rdP ixD) (tdVar 4) (tdCall d__law_spin [] (tdCons (tdVar 0) (tdCons (tdC (.int 4)) tdNil)))) (tdCons (tdCall d__law_spin [] (tdCons (tdVar 0) (tdCons (tdC (.int 3)) tdNil))) tdNil))) (tdSeq (tdPar [8, 9] (tdCons (tdOp (rdP ixD) (tdLst (tdCons (tdC (.int 0)) (tdCons (tdC (.int 0)) (tdCons (tdC (.str "a")) (tdCons (tdC (.str "b")) tdNil))))) (tdCall d__law_spin [] (tdCons (tdVar 0) (tdCons (tdC (.int 4)) tdNil)))) (tdCons (tdOp (rdP subD) (tdCall d__law_spin [] (tdCons (tdVar 0) (tdCons (tdOp (rdP addD) (tdVar 1) (tdC (.int 1))) tdNil))) (tdCB (rdC intD1) (tdCons (tdOp (rdP (eqR false)) (tdVar 7) (tdC (.int 0))) tdNil))) tdNil))) (tdSeq (tdPar [10, 11] (tdCons (tdCall d__law_operand [] (tdCons (tdVar 0) tdNil)) (tdCons (tdCall d__law_operand [] (tdCons (tdVar 0) tdNil)) tdNil))) (tdSeq (tdIfS (tdB (tdOp (rdP ltD) (tdVar 3) (tdC (.int 4)))) (tdSeq (tdAsg (tdOp (rdP ixD) (tdLst (tdCons (tdC (.str "+")) (tdCons (tdC (.str "-")) (tdCons (tdC (.str "<")) (tdCons (tdC (.str "*")) tdNil))))) (tdCall d__law_spin [] (tdCons (tdVar 0) (tdCons (tdC (.int 4)) tdNil)))) (.nm 12)) (tdRet (tdTup (tdCons (tdC (.str "set")) (tdCons (tdVar 6) (tdCons (tdVar 12) (tdCons (tdVar 10) (tdCons (tdIf (tdB (tdOp (rdP (eqR false)) (tdVar 12) (tdC (.str "*")))) (tdVar 7) (tdVar 11)) tdNil)))))))) tdNext) (tdSeq (tdIfS (tdB (tdOp (rdP ltD) (tdVar 3) (tdC (.int 6)))) (tdRet (tdTup (tdCons (tdC (.str "load")) (tdCons (tdVar 6) (tdCons (tdVar 8) (tdCons (tdVar 9) (tdCons (tdVar 5) tdNil))))))) tdNext) (tdSeq (tdIfS (tdB (tdOp (rdP ltD) (tdVar 3) (tdC (.int 8)))) (tdRet (tdTup (tdCons (tdC (.str "store")) (tdCons (tdVar 8) (tdCons (tdVar 9) (tdCons (tdVar 10) (tdCons (tdVar 5) tdNil))))))) tdNext) (tdSeq (tdIfS (tdB (tdOp (rdP ltD) (tdVar 3) (tdC (.int 10)))) (tdRet (tdIf (tdB (tdOp (rdP (eqR false)) (tdVar 3) (tdC (.int 8)))) (tdTup (tdCons (tdC (.str "div")) (tdCons (tdVar 6) (tdCons (tdVar 10) (tdCons (tdVar 11) (tdCons (tdVar 5) tdNil)))))) (tdTup (tdCons (tdC (.str "out")) (tdCons (tdVar 10) tdNil))))) tdNext) (tdSeq (tdIfS (tdB (tdOp (rdP ltD) (tdVar 3) (tdC (.int 13)))) (tdRet (tdTup (tdCons (tdOp (rdP ixD) (tdLst (tdCons (tdC (.str "leave")) (tdCons (tdC (.str "unless")) (tdCons (tdC (.str "leave")) tdNil)))) (tdOp (rdP subD) (tdVar 3) (tdC (.int 10)))) (tdCons (tdVar 10) (tdCons (tdCall d__law_spin [] (tdCons (tdVar 0) (tdCons (tdVar 2) tdNil))) tdNil))))) tdNext) (tdSeq (tdAsg (tdIf (tdB (tdOp (rdP ltD) (tdVar 7) (tdC (.int 2)))) (tdC (.str "f")) (tdOp (rdP addD) (tdOp (rdP mulS) (tdC (.str "c")) (tdCB (rdC intD1) (tdCons (tdOp (rdP (eqR true)) (tdVar 6) (tdC (.str "c"))) tdNil))) (tdC (.str "d")))) (.nm 13)) (tdSeq (tdAsg (tdLst (tdCons (tdTup (tdCons (tdC (.str "qload")) (tdCons (tdVar 6) (tdCons (tdVar 13) (tdCons (tdVar 8) (tdCons (tdVar 9) tdNil)))))) (tdCons (tdTup (tdCons (tdC (.str "qdiv")) (tdCons (tdVar 6) (tdCons (tdVar 13) (tdCons (tdVar 10) (tdCons (tdVar 11) tdNil)))))) (tdCons (tdTup (tdCons (tdC (.str "check")) (tdCons (tdVar 13) (tdCons (tdVar 5) tdNil)))) tdNil)))) (.nm 14)) (tdRet (tdOp (rdP ixD) (tdVar 14) (tdCall d__law_spin [] (tdCons (tdVar 0) (tdCons (tdC (.int 3)) tdNil))))))))))))))))
def d__law_row : SpD := mkSp 3 N__law_row r__law_row

theorem spin {ns : List Int} {y : Addr} {m : Int} {B : Nat} {S0 S : Sto} {Q : QD} (hns : ns.length ≤ 63) (h : Yn ns y B S) (o : Only y S0 S) (hm : 0 < m ∧ m < 1073741824) (hB : B ≤ 1000000000)
    (q : ∀ k S', 0 ≤ k → k < m → Yn ns y (B + 1) S' → Only y S0 S' → Q (.int k) S') : d__law_spin [.ref y, .int m] S Q := spin_y hns h o hm hB q

abbrev opsD : List D := [.int 0, .int 1, .int 2, .str "a", .str "b", .str "c", .str "ab", .int (-1)]
abbrev namesD : List D := [.str "a", .str "b", .str "c", .str "ab"]
abbrev signsD : List D := [.str "+", .str "-", .str "<", .str "*"]
abbrev bases3 : List D := [.int 0, .int 0, .str "a", .str "b"]
abbrev guardsD : List D := [.str "f", .str "cd", .str "d"]
/-- rows, as plain things -/
inductive RV where
  | set (x s u t : D) | load (x b : D) (o : Int) (m : D) | store (b : D) (o : Int) (u m : D) | div (x u t m : D) | out (u : D)
  | leave (u : D) (k : Int) | unl (u : D) (k : Int) | qload (x g b : D) (o : Int) | qdiv (x g u t : D) | check (g m : D)
def RV.d : RV → D
  | .set x s u t => .tup [.str "set", x, s, u, t]
  | .load x b o m => .tup [.str "load", x, b, .int o, m]
  | .store b o u m => .tup [.str "store", b, .int o, u, m]
  | .div x u t m => .tup [.str "div", x, u, t, m]
  | .out u => .tup [.str "out", u]
  | .leave u k => .tup [.str "leave", u, .int k]
  | .unl u k => .tup [.str "unless", u, .int k]
  | .qload x g b o => .tup [.str "qload", x, g, b, .int o]
  | .qdiv x g u t => .tup [.str "qdiv", x, g, u, t]
  | .check g m => .tup [.str "check", g, m]
def Mk (m : D) : Prop := ∃ k : Int, m = .int k ∧ 0 ≤ k ∧ k < 9
def Offs (z o : Int) : Prop := -1 ≤ o ∧ o ≤ z
/-- what the draws make -/
def GenRow (z n : Int) : RV → Prop
  | .set x s u t => x ∈ namesD ∧ s ∈ signsD ∧ u ∈ opsD ∧ (t ∈ opsD ∨ ∃ k : Int, t = .int k ∧ 0 ≤ k ∧ k < 3)
  | .load x b o m => x ∈ namesD ∧ b ∈ bases3 ∧ Offs z o ∧ Mk m
  | .store b o u m => b ∈ bases3 ∧ Offs z o ∧ u ∈ opsD ∧ Mk m
  | .div x u t m => x ∈ namesD ∧ u ∈ opsD ∧ t ∈ opsD ∧ Mk m
  | .out u => u ∈ opsD
  | .leave u k => u ∈ opsD ∧ 0 ≤ k ∧ k < n
  | .unl u k => u ∈ opsD ∧ 0 ≤ k ∧ k < n
  | .qload x g b o => x ∈ namesD ∧ g ∈ guardsD ∧ b ∈ bases3 ∧ Offs z o
  | .qdiv x g u t => x ∈ namesD ∧ g ∈ guardsD ∧ u ∈ opsD ∧ t ∈ opsD
  | .check g m => g ∈ guardsD ∧ Mk m
theorem operand {ns : List Int} {y : Addr} {B : Nat} {S0 S : Sto} {Q : QD} (hns : ns.length ≤ 63) (h : Yn ns y B S) (o : Only y S0 S) (hB : B ≤ 1000000000)
    (q : ∀ d S', d ∈ opsD → Yn ns y (B + 1) S' → Only y S0 S' → Q d S') : d__law_operand [.ref y] S Q := by
  refine mkSp_of rfl ?_
  show r__law_operand ⟨_, _, _, _⟩ [some (.ref y)] S
  unfold r__law_operand
  (repeat' (first | with_reducible refine p_seq ?_ | with_reducible refine p_next ?_ | with_reducible refine p_var (by with_unfolding_all rfl) ?_ | with_reducible refine p_c ?_ | with_reducible refine p_op ?_ | with_reducible refine p_cb ?_ | with_reducible refine p_call ?_ | with_reducible refine p_cons ?_ | with_reducible refine p_nil ?_ | with_reducible refine p_tup ?_ | with_reducible refine p_lst ?_ | with_reducible refine p_b ?_ | with_reducible refine p_qb ?_ | with_reducible refine p_and ?_ | with_reducible refine p_or ?_ | with_reducible refine p_not ?_ | with_reducible refine p_andV ?_ | with_reducible refine p_orV ?_ | with_reducible refine p_notV ?_ | with_reducible refine p_if ?_ | with_reducible refine p_ifS ?_ | with_reducible refine p_un ?_ | with_reducible refine p_neg ?_ | with_reducible refine p_ret ?_ | with_reducible refine p_retN ?_ | with_reducible refine p_drop ?_ | with_reducible refine p_asg' ?_ | with_reducible refine p_par ?_ | with_reducible refine p_setI ?_ | with_reducible refine p_sl ?_ | with_reducible refine p_noPart ?_ | with_reducible refine p_part ?_ | with_reducible refine p_partI ?_ | with_reducible refine p_kin ?_ | with_reducible refine p_kget ?_ | with_reducible refine p_lm ?_ | with_reducible refine p_for ?_ | with_reducible refine p_seqI ?_ | with_reducible refine p_seqL ?_ | with_reducible refine p_seqT ?_ | with_reducible refine p_rng1 ?_ | with_reducible refine p_rng1I (by unfold rng1; first | decide | (constructor <;> omega)) ?_ | with_reducible refine p_yes ?_ | with_reducible refine p_chain ?_ | with_reducible refine p_callK ?_ | with_reducible refine p_lc ?_ | with_reducible refine p_disp fun _ hp0 => ?_ | with_reducible refine p_get2 ?_ | with_reducible refine p_bindM (by with_unfolding_all rfl) ?_ | with_reducible refine p_mulI (by first | decide | omega) (by first | decide | omega) ?_ | with_reducible refine p_mod (by first | decide | omega | assumption) ?_ | with_reducible refine p_sub ?_ | with_reducible refine p_min ?_ | with_reducible refine p_max ?_ | with_reducible refine p_ix0 ?_ | with_reducible refine p_ix0L ?_ | with_reducible refine p_inT (by first | decide +kernel | exact ⟨rfl, rfl⟩ | (simp [flD]; done)) ?_ | with_reducible refine p_notInT (by first | decide +kernel | exact ⟨rfl, rfl⟩ | (simp [flD]; done)) ?_ | with_reducible refine p_fdiv (by first | assumption | decide) ?_ | with_reducible refine p_pow (by unfold CPow; decide) ?_ | with_reducible refine p_lt ?_ | with_reducible refine p_le ?_ | with_reducible refine p_gt ?_ | with_reducible refine p_ge ?_ | with_reducible refine p_eqI ?_ | with_reducible refine p_neI ?_ | with_reducible refine p_eqL (by first | decide +kernel | assumption) (by first | decide +kernel | assumption) ?_ | with_reducible refine p_neL (by first | decide +kernel | assumption) (by first | decide +kernel | assumption) ?_ | with_reducible refine p_eqT (by first | decide +kernel | assumption) (by first | decide +kernel | assumption) ?_ | with_reducible refine p_neT (by first | decide +kernel | assumption) (by first | decide +kernel | assumption) ?_ | with_reducible refine p_eqS (by first | decide +kernel | assumption) (by first | decide +kernel | assumption) ?_ | with_reducible refine p_neS (by first | decide +kernel | assumption) (by first | decide +kernel | assumption) ?_ | with_reducible refine p_isi (by with_unfolding_all rfl) (by decide) ?_ | with_reducible refine p_lmO (by first | assumption | exact sup_same) ?_ | with_reducible refine p_lmE (by first | assumption | exact sup_same) (by with_unfolding_all rfl) (by (first | exact True.intro | exact szl | (with_reducible assumption) | decide | (simp only [List.length_cons, List.length_nil]; first | exact szl | omega) | omega)) ?_ | with_reducible refine p_freeze (by with_unfolding_all rfl) (by first | assumption | exact sup_same) ?_ | with_reducible refine p_dispE (by assumption) (by with_unfolding_all rfl) ?_ | with_reducible refine p_getI (by with_unfolding_all rfl) ?_ | with_reducible refine p_getS (by with_unfolding_all rfl) (by with_unfolding_all rfl) (by first | with_unfolding_all rfl | with_unfolding_all assumption) ?_ | with_reducible refine p_getN (by with_unfolding_all rfl) (by with_unfolding_all rfl) (by first | with_unfolding_all rfl | with_unfolding_all assumption) ?_ | with_reducible refine p_r (by with_unfolding_all rfl) (by (first | exact True.intro | exact szl | (with_reducible assumption) | decide | (simp only [List.length_cons, List.length_nil]; first | exact szl | omega) | omega)) ?_ | with_reducible refine p_rc (by with_unfolding_all rfl) (by (first | exact True.intro | exact szl | (with_reducible assumption) | decide | (simp only [List.length_cons, List.length_nil]; first | exact szl | omega) | omega)) ?_ | with_reducible refine p_ixS (by first | assumption | exact sup_same) (by with_unfolding_all rfl) ?_ | with_reducible refine p_set (by first | assumption | exact sup_same) (by with_unfolding_all rfl) ?_ | with_reducible refine p_onE (by with_unfolding_all rfl) (by (first | exact True.intro | exact szl | (with_reducible assumption) | decide | (simp only [List.length_cons, List.length_nil]; first | exact szl | omega) | omega)) ?_ | with_reducible refine p_kgetS (by first | with_unfolding_all rfl | with_unfolding_all assumption) ?_ | with_reducible refine p_kinT (by first | with_unfolding_all rfl | with_unfolding_all assumption) ?_ | with_reducible refine p_kinF (by first | with_unfolding_all rfl | with_unfolding_all assumption) ?_ | with_reducible refine p_nkinT (by first | with_unfolding_all rfl | with_unfolding_all assumption) ?_ | with_reducible refine p_nkinF (by first | with_unfolding_all rfl | with_unfolding_all assumption) ?_ | with_reducible refine p_T (by with_unfolding_all rfl) ?_ | with_reducible refine p_F (by with_unfolding_all rfl) ?_ | with_reducible refine And.intro (a := List.length _ ≤ sizeLine) szl ?_ | with_reducible refine And.intro (a := List.length _ = _) (by with_unfolding_all rfl) ?_))
  refine spin hns h o (by decide) hB fun k S' k0 k1 hY hO => ?_
  exact p_ixE (ds := opsD) k0 k1 fun d hd => q d S' hd hY hO
theorem offs_of {z k t : Int} (h0 : 0 ≤ k) (h1 : k < z + 1) : Offs z (k - if decide (t = 0) = true then 1 else 0) := by
  unfold Offs
  split <;> constructor <;> omega
theorem row {ns : List Int} {y : Addr} {B : Nat} {S0 S : Sto} {z n : Int} {Q : QD} (hns : ns.length ≤ 63) (h : Yn ns y B S) (o : Only y S0 S) (hz : 0 ≤ z ∧ z ≤ 1000) (hn : 0 < n ∧ n ≤ 1000) (hB : B ≤ 900000000)
    (q : ∀ r S', GenRow z n r → Yn ns y (B + 10) S' → Only y S0 S' → Q r.d S') : d__law_row [.ref y, .int z, .int n] S Q := by
  refine mkSp_of rfl ?_
  show r__law_row ⟨_, _, _, _⟩ [some (.ref y), some (.int z), some (.int n), none, none, none, none, none, none, none, none, none, none, none, none] S
  unfold r__law_row
  (repeat' (first | with_reducible refine p_seq ?_ | with_reducible refine p_next ?_ | with_reducible refine p_var (by with_unfolding_all rfl) ?_ | with_reducible refine p_c ?_ | with_reducible refine p_op ?_ | with_reducible refine p_cb ?_ | with_reducible refine p_call ?_ | with_reducible refine p_cons ?_ | with_reducible refine p_nil ?_ | with_reducible refine p_tup ?_ | with_reducible refine p_lst ?_ | with_reducible refine p_b ?_ | with_reducible refine p_qb ?_ | with_reducible refine p_and ?_ | with_reducible refine p_or ?_ | with_reducible refine p_not ?_ | with_reducible refine p_andV ?_ | with_reducible refine p_orV ?_ | with_reducible refine p_notV ?_ | with_reducible refine p_if ?_ | with_reducible refine p_ifS ?_ | with_reducible refine p_un ?_ | with_reducible refine p_neg ?_ | with_reducible refine p_ret ?_ | with_reducible refine p_retN ?_ | with_reducible refine p_drop ?_ | with_reducible refine p_asg' ?_ | with_reducible refine p_par ?_ | with_reducible refine p_setI ?_ | with_reducible refine p_sl ?_ | with_reducible refine p_noPart ?_ | with_reducible refine p_part ?_ | with_reducible refine p_partI ?_ | with_reducible refine p_kin ?_ | with_reducible refine p_kget ?_ | with_reducible refine p_lm ?_ | with_reducible refine p_for ?_ | with_reducible refine p_seqI ?_ | with_reducible refine p_seqL ?_ | with_reducible refine p_seqT ?_ | with_reducible refine p_rng1 ?_ | with_reducible refine p_rng1I (by unfold rng1; first | decide | (constructor <;> omega)) ?_ | with_reducible refine p_yes ?_ | with_reducible refine p_chain ?_ | with_reducible refine p_callK ?_ | with_reducible refine p_lc ?_ | with_reducible refine p_disp fun _ hp0 => ?_ | with_reducible refine p_get2 ?_ | with_reducible refine p_bindM (by with_unfolding_all rfl) ?_ | with_reducible refine p_mulI (by first | decide | omega) (by first | decide | omega) ?_ | with_reducible refine p_mod (by first | decide | omega | assumption) ?_ | with_reducible refine p_sub ?_ | with_reducible refine p_min ?_ | with_reducible refine p_max ?_ | with_reducible refine p_ix0 ?_ | with_reducible refine p_ix0L ?_ | with_reducible refine p_inT (by first | decide +kernel | exact ⟨rfl, rfl⟩ | (simp [flD]; done)) ?_ | with_reducible refine p_notInT (by first | decide +kernel | exact ⟨rfl, rfl⟩ | (simp [flD]; done)) ?_ | with_reducible refine p_fdiv (by first | assumption | decide) ?_ | with_reducible refine p_pow (by unfold CPow; decide) ?_ | with_reducible refine p_lt ?_ | with_reducible refine p_le ?_ | with_reducible refine p_gt ?_ | with_reducible refine p_ge ?_ | with_reducible refine p_eqI ?_ | with_reducible refine p_neI ?_ | with_reducible refine p_eqL (by first | decide +kernel | assumption) (by first | decide +kernel | assumption) ?_ | with_reducible refine p_neL (by first | decide +kernel | assumption) (by first | decide +kernel | assumption) ?_ | with_reducible refine p_eqT (by first | decide +kernel | assumption) (by first | decide +kernel | assumption) ?_ | with_reducible refine p_neT (by first | decide +kernel | assumption) (by first | decide +kernel | assumption) ?_ | with_reducible refine p_eqS (by first | decide +kernel | assumption) (by first | decide +kernel | assumption) ?_ | with_reducible refine p_neS (by first | decide +kernel | assumption) (by first | decide +kernel | assumption) ?_ | with_reducible refine p_isi (by with_unfolding_all rfl) (by decide) ?_ | with_reducible refine p_lmO (by first | assumption | exact sup_same) ?_ | with_reducible refine p_lmE (by first | assumption | exact sup_same) (by with_unfolding_all rfl) (by (first | exact True.intro | exact szl | (with_reducible assumption) | decide | (simp only [List.length_cons, List.length_nil]; first | exact szl | omega) | omega)) ?_ | with_reducible refine p_freeze (by with_unfolding_all rfl) (by first | assumption | exact sup_same) ?_ | with_reducible refine p_dispE (by assumption) (by with_unfolding_all rfl) ?_ | with_reducible refine p_getI (by with_unfolding_all rfl) ?_ | with_reducible refine p_getS (by with_unfolding_all rfl) (by with_unfolding_all rfl) (by first | with_unfolding_all rfl | with_unfolding_all assumption) ?_ | with_reducible refine p_getN (by with_unfolding_all rfl) (by with_unfolding_all rfl) (by first | with_unfolding_all rfl | with_unfolding_all assumption) ?_ | with_reducible refine p_r (by with_unfolding_all rfl) (by (first | exact True.intro | exact szl | (with_reducible assumption) | decide | (simp only [List.length_cons, List.length_nil]; first | exact szl | omega) | omega)) ?_ | with_reducible refine p_rc (by with_unfolding_all rfl) (by (first | exact True.intro | exact szl | (with_reducible assumption) | decide | (simp only [List.length_cons, List.length_nil]; first | exact szl | omega) | omega)) ?_ | with_reducible refine p_ixS (by first | assumption | exact sup_same) (by with_unfolding_all rfl) ?_ | with_reducible refine p_set (by first | assumption | exact sup_same) (by with_unfolding_all rfl) ?_ | with_reducible refine p_onE (by with_unfolding_all rfl) (by (first | exact True.intro | exact szl | (with_reducible assumption) | decide | (simp only [List.length_cons, List.length_nil]; first | exact szl | omega) | omega)) ?_ | with_reducible refine p_kgetS (by first | with_unfolding_all rfl | with_unfolding_all assumption) ?_ | with_reducible refine p_kinT (by first | with_unfolding_all rfl | with_unfolding_all assumption) ?_ | with_reducible refine p_kinF (by first | with_unfolding_all rfl | with_unfolding_all assumption) ?_ | with_reducible refine p_nkinT (by first | with_unfolding_all rfl | with_unfolding_all assumption) ?_ | with_reducible refine p_nkinF (by first | with_unfolding_all rfl | with_unfolding_all assumption) ?_ | with_reducible refine p_T (by with_unfolding_all rfl) ?_ | with_reducible refine p_F (by with_unfolding_all rfl) ?_ | with_reducible refine And.intro (a := List.length _ ≤ sizeLine) szl ?_ | with_reducible refine And.intro (a := List.length _ = _) (by with_unfolding_all rfl) ?_ | refine spin (S0 := S0) hns (by assumption) (by assumption) (by first | decide | (constructor <;> omega)) (by omega) fun k S' k0 k1 hY hO => ?_ | refine p_ixE (by omega) (by simp only [List.length_cons, List.length_nil]; omega) fun d hd => ?_ | refine operand (S0 := S0) hns (by assumption) (by assumption) (by omega) fun d S' hd hY hO => ?_ | refine p_iteD (fun hc => ?_) (fun hc => ?_) | refine p_ite (fun hc => ?_) (fun hc => ?_) | refine p_eqR (okB_okR (okB_mem (by assumption) (by decide +kernel))) (okB_okR (by decide +kernel)) ?_ | refine p_neR (okB_okR (okB_mem (by assumption) (by decide +kernel))) (okB_okR (by decide +kernel)) ?_ | refine p_mulB (by decide) ?_ ?_))
  all_goals try (exact q (.load _ _ _ _) _ ⟨by assumption, by assumption, offs_of (by assumption) (by assumption), _, rfl, by omega, by omega⟩ (Yn.up (by assumption) (by omega)) (by assumption))
  all_goals try (exact q (.store _ _ _ _) _ ⟨by assumption, offs_of (by assumption) (by assumption), by assumption, _, rfl, by omega, by omega⟩ (Yn.up (by assumption) (by omega)) (by assumption))
  all_goals try (exact q (.set _ _ _ _) _ ⟨by assumption, by assumption, by assumption, .inr ⟨_, rfl, by omega, by omega⟩⟩ (Yn.up (by assumption) (by omega)) (by assumption))
  all_goals try (exact q (.set _ _ _ _) _ ⟨by assumption, by assumption, by assumption, .inl (by assumption)⟩ (Yn.up (by assumption) (by omega)) (by assumption))
  all_goals try (exact q (.div _ _ _ _) _ ⟨by assumption, by assumption, by assumption, _, rfl, by omega, by omega⟩ (Yn.up (by assumption) (by omega)) (by assumption))
  all_goals try (exact q (.out _) _ (show _ ∈ opsD by assumption) (Yn.up (by assumption) (by omega)) (by assumption))
  · rename_i hd _ _ _ _ _ _
    refine mem3 (P := fun d => Q (.tup [d, _, _]) _) (by assumption) ?_ ?_ ?_
    · exact q (.leave _ _) _ ⟨by assumption, by assumption, by assumption⟩ (Yn.up (by assumption) (by omega)) (by assumption)
    · exact q (.unl _ _) _ ⟨by assumption, by assumption, by assumption⟩ (Yn.up (by assumption) (by omega)) (by assumption)
    · exact q (.leave _ _) _ ⟨by assumption, by assumption, by assumption⟩ (Yn.up (by assumption) (by omega)) (by assumption)
  all_goals
    rename_i hd
    refine mem3 (P := fun d => Q d _) hd ?_ ?_ ?_
    · exact q (.qload _ _ _ _) _ ⟨by assumption, by first | exact .head _ | exact .tail _ (.head _) | exact .tail _ (.tail _ (.head _)), by assumption, offs_of (by assumption) (by assumption)⟩ (Yn.up (by assumption) (by omega)) (by assumption)
    · exact q (.qdiv _ _ _ _) _ ⟨by assumption, by first | exact .head _ | exact .tail _ (.head _) | exact .tail _ (.tail _ (.head _)), by assumption, by assumption⟩ (Yn.up (by assumption) (by omega)) (by assumption)
    · exact q (.check _ _) _ ⟨by first | exact .head _ | exact .tail _ (.head _) | exact .tail _ (.tail _ (.head _)), _, rfl, by omega, by omega⟩ (Yn.up (by assumption) (by omega)) (by assumption)
end LSh

namespace LSh
open PySem PySem.Spec PyProof.Rows L2 PL
abbrev N__law_prog : List Str := ["_law_yarn_here", "_law_size", "_law_many", "_law_blocks", "_law_k", "_law_rows", "_law_ways", "_law_j"]
def r__law_prog : TSD := (tdSeq (tdAsg (tdTup (tdCons (tdOp (rdP addD) (tdC (.int 1)) (tdCall d__law_spin [] (tdCons (tdVar 0) (tdCons (tdC (.int 4)) tdNil)))) (tdCons (tdOp (rdP addD) (tdC (.int 1)) (tdCall d__law_spin [] (tdCons (tdVar 0) (tdCons (tdC (.int 4)) tdNil)))) tdNil))) (.tp (.cons (.nm 1) (.cons (.nm 2) .nil)))) (tdSeq (tdAsg (tdLstR tdNil) (.nm 3)) (tdSeq (tdFor (tdRng1 (tdCons (tdVar 2) tdNil)) (.nm 4) (tdSeq (tdAsg (tdCB (rdC tupleD) (tdCons (tdLc (tdRng1 (tdCons (tdCall d__law_spin [] (tdCons (tdVar 0) (tdCons (tdC (.int 6)) tdNil))) tdNil)) (.nm 7) tdYes (tdCall d__law_row [] (tdCons (tdVar 0) (tdCons (tdVar 1) (tdCons (tdVar 2) tdNil)))) [7]) tdNil)) (.nm 5)) (tdSeq (tdAsg (tdLst (tdCons (tdTup (tdCons (tdC (.str "go")) (tdCons (tdCB (rdC minD) (tdCons (tdOp (rdP addD) (tdVar 4) (tdC (.int 1))) (tdCons (tdOp (rdP subD) (tdVar 2) (tdC (.int 1))) tdNil))) tdNil))) (tdCons (tdTup (tdCons (tdC (.str "go")) (tdCons (tdCall d__law_spin [] (tdCons (tdVar 0) (tdCons (tdVar 2) tdNil))) tdNil))) (tdCons (tdTup (tdCons (tdC (.str "stop")) tdNil)) (tdCons (tdTup (tdCons (tdC (.str "stop")) tdNil)) tdNil))))) (.nm 6)) (tdDrop (tdLm gAppend (tdVar 3) (tdCons (tdTup (tdCons (tdVar 5) (tdCons (tdOp (rdP ixD) (tdVar 6) (tdCall d__law_spin [] (tdCons (tdVar 0) (tdCons (tdC (.int 4)) tdNil)))) tdNil))) tdNil)))))) (tdRet (tdTup (tdCons (tdVar 1) (tdCons (tdCB (rdC tupleD) (tdCons (tdVar 3) tdNil)) tdNil)))))))
def d__law_prog : SpD := mkSp 1 N__law_prog r__law_prog

inductive WV where
  | go (k : Int) | stop
def WV.d : WV → D
  | .go k => .tup [.str "go", .int k]
  | .stop => .tup [.str "stop"]
def GenWay (n : Int) : WV → Prop
  | .go k => 0 ≤ k ∧ k < n
  | .stop => True
def blkD (b : List RV × WV) : D := .tup [.tup (b.1.map RV.d), b.2.d]
def GenBlk (z n : Int) (b : List RV × WV) : Prop := b.1.length ≤ 5 ∧ (∀ r ∈ b.1, GenRow z n r) ∧ GenWay n b.2
/-- what was there stays, but for y -/
def Keep (y : Addr) (S S' : Sto) : Prop := ∀ q o, q ≠ y → S q = some o → S' q = some o
theorem Keep.refl {y : Addr} {S : Sto} : Keep y S S := fun _ _ _ h => h
theorem Keep.trans {y : Addr} {S S1 S2 : Sto} (h : Keep y S S1) (k : Keep y S1 S2) : Keep y S S2 := fun q o n e => k q o n (h q o n e)
theorem Keep.of {y : Addr} {S S' : Sto} (h : Only y S S') : Keep y S S' := fun q o n e => by rw [h q n]; exact e
theorem Keep.new {y p : Addr} {S : Sto} {o : MO} (h : S p = none) : Keep y S (sup S p o) := fun q o' n e => by
  rw [sup_ne fun k => by rw [k, h] at e; cases e]; exact e
theorem Keep.sup {y p : Addr} {S S' : Sto} {o : MO} (h : Keep y S S') (n : S p = none) : Keep y S (PL.sup S' p o) := fun q o' m e => by
  rw [sup_ne fun k => by rw [k, n] at e; cases e]; exact h q o' m e
theorem Keep.del {y p : Addr} {S S' : Sto} (h : Keep y S S') (n : S p = none) : Keep y S (sdel S' p) := fun q o' m e => by
  rw [sdel_ne fun k => by rw [k, n] at e; cases e]; exact h q o' m e
theorem upto_get {n : Nat} {i : Nat} {d : D} (h : (upto 0 n)[i]? = some d) : i < n ∧ d = .int i := by
  unfold upto at h
  rw [List.getElem?_map] at h
  cases e : (List.range n)[i]? with
  | none => rw [e] at h; cases h
  | some j =>
    rw [e] at h
    obtain ⟨h1, h2⟩ := List.getElem?_eq_some_iff.mp e
    rw [List.getElem_range] at h2
    subst h2
    rw [List.length_range] at h1
    cases h
    exact ⟨h1, by show D.int (0 + (i : Int)) = _; rw [Int.zero_add]⟩
theorem prog {ns : List Int} {y : Addr} {B : Nat} {S : Sto} {Q : QD} (hns : ns.length ≤ 63) (h : Yn ns y B S) (hB : B ≤ 800000000)
    (q : ∀ z n (bs : List (List RV × WV)) S', 1 ≤ z ∧ z ≤ 4 → 1 ≤ n ∧ n ≤ 4 → bs.length = n.toNat → (∀ b ∈ bs, GenBlk z n b) → Yn ns y (B + 300) S' → Keep y S S' → Q (.tup [.int z, .tup (bs.map blkD)]) S') : d__law_prog [.ref y] S Q := by
  refine mkSp_of rfl ?_
  show r__law_prog ⟨_, _, _, _⟩ [some (.ref y), none, none, none, none, none, none, none] S
  unfold r__law_prog
  (repeat' (first | with_reducible refine p_seq ?_ | with_reducible refine p_next ?_ | with_reducible refine p_var (by with_unfolding_all rfl) ?_ | with_reducible refine p_c ?_ | with_reducible refine p_op ?_ | with_reducible refine p_cb ?_ | with_reducible refine p_call ?_ | with_reducible refine p_cons ?_ | with_reducible refine p_nil ?_ | with_reducible refine p_tup ?_ | with_reducible refine p_lst ?_ | with_reducible refine p_b ?_ | with_reducible refine p_qb ?_ | with_reducible refine p_and ?_ | with_reducible refine p_or ?_ | with_reducible refine p_not ?_ | with_reducible refine p_andV ?_ | with_reducible refine p_orV ?_ | with_reducible refine p_notV ?_ | with_reducible refine p_if ?_ | with_reducible refine p_ifS ?_ | with_reducible refine p_un ?_ | with_reducible refine p_neg ?_ | with_reducible refine p_ret ?_ | with_reducible refine p_retN ?_ | with_reducible refine p_drop ?_ | with_reducible refine p_asg' ?_ | with_reducible refine p_par ?_ | with_reducible refine p_setI ?_ | with_reducible refine p_sl ?_ | with_reducible refine p_noPart ?_ | with_reducible refine p_part ?_ | with_reducible refine p_partI ?_ | with_reducible refine p_kin ?_ | with_reducible refine p_kget ?_ | with_reducible refine p_lm ?_ | with_reducible refine p_for ?_ | with_reducible refine p_seqI ?_ | with_reducible refine p_seqL ?_ | with_reducible refine p_seqT ?_ | with_reducible refine p_rng1 ?_ | with_reducible refine p_rng1I (by unfold rng1; first | decide | (constructor <;> omega)) ?_ | with_reducible refine p_yes ?_ | with_reducible refine p_callK ?_ | with_reducible refine p_lc ?_ | with_reducible refine p_disp fun _ hp0 => ?_ | with_reducible refine p_get2 ?_ | with_reducible refine p_bindM (by with_unfolding_all rfl) ?_ | with_reducible refine p_mulI (by first | decide | omega) (by first | decide | omega) ?_ | with_reducible refine p_mod (by first | decide | omega | assumption) ?_ | with_reducible refine p_sub ?_ | with_reducible refine p_min ?_ | with_reducible refine p_max ?_ | with_reducible refine p_ix0 ?_ | with_reducible refine p_ix0L ?_ | with_reducible refine p_inT (by first | decide +kernel | exact ⟨rfl, rfl⟩ | (simp [flD]; done)) ?_ | with_reducible refine p_notInT (by first | decide +kernel | exact ⟨rfl, rfl⟩ | (simp [flD]; done)) ?_ | with_reducible refine p_fdiv (by first | assumption | decide) ?_ | with_reducible refine p_pow (by unfold CPow; decide) ?_ | with_reducible refine p_lt ?_ | with_reducible refine p_le ?_ | with_reducible refine p_gt ?_ | with_reducible refine p_ge ?_ | with_reducible refine p_eqI ?_ | with_reducible refine p_neI ?_ | with_reducible refine p_eqL (by first | decide +kernel | assumption) (by first | decide +kernel | assumption) ?_ | with_reducible refine p_neL (by first | decide +kernel | assumption) (by first | decide +kernel | assumption) ?_ | with_reducible refine p_eqT (by first | decide +kernel | assumption) (by first | decide +kernel | assumption) ?_ | with_reducible refine p_neT (by first | decide +kernel | assumption) (by first | decide +kernel | assumption) ?_ | with_reducible refine p_eqS (by first | decide +kernel | assumption) (by first | decide +kernel | assumption) ?_ | with_reducible refine p_neS (by first | decide +kernel | assumption) (by first | decide +kernel | assumption) ?_ | with_reducible refine p_isi (by with_unfolding_all rfl) (by decide) ?_ | with_reducible refine p_lmO (by first | assumption | exact sup_same) ?_ | with_reducible refine p_lmE (by first | assumption | exact sup_same) (by with_unfolding_all rfl) (by (first | exact True.intro | exact szl | (with_reducible assumption) | decide | (simp only [List.length_cons, List.length_nil]; first | exact szl | omega) | omega)) ?_ | with_reducible refine p_freeze (by with_unfolding_all rfl) (by first | assumption | exact sup_same) ?_ | with_reducible refine p_dispE (by assumption) (by with_unfolding_all rfl) ?_ | with_reducible refine p_getI (by with_unfolding_all rfl) ?_ | with_reducible refine p_getS (by with_unfolding_all rfl) (by with_unfolding_all rfl) (by first | with_unfolding_all rfl | with_unfolding_all assumption) ?_ | with_reducible refine p_getN (by with_unfolding_all rfl) (by with_unfolding_all rfl) (by first | with_unfolding_all rfl | with_unfolding_all assumption) ?_ | with_reducible refine p_r (by with_unfolding_all rfl) (by (first | exact True.intro | exact szl | (with_reducible assumption) | decide | (simp only [List.length_cons, List.length_nil]; first | exact szl | omega) | omega)) ?_ | with_reducible refine p_rc (by with_unfolding_all rfl) (by (first | exact True.intro | exact szl | (with_reducible assumption) | decide | (simp only [List.length_cons, List.length_nil]; first | exact szl | omega) | omega)) ?_ | with_reducible refine p_ixS (by first | assumption | exact sup_same) (by with_unfolding_all rfl) ?_ | with_reducible refine p_set (by first | assumption | exact sup_same) (by with_unfolding_all rfl) ?_ | with_reducible refine p_onE (by with_unfolding_all rfl) (by (first | exact True.intro | exact szl | (with_reducible assumption) | decide | (simp only [List.length_cons, List.length_nil]; first | exact szl | omega) | omega)) ?_ | with_reducible refine p_kgetS (by first | with_unfolding_all rfl | with_unfolding_all assumption) ?_ | with_reducible refine p_kinT (by first | with_unfolding_all rfl | with_unfolding_all assumption) ?_ | with_reducible refine p_kinF (by first | with_unfolding_all rfl | with_unfolding_all assumption) ?_ | with_reducible refine p_nkinT (by first | with_unfolding_all rfl | with_unfolding_all assumption) ?_ | with_reducible refine p_nkinF (by first | with_unfolding_all rfl | with_unfolding_all assumption) ?_ | with_reducible refine p_T (by with_unfolding_all rfl) ?_ | with_reducible refine p_F (by with_unfolding_all rfl) ?_ | with_reducible refine And.intro (a := List.length _ ≤ sizeLine) szl ?_ | with_reducible refine And.intro (a := List.length _ = _) (by with_unfolding_all rfl) ?_))
  refine spin (S0 := S) hns h Only.refl (by decide) (by omega) fun k1 S1 a0 a1 hY1 hO1 => ?_
  (repeat' (first | with_reducible refine p_seq ?_ | with_reducible refine p_next ?_ | with_reducible refine p_var (by with_unfolding_all rfl) ?_ | with_reducible refine p_c ?_ | with_reducible refine p_op ?_ | with_reducible refine p_cb ?_ | with_reducible refine p_call ?_ | with_reducible refine p_cons ?_ | with_reducible refine p_nil ?_ | with_reducible refine p_tup ?_ | with_reducible refine p_lst ?_ | with_reducible refine p_b ?_ | with_reducible refine p_qb ?_ | with_reducible refine p_and ?_ | with_reducible refine p_or ?_ | with_reducible refine p_not ?_ | with_reducible refine p_andV ?_ | with_reducible refine p_orV ?_ | with_reducible refine p_notV ?_ | with_reducible refine p_if ?_ | with_reducible refine p_ifS ?_ | with_reducible refine p_un ?_ | with_reducible refine p_neg ?_ | with_reducible refine p_ret ?_ | with_reducible refine p_retN ?_ | with_reducible refine p_drop ?_ | with_reducible refine p_asg' ?_ | with_reducible refine p_par ?_ | with_reducible refine p_setI ?_ | with_reducible refine p_sl ?_ | with_reducible refine p_noPart ?_ | with_reducible refine p_part ?_ | with_reducible refine p_partI ?_ | with_reducible refine p_kin ?_ | with_reducible refine p_kget ?_ | with_reducible refine p_lm ?_ | with_reducible refine p_for ?_ | with_reducible refine p_seqI ?_ | with_reducible refine p_seqL ?_ | with_reducible refine p_seqT ?_ | with_reducible refine p_rng1 ?_ | with_reducible refine p_rng1I (by unfold rng1; first | decide | (constructor <;> omega)) ?_ | with_reducible refine p_yes ?_ | with_reducible refine p_callK ?_ | with_reducible refine p_lc ?_ | with_reducible refine p_disp fun _ hp0 => ?_ | with_reducible refine p_get2 ?_ | with_reducible refine p_bindM (by with_unfolding_all rfl) ?_ | with_reducible refine p_mulI (by first | decide | omega) (by first | decide | omega) ?_ | with_reducible refine p_mod (by first | decide | omega | assumption) ?_ | with_reducible refine p_sub ?_ | with_reducible refine p_min ?_ | with_reducible refine p_max ?_ | with_reducible refine p_ix0 ?_ | with_reducible refine p_ix0L ?_ | with_reducible refine p_inT (by first | decide +kernel | exact ⟨rfl, rfl⟩ | (simp [flD]; done)) ?_ | with_reducible refine p_notInT (by first | decide +kernel | exact ⟨rfl, rfl⟩ | (simp [flD]; done)) ?_ | with_reducible refine p_fdiv (by first | assumption | decide) ?_ | with_reducible refine p_pow (by unfold CPow; decide) ?_ | with_reducible refine p_lt ?_ | with_reducible refine p_le ?_ | with_reducible refine p_gt ?_ | with_reducible refine p_ge ?_ | with_reducible refine p_eqI ?_ | with_reducible refine p_neI ?_ | with_reducible refine p_eqL (by first | decide +kernel | assumption) (by first | decide +kernel | assumption) ?_ | with_reducible refine p_neL (by first | decide +kernel | assumption) (by first | decide +kernel | assumption) ?_ | with_reducible refine p_eqT (by first | decide +kernel | assumption) (by first | decide +kernel | assumption) ?_ | with_reducible refine p_neT (by first | decide +kernel | assumption) (by first | decide +kernel | assumption) ?_ | with_reducible refine p_eqS (by first | decide +kernel | assumption) (by first | decide +kernel | assumption) ?_ | with_reducible refine p_neS (by first | decide +kernel | assumption) (by first | decide +kernel | assumption) ?_ | with_reducible refine p_isi (by with_unfolding_all rfl) (by decide) ?_ | with_reducible refine p_lmO (by first | assumption | exact sup_same) ?_ | with_reducible refine p_lmE (by first | assumption | exact sup_same) (by with_unfolding_all rfl) (by (first | exact True.intro | exact szl | (with_reducible assumption) | decide | (simp only [List.length_cons, List.length_nil]; first | exact szl | omega) | omega)) ?_ | with_reducible refine p_freeze (by with_unfolding_all rfl) (by first | assumption | exact sup_same) ?_ | with_reducible refine p_dispE (by assumption) (by with_unfolding_all rfl) ?_ | with_reducible refine p_getI (by with_unfolding_all rfl) ?_ | with_reducible refine p_getS (by with_unfolding_all rfl) (by with_unfolding_all rfl) (by first | with_unfolding_all rfl | with_unfolding_all assumption) ?_ | with_reducible refine p_getN (by with_unfolding_all rfl) (by with_unfolding_all rfl) (by first | with_unfolding_all rfl | with_unfolding_all assumption) ?_ | with_reducible refine p_r (by with_unfolding_all rfl) (by (first | exact True.intro | exact szl | (with_reducible assumption) | decide | (simp only [List.length_cons, List.length_nil]; first | exact szl | omega) | omega)) ?_ | with_reducible refine p_rc (by with_unfolding_all rfl) (by (first | exact True.intro | exact szl | (with_reducible assumption) | decide | (simp only [List.length_cons, List.length_nil]; first | exact szl | omega) | omega)) ?_ | with_reducible refine p_ixS (by first | assumption | exact sup_same) (by with_unfolding_all rfl) ?_ | with_reducible refine p_set (by first | assumption | exact sup_same) (by with_unfolding_all rfl) ?_ | with_reducible refine p_onE (by with_unfolding_all rfl) (by (first | exact True.intro | exact szl | (with_reducible assumption) | decide | (simp only [List.length_cons, List.length_nil]; first | exact szl | omega) | omega)) ?_ | with_reducible refine p_kgetS (by first | with_unfolding_all rfl | with_unfolding_all assumption) ?_ | with_reducible refine p_kinT (by first | with_unfolding_all rfl | with_unfolding_all assumption) ?_ | with_reducible refine p_kinF (by first | with_unfolding_all rfl | with_unfolding_all assumption) ?_ | with_reducible refine p_nkinT (by first | with_unfolding_all rfl | with_unfolding_all assumption) ?_ | with_reducible refine p_nkinF (by first | with_unfolding_all rfl | with_unfolding_all assumption) ?_ | with_reducible refine p_T (by with_unfolding_all rfl) ?_ | with_reducible refine p_F (by with_unfolding_all rfl) ?_ | with_reducible refine And.intro (a := List.length _ ≤ sizeLine) szl ?_ | with_reducible refine And.intro (a := List.length _ = _) (by with_unfolding_all rfl) ?_))
  refine spin (S0 := S) hns hY1 hO1 (by decide) (by omega) fun k2 S2 b0 b1 hY2 hO2 => ?_
  (repeat' (first | with_reducible refine p_seq ?_ | with_reducible refine p_next ?_ | with_reducible refine p_var (by with_unfolding_all rfl) ?_ | with_reducible refine p_c ?_ | with_reducible refine p_op ?_ | with_reducible refine p_cb ?_ | with_reducible refine p_call ?_ | with_reducible refine p_cons ?_ | with_reducible refine p_nil ?_ | with_reducible refine p_tup ?_ | with_reducible refine p_lst ?_ | with_reducible refine p_b ?_ | with_reducible refine p_qb ?_ | with_reducible refine p_and ?_ | with_reducible refine p_or ?_ | with_reducible refine p_not ?_ | with_reducible refine p_andV ?_ | with_reducible refine p_orV ?_ | with_reducible refine p_notV ?_ | with_reducible refine p_if ?_ | with_reducible refine p_ifS ?_ | with_reducible refine p_un ?_ | with_reducible refine p_neg ?_ | with_reducible refine p_ret ?_ | with_reducible refine p_retN ?_ | with_reducible refine p_drop ?_ | with_reducible refine p_asg' ?_ | with_reducible refine p_par ?_ | with_reducible refine p_setI ?_ | with_reducible refine p_sl ?_ | with_reducible refine p_noPart ?_ | with_reducible refine p_part ?_ | with_reducible refine p_partI ?_ | with_reducible refine p_kin ?_ | with_reducible refine p_kget ?_ | with_reducible refine p_lm ?_ | with_reducible refine p_for ?_ | with_reducible refine p_seqI ?_ | with_reducible refine p_seqL ?_ | with_reducible refine p_seqT ?_ | with_reducible refine p_rng1 ?_ | with_reducible refine p_rng1I (by unfold rng1; first | decide | (constructor <;> omega)) ?_ | with_reducible refine p_yes ?_ | with_reducible refine p_callK ?_ | with_reducible refine p_lc ?_ | with_reducible refine p_disp fun _ hp0 => ?_ | with_reducible refine p_get2 ?_ | with_reducible refine p_bindM (by with_unfolding_all rfl) ?_ | with_reducible refine p_mulI (by first | decide | omega) (by first | decide | omega) ?_ | with_reducible refine p_mod (by first | decide | omega | assumption) ?_ | with_reducible refine p_sub ?_ | with_reducible refine p_min ?_ | with_reducible refine p_max ?_ | with_reducible refine p_ix0 ?_ | with_reducible refine p_ix0L ?_ | with_reducible refine p_inT (by first | decide +kernel | exact ⟨rfl, rfl⟩ | (simp [flD]; done)) ?_ | with_reducible refine p_notInT (by first | decide +kernel | exact ⟨rfl, rfl⟩ | (simp [flD]; done)) ?_ | with_reducible refine p_fdiv (by first | assumption | decide) ?_ | with_reducible refine p_pow (by unfold CPow; decide) ?_ | with_reducible refine p_lt ?_ | with_reducible refine p_le ?_ | with_reducible refine p_gt ?_ | with_reducible refine p_ge ?_ | with_reducible refine p_eqI ?_ | with_reducible refine p_neI ?_ | with_reducible refine p_eqL (by first | decide +kernel | assumption) (by first | decide +kernel | assumption) ?_ | with_reducible refine p_neL (by first | decide +kernel | assumption) (by first | decide +kernel | assumption) ?_ | with_reducible refine p_eqT (by first | decide +kernel | assumption) (by first | decide +kernel | assumption) ?_ | with_reducible refine p_neT (by first | decide +kernel | assumption) (by first | decide +kernel | assumption) ?_ | with_reducible refine p_eqS (by first | decide +kernel | assumption) (by first | decide +kernel | assumption) ?_ | with_reducible refine p_neS (by first | decide +kernel | assumption) (by first | decide +kernel | assumption) ?_ | with_reducible refine p_isi (by with_unfolding_all rfl) (by decide) ?_ | with_reducible refine p_lmO (by first | assumption | exact sup_same) ?_ | with_reducible refine p_lmE (by first | assumption | exact sup_same) (by with_unfolding_all rfl) (by (first | exact True.intro | exact szl | (with_reducible assumption) | decide | (simp only [List.length_cons, List.length_nil]; first | exact szl | omega) | omega)) ?_ | with_reducible refine p_freeze (by with_unfolding_all rfl) (by first | assumption | exact sup_same) ?_ | with_reducible refine p_dispE (by assumption) (by with_unfolding_all rfl) ?_ | with_reducible refine p_getI (by with_unfolding_all rfl) ?_ | with_reducible refine p_getS (by with_unfolding_all rfl) (by with_unfolding_all rfl) (by first | with_unfolding_all rfl | with_unfolding_all assumption) ?_ | with_reducible refine p_getN (by with_unfolding_all rfl) (by with_unfolding_all rfl) (by first | with_unfolding_all rfl | with_unfolding_all assumption) ?_ | with_reducible refine p_r (by with_unfolding_all rfl) (by (first | exact True.intro | exact szl | (with_reducible assumption) | decide | (simp only [List.length_cons, List.length_nil]; first | exact szl | omega) | omega)) ?_ | with_reducible refine p_rc (by with_unfolding_all rfl) (by (first | exact True.intro | exact szl | (with_reducible assumption) | decide | (simp only [List.length_cons, List.length_nil]; first | exact szl | omega) | omega)) ?_ | with_reducible refine p_ixS (by first | assumption | exact sup_same) (by with_unfolding_all rfl) ?_ | with_reducible refine p_set (by first | assumption | exact sup_same) (by with_unfolding_all rfl) ?_ | with_reducible refine p_onE (by with_unfolding_all rfl) (by (first | exact True.intro | exact szl | (with_reducible assumption) | decide | (simp only [List.length_cons, List.length_nil]; first | exact szl | omega) | omega)) ?_ | with_reducible refine p_kgetS (by first | with_unfolding_all rfl | with_unfolding_all assumption) ?_ | with_reducible refine p_kinT (by first | with_unfolding_all rfl | with_unfolding_all assumption) ?_ | with_reducible refine p_kinF (by first | with_unfolding_all rfl | with_unfolding_all assumption) ?_ | with_reducible refine p_nkinT (by first | with_unfolding_all rfl | with_unfolding_all assumption) ?_ | with_reducible refine p_nkinF (by first | with_unfolding_all rfl | with_unfolding_all assumption) ?_ | with_reducible refine p_T (by with_unfolding_all rfl) ?_ | with_reducible refine p_F (by with_unfolding_all rfl) ?_ | with_reducible refine And.intro (a := List.length _ ≤ sizeLine) szl ?_ | with_reducible refine And.intro (a := List.length _ = _) (by with_unfolding_all rfl) ?_))
  refine p_lstR ?_
  (repeat' (first | with_reducible refine p_seq ?_ | with_reducible refine p_next ?_ | with_reducible refine p_var (by with_unfolding_all rfl) ?_ | with_reducible refine p_c ?_ | with_reducible refine p_op ?_ | with_reducible refine p_cb ?_ | with_reducible refine p_call ?_ | with_reducible refine p_cons ?_ | with_reducible refine p_nil ?_ | with_reducible refine p_tup ?_ | with_reducible refine p_lst ?_ | with_reducible refine p_b ?_ | with_reducible refine p_qb ?_ | with_reducible refine p_and ?_ | with_reducible refine p_or ?_ | with_reducible refine p_not ?_ | with_reducible refine p_andV ?_ | with_reducible refine p_orV ?_ | with_reducible refine p_notV ?_ | with_reducible refine p_if ?_ | with_reducible refine p_ifS ?_ | with_reducible refine p_un ?_ | with_reducible refine p_neg ?_ | with_reducible refine p_ret ?_ | with_reducible refine p_retN ?_ | with_reducible refine p_drop ?_ | with_reducible refine p_asg' ?_ | with_reducible refine p_par ?_ | with_reducible refine p_setI ?_ | with_reducible refine p_sl ?_ | with_reducible refine p_noPart ?_ | with_reducible refine p_part ?_ | with_reducible refine p_partI ?_ | with_reducible refine p_kin ?_ | with_reducible refine p_kget ?_ | with_reducible refine p_lm ?_ | with_reducible refine p_for ?_ | with_reducible refine p_seqI ?_ | with_reducible refine p_seqL ?_ | with_reducible refine p_seqT ?_ | with_reducible refine p_rng1 ?_ | with_reducible refine p_rng1I (by unfold rng1; first | decide | (constructor <;> omega)) ?_ | with_reducible refine p_yes ?_ | with_reducible refine p_callK ?_ | with_reducible refine p_lc ?_ | with_reducible refine p_disp fun _ hp0 => ?_ | with_reducible refine p_get2 ?_ | with_reducible refine p_bindM (by with_unfolding_all rfl) ?_ | with_reducible refine p_mulI (by first | decide | omega) (by first | decide | omega) ?_ | with_reducible refine p_mod (by first | decide | omega | assumption) ?_ | with_reducible refine p_sub ?_ | with_reducible refine p_min ?_ | with_reducible refine p_max ?_ | with_reducible refine p_ix0 ?_ | with_reducible refine p_ix0L ?_ | with_reducible refine p_inT (by first | decide +kernel | exact ⟨rfl, rfl⟩ | (simp [flD]; done)) ?_ | with_reducible refine p_notInT (by first | decide +kernel | exact ⟨rfl, rfl⟩ | (simp [flD]; done)) ?_ | with_reducible refine p_fdiv (by first | assumption | decide) ?_ | with_reducible refine p_pow (by unfold CPow; decide) ?_ | with_reducible refine p_lt ?_ | with_reducible refine p_le ?_ | with_reducible refine p_gt ?_ | with_reducible refine p_ge ?_ | with_reducible refine p_eqI ?_ | with_reducible refine p_neI ?_ | with_reducible refine p_eqL (by first | decide +kernel | assumption) (by first | decide +kernel | assumption) ?_ | with_reducible refine p_neL (by first | decide +kernel | assumption) (by first | decide +kernel | assumption) ?_ | with_reducible refine p_eqT (by first | decide +kernel | assumption) (by first | decide +kernel | assumption) ?_ | with_reducible refine p_neT (by first | decide +kernel | assumption) (by first | decide +kernel | assumption) ?_ | with_reducible refine p_eqS (by first | decide +kernel | assumption) (by first | decide +kernel | assumption) ?_ | with_reducible refine p_neS (by first | decide +kernel | assumption) (by first | decide +kernel | assumption) ?_ | with_reducible refine p_isi (by with_unfolding_all rfl) (by decide) ?_ | with_reducible refine p_lmO (by first | assumption | exact sup_same) ?_ | with_reducible refine p_lmE (by first | assumption | exact sup_same) (by with_unfolding_all rfl) (by (first | exact True.intro | exact szl | (with_reducible assumption) | decide | (simp only [List.length_cons, List.length_nil]; first | exact szl | omega) | omega)) ?_ | with_reducible refine p_freeze (by with_unfolding_all rfl) (by first | assumption | exact sup_same) ?_ | with_reducible refine p_dispE (by assumption) (by with_unfolding_all rfl) ?_ | with_reducible refine p_getI (by with_unfolding_all rfl) ?_ | with_reducible refine p_getS (by with_unfolding_all rfl) (by with_unfolding_all rfl) (by first | with_unfolding_all rfl | with_unfolding_all assumption) ?_ | with_reducible refine p_getN (by with_unfolding_all rfl) (by with_unfolding_all rfl) (by first | with_unfolding_all rfl | with_unfolding_all assumption) ?_ | with_reducible refine p_r (by with_unfolding_all rfl) (by (first | exact True.intro | exact szl | (with_reducible assumption) | decide | (simp only [List.length_cons, List.length_nil]; first | exact szl | omega) | omega)) ?_ | with_reducible refine p_rc (by with_unfolding_all rfl) (by (first | exact True.intro | exact szl | (with_reducible assumption) | decide | (simp only [List.length_cons, List.length_nil]; first | exact szl | omega) | omega)) ?_ | with_reducible refine p_ixS (by first | assumption | exact sup_same) (by with_unfolding_all rfl) ?_ | with_reducible refine p_set (by first | assumption | exact sup_same) (by with_unfolding_all rfl) ?_ | with_reducible refine p_onE (by with_unfolding_all rfl) (by (first | exact True.intro | exact szl | (with_reducible assumption) | decide | (simp only [List.length_cons, List.length_nil]; first | exact szl | omega) | omega)) ?_ | with_reducible refine p_kgetS (by first | with_unfolding_all rfl | with_unfolding_all assumption) ?_ | with_reducible refine p_kinT (by first | with_unfolding_all rfl | with_unfolding_all assumption) ?_ | with_reducible refine p_kinF (by first | with_unfolding_all rfl | with_unfolding_all assumption) ?_ | with_reducible refine p_nkinT (by first | with_unfolding_all rfl | with_unfolding_all assumption) ?_ | with_reducible refine p_nkinF (by first | with_unfolding_all rfl | with_unfolding_all assumption) ?_ | with_reducible refine p_T (by with_unfolding_all rfl) ?_ | with_reducible refine p_F (by with_unfolding_all rfl) ?_ | with_reducible refine And.intro (a := List.length _ ≤ sizeLine) szl ?_ | with_reducible refine And.intro (a := List.length _ = _) (by with_unfolding_all rfl) ?_))
  refine fun a ha => ?_
  have hay : a ≠ y := hY2.ne ha
  have hSa : S a = none := by rw [← hO2 a hay]; exact ha
  have hz : 1 ≤ 1 + k1 ∧ 1 + k1 ≤ 4 := by omega
  have hn : 1 ≤ 1 + k2 ∧ 1 + k2 ≤ 4 := by omega
  generalize 1 + k1 = z at hz
  generalize 1 + k2 = n at hn
  (repeat' (first | with_reducible refine p_seq ?_ | with_reducible refine p_next ?_ | with_reducible refine p_var (by with_unfolding_all rfl) ?_ | with_reducible refine p_c ?_ | with_reducible refine p_op ?_ | with_reducible refine p_cb ?_ | with_reducible refine p_call ?_ | with_reducible refine p_cons ?_ | with_reducible refine p_nil ?_ | with_reducible refine p_tup ?_ | with_reducible refine p_lst ?_ | with_reducible refine p_b ?_ | with_reducible refine p_qb ?_ | with_reducible refine p_and ?_ | with_reducible refine p_or ?_ | with_reducible refine p_not ?_ | with_reducible refine p_andV ?_ | with_reducible refine p_orV ?_ | with_reducible refine p_notV ?_ | with_reducible refine p_if ?_ | with_reducible refine p_ifS ?_ | with_reducible refine p_un ?_ | with_reducible refine p_neg ?_ | with_reducible refine p_ret ?_ | with_reducible refine p_retN ?_ | with_reducible refine p_drop ?_ | with_reducible refine p_asg' ?_ | with_reducible refine p_par ?_ | with_reducible refine p_setI ?_ | with_reducible refine p_sl ?_ | with_reducible refine p_noPart ?_ | with_reducible refine p_part ?_ | with_reducible refine p_partI ?_ | with_reducible refine p_kin ?_ | with_reducible refine p_kget ?_ | with_reducible refine p_lm ?_ | with_reducible refine p_for ?_ | with_reducible refine p_seqI ?_ | with_reducible refine p_seqL ?_ | with_reducible refine p_seqT ?_ | with_reducible refine p_rng1 ?_ | with_reducible refine p_rng1I (by unfold rng1; first | decide | (constructor <;> omega)) ?_ | with_reducible refine p_yes ?_ | with_reducible refine p_callK ?_ | with_reducible refine p_lc ?_ | with_reducible refine p_disp fun _ hp0 => ?_ | with_reducible refine p_get2 ?_ | with_reducible refine p_bindM (by with_unfolding_all rfl) ?_ | with_reducible refine p_mulI (by first | decide | omega) (by first | decide | omega) ?_ | with_reducible refine p_mod (by first | decide | omega | assumption) ?_ | with_reducible refine p_sub ?_ | with_reducible refine p_min ?_ | with_reducible refine p_max ?_ | with_reducible refine p_ix0 ?_ | with_reducible refine p_ix0L ?_ | with_reducible refine p_inT (by first | decide +kernel | exact ⟨rfl, rfl⟩ | (simp [flD]; done)) ?_ | with_reducible refine p_notInT (by first | decide +kernel | exact ⟨rfl, rfl⟩ | (simp [flD]; done)) ?_ | with_reducible refine p_fdiv (by first | assumption | decide) ?_ | with_reducible refine p_pow (by unfold CPow; decide) ?_ | with_reducible refine p_lt ?_ | with_reducible refine p_le ?_ | with_reducible refine p_gt ?_ | with_reducible refine p_ge ?_ | with_reducible refine p_eqI ?_ | with_reducible refine p_neI ?_ | with_reducible refine p_eqL (by first | decide +kernel | assumption) (by first | decide +kernel | assumption) ?_ | with_reducible refine p_neL (by first | decide +kernel | assumption) (by first | decide +kernel | assumption) ?_ | with_reducible refine p_eqT (by first | decide +kernel | assumption) (by first | decide +kernel | assumption) ?_ | with_reducible refine p_neT (by first | decide +kernel | assumption) (by first | decide +kernel | assumption) ?_ | with_reducible refine p_eqS (by first | decide +kernel | assumption) (by first | decide +kernel | assumption) ?_ | with_reducible refine p_neS (by first | decide +kernel | assumption) (by first | decide +kernel | assumption) ?_ | with_reducible refine p_isi (by with_unfolding_all rfl) (by decide) ?_ | with_reducible refine p_lmO (by first | assumption | exact sup_same) ?_ | with_reducible refine p_lmE (by first | assumption | exact sup_same) (by with_unfolding_all rfl) (by (first | exact True.intro | exact szl | (with_reducible assumption) | decide | (simp only [List.length_cons, List.length_nil]; first | exact szl | omega) | omega)) ?_ | with_reducible refine p_freeze (by with_unfolding_all rfl) (by first | assumption | exact sup_same) ?_ | with_reducible refine p_dispE (by assumption) (by with_unfolding_all rfl) ?_ | with_reducible refine p_getI (by with_unfolding_all rfl) ?_ | with_reducible refine p_getS (by with_unfolding_all rfl) (by with_unfolding_all rfl) (by first | with_unfolding_all rfl | with_unfolding_all assumption) ?_ | with_reducible refine p_getN (by with_unfolding_all rfl) (by with_unfolding_all rfl) (by first | with_unfolding_all rfl | with_unfolding_all assumption) ?_ | with_reducible refine p_r (by with_unfolding_all rfl) (by (first | exact True.intro | exact szl | (with_reducible assumption) | decide | (simp only [List.length_cons, List.length_nil]; first | exact szl | omega) | omega)) ?_ | with_reducible refine p_rc (by with_unfolding_all rfl) (by (first | exact True.intro | exact szl | (with_reducible assumption) | decide | (simp only [List.length_cons, List.length_nil]; first | exact szl | omega) | omega)) ?_ | with_reducible refine p_ixS (by first | assumption | exact sup_same) (by with_unfolding_all rfl) ?_ | with_reducible refine p_set (by first | assumption | exact sup_same) (by with_unfolding_all rfl) ?_ | with_reducible refine p_onE (by with_unfolding_all rfl) (by (first | exact True.intro | exact szl | (with_reducible assumption) | decide | (simp only [List.length_cons, List.length_nil]; first | exact szl | omega) | omega)) ?_ | with_reducible refine p_kgetS (by first | with_unfolding_all rfl | with_unfolding_all assumption) ?_ | with_reducible refine p_kinT (by first | with_unfolding_all rfl | with_unfolding_all assumption) ?_ | with_reducible refine p_kinF (by first | with_unfolding_all rfl | with_unfolding_all assumption) ?_ | with_reducible refine p_nkinT (by first | with_unfolding_all rfl | with_unfolding_all assumption) ?_ | with_reducible refine p_nkinF (by first | with_unfolding_all rfl | with_unfolding_all assumption) ?_ | with_reducible refine p_T (by with_unfolding_all rfl) ?_ | with_reducible refine p_F (by with_unfolding_all rfl) ?_ | with_reducible refine And.intro (a := List.length _ ≤ sizeLine) szl ?_ | with_reducible refine And.intro (a := List.length _ = _) (by with_unfolding_all rfl) ?_))
  refine for_inv (fun i env S' => ∃ (bs : List (List RV × WV)) (e4 e5 e6 : Option D), env = [some (.ref y), some (.int z), some (.int n), some (.ref a), e4, e5, e6, none] ∧ S' a = some (.lst (bs.map blkD)) ∧ bs.length = i ∧ (∀ b ∈ bs, GenBlk z n b) ∧ Yn ns y (B + 2 + 60 * i) S' ∧ Keep y S S') ⟨[], none, none, none, rfl, sup_same, rfl, by simp, hY2.sup hay, (Keep.of hO2).sup hSa⟩ (fun i d env S3 nx hd ⟨bs, e4, e5, e6, he, hA, hl, hb, hY3, hK⟩ hk => ?_) (fun env S3 ⟨bs, e4, e5, e6, he, hA, hl, hb, hY3, hK⟩ => ?_)
  · obtain ⟨hi, rfl⟩ := upto_get hd
    subst he
    refine ⟨_, rfl, ?_⟩
    (repeat' (first | with_reducible refine p_seq ?_ | with_reducible refine p_next ?_ | with_reducible refine p_var (by with_unfolding_all rfl) ?_ | with_reducible refine p_c ?_ | with_reducible refine p_op ?_ | with_reducible refine p_cb ?_ | with_reducible refine p_call ?_ | with_reducible refine p_cons ?_ | with_reducible refine p_nil ?_ | with_reducible refine p_tup ?_ | with_reducible refine p_lst ?_ | with_reducible refine p_b ?_ | with_reducible refine p_qb ?_ | with_reducible refine p_and ?_ | with_reducible refine p_or ?_ | with_reducible refine p_not ?_ | with_reducible refine p_andV ?_ | with_reducible refine p_orV ?_ | with_reducible refine p_notV ?_ | with_reducible refine p_if ?_ | with_reducible refine p_ifS ?_ | with_reducible refine p_un ?_ | with_reducible refine p_neg ?_ | with_reducible refine p_ret ?_ | with_reducible refine p_retN ?_ | with_reducible refine p_drop ?_ | with_reducible refine p_asg' ?_ | with_reducible refine p_par ?_ | with_reducible refine p_setI ?_ | with_reducible refine p_sl ?_ | with_reducible refine p_noPart ?_ | with_reducible refine p_part ?_ | with_reducible refine p_partI ?_ | with_reducible refine p_kin ?_ | with_reducible refine p_kget ?_ | with_reducible refine p_lm ?_ | with_reducible refine p_for ?_ | with_reducible refine p_seqI ?_ | with_reducible refine p_seqL ?_ | with_reducible refine p_seqT ?_ | with_reducible refine p_rng1 ?_ | with_reducible refine p_rng1I (by unfold rng1; first | decide | (constructor <;> omega)) ?_ | with_reducible refine p_yes ?_ | with_reducible refine p_callK ?_ | with_reducible refine p_lc ?_ | with_reducible refine p_disp fun _ hp0 => ?_ | with_reducible refine p_get2 ?_ | with_reducible refine p_bindM (by with_unfolding_all rfl) ?_ | with_reducible refine p_mulI (by first | decide | omega) (by first | decide | omega) ?_ | with_reducible refine p_mod (by first | decide | omega | assumption) ?_ | with_reducible refine p_sub ?_ | with_reducible refine p_min ?_ | with_reducible refine p_max ?_ | with_reducible refine p_ix0 ?_ | with_reducible refine p_ix0L ?_ | with_reducible refine p_inT (by first | decide +kernel | exact ⟨rfl, rfl⟩ | (simp [flD]; done)) ?_ | with_reducible refine p_notInT (by first | decide +kernel | exact ⟨rfl, rfl⟩ | (simp [flD]; done)) ?_ | with_reducible refine p_fdiv (by first | assumption | decide) ?_ | with_reducible refine p_pow (by unfold CPow; decide) ?_ | with_reducible refine p_lt ?_ | with_reducible refine p_le ?_ | with_reducible refine p_gt ?_ | with_reducible refine p_ge ?_ | with_reducible refine p_eqI ?_ | with_reducible refine p_neI ?_ | with_reducible refine p_eqL (by first | decide +kernel | assumption) (by first | decide +kernel | assumption) ?_ | with_reducible refine p_neL (by first | decide +kernel | assumption) (by first | decide +kernel | assumption) ?_ | with_reducible refine p_eqT (by first | decide +kernel | assumption) (by first | decide +kernel | assumption) ?_ | with_reducible refine p_neT (by first | decide +kernel | assumption) (by first | decide +kernel | assumption) ?_ | with_reducible refine p_eqS (by first | decide +kernel | assumption) (by first | decide +kernel | assumption) ?_ | with_reducible refine p_neS (by first | decide +kernel | assumption) (by first | decide +kernel | assumption) ?_ | with_reducible refine p_isi (by with_unfolding_all rfl) (by decide) ?_ | with_reducible refine p_lmO (by first | assumption | exact sup_same) ?_ | with_reducible refine p_lmE (by first | assumption | exact sup_same) (by with_unfolding_all rfl) (by (first | exact True.intro | exact szl | (with_reducible assumption) | decide | (simp only [List.length_cons, List.length_nil]; first | exact szl | omega) | omega)) ?_ | with_reducible refine p_freeze (by with_unfolding_all rfl) (by first | assumption | exact sup_same) ?_ | with_reducible refine p_dispE (by assumption) (by with_unfolding_all rfl) ?_ | with_reducible refine p_getI (by with_unfolding_all rfl) ?_ | with_reducible refine p_getS (by with_unfolding_all rfl) (by with_unfolding_all rfl) (by first | with_unfolding_all rfl | with_unfolding_all assumption) ?_ | with_reducible refine p_getN (by with_unfolding_all rfl) (by with_unfolding_all rfl) (by first | with_unfolding_all rfl | with_unfolding_all assumption) ?_ | with_reducible refine p_r (by with_unfolding_all rfl) (by (first | exact True.intro | exact szl | (with_reducible assumption) | decide | (simp only [List.length_cons, List.length_nil]; first | exact szl | omega) | omega)) ?_ | with_reducible refine p_rc (by with_unfolding_all rfl) (by (first | exact True.intro | exact szl | (with_reducible assumption) | decide | (simp only [List.length_cons, List.length_nil]; first | exact szl | omega) | omega)) ?_ | with_reducible refine p_ixS (by first | assumption | exact sup_same) (by with_unfolding_all rfl) ?_ | with_reducible refine p_set (by first | assumption | exact sup_same) (by with_unfolding_all rfl) ?_ | with_reducible refine p_onE (by with_unfolding_all rfl) (by (first | exact True.intro | exact szl | (with_reducible assumption) | decide | (simp only [List.length_cons, List.length_nil]; first | exact szl | omega) | omega)) ?_ | with_reducible refine p_kgetS (by first | with_unfolding_all rfl | with_unfolding_all assumption) ?_ | with_reducible refine p_kinT (by first | with_unfolding_all rfl | with_unfolding_all assumption) ?_ | with_reducible refine p_kinF (by first | with_unfolding_all rfl | with_unfolding_all assumption) ?_ | with_reducible refine p_nkinT (by first | with_unfolding_all rfl | with_unfolding_all assumption) ?_ | with_reducible refine p_nkinF (by first | with_unfolding_all rfl | with_unfolding_all assumption) ?_ | with_reducible refine p_T (by with_unfolding_all rfl) ?_ | with_reducible refine p_F (by with_unfolding_all rfl) ?_ | with_reducible refine And.intro (a := List.length _ ≤ sizeLine) szl ?_ | with_reducible refine And.intro (a := List.length _ = _) (by with_unfolding_all rfl) ?_))
    refine spin (S0 := S3) hns hY3 Only.refl (by decide) (by omega) fun k S4 c0 c1 hY4 hO4 => ?_
    (repeat' (first | with_reducible refine p_seq ?_ | with_reducible refine p_next ?_ | with_reducible refine p_var (by with_unfolding_all rfl) ?_ | with_reducible refine p_c ?_ | with_reducible refine p_op ?_ | with_reducible refine p_cb ?_ | with_reducible refine p_call ?_ | with_reducible refine p_cons ?_ | with_reducible refine p_nil ?_ | with_reducible refine p_tup ?_ | with_reducible refine p_lst ?_ | with_reducible refine p_b ?_ | with_reducible refine p_qb ?_ | with_reducible refine p_and ?_ | with_reducible refine p_or ?_ | with_reducible refine p_not ?_ | with_reducible refine p_andV ?_ | with_reducible refine p_orV ?_ | with_reducible refine p_notV ?_ | with_reducible refine p_if ?_ | with_reducible refine p_ifS ?_ | with_reducible refine p_un ?_ | with_reducible refine p_neg ?_ | with_reducible refine p_ret ?_ | with_reducible refine p_retN ?_ | with_reducible refine p_drop ?_ | with_reducible refine p_asg' ?_ | with_reducible refine p_par ?_ | with_reducible refine p_setI ?_ | with_reducible refine p_sl ?_ | with_reducible refine p_noPart ?_ | with_reducible refine p_part ?_ | with_reducible refine p_partI ?_ | with_reducible refine p_kin ?_ | with_reducible refine p_kget ?_ | with_reducible refine p_lm ?_ | with_reducible refine p_for ?_ | with_reducible refine p_seqI ?_ | with_reducible refine p_seqL ?_ | with_reducible refine p_seqT ?_ | with_reducible refine p_rng1 ?_ | with_reducible refine p_rng1I (by unfold rng1; first | decide | (constructor <;> omega)) ?_ | with_reducible refine p_yes ?_ | with_reducible refine p_callK ?_ | with_reducible refine p_lc ?_ | with_reducible refine p_disp fun _ hp0 => ?_ | with_reducible refine p_get2 ?_ | with_reducible refine p_bindM (by with_unfolding_all rfl) ?_ | with_reducible refine p_mulI (by first | decide | omega) (by first | decide | omega) ?_ | with_reducible refine p_mod (by first | decide | omega | assumption) ?_ | with_reducible refine p_sub ?_ | with_reducible refine p_min ?_ | with_reducible refine p_max ?_ | with_reducible refine p_ix0 ?_ | with_reducible refine p_ix0L ?_ | with_reducible refine p_inT (by first | decide +kernel | exact ⟨rfl, rfl⟩ | (simp [flD]; done)) ?_ | with_reducible refine p_notInT (by first | decide +kernel | exact ⟨rfl, rfl⟩ | (simp [flD]; done)) ?_ | with_reducible refine p_fdiv (by first | assumption | decide) ?_ | with_reducible refine p_pow (by unfold CPow; decide) ?_ | with_reducible refine p_lt ?_ | with_reducible refine p_le ?_ | with_reducible refine p_gt ?_ | with_reducible refine p_ge ?_ | with_reducible refine p_eqI ?_ | with_reducible refine p_neI ?_ | with_reducible refine p_eqL (by first | decide +kernel | assumption) (by first | decide +kernel | assumption) ?_ | with_reducible refine p_neL (by first | decide +kernel | assumption) (by first | decide +kernel | assumption) ?_ | with_reducible refine p_eqT (by first | decide +kernel | assumption) (by first | decide +kernel | assumption) ?_ | with_reducible refine p_neT (by first | decide +kernel | assumption) (by first | decide +kernel | assumption) ?_ | with_reducible refine p_eqS (by first | decide +kernel | assumption) (by first | decide +kernel | assumption) ?_ | with_reducible refine p_neS (by first | decide +kernel | assumption) (by first | decide +kernel | assumption) ?_ | with_reducible refine p_isi (by with_unfolding_all rfl) (by decide) ?_ | with_reducible refine p_lmO (by first | assumption | exact sup_same) ?_ | with_reducible refine p_lmE (by first | assumption | exact sup_same) (by with_unfolding_all rfl) (by (first | exact True.intro | exact szl | (with_reducible assumption) | decide | (simp only [List.length_cons, List.length_nil]; first | exact szl | omega) | omega)) ?_ | with_reducible refine p_freeze (by with_unfolding_all rfl) (by first | assumption | exact sup_same) ?_ | with_reducible refine p_dispE (by assumption) (by with_unfolding_all rfl) ?_ | with_reducible refine p_getI (by with_unfolding_all rfl) ?_ | with_reducible refine p_getS (by with_unfolding_all rfl) (by with_unfolding_all rfl) (by first | with_unfolding_all rfl | with_unfolding_all assumption) ?_ | with_reducible refine p_getN (by with_unfolding_all rfl) (by with_unfolding_all rfl) (by first | with_unfolding_all rfl | with_unfolding_all assumption) ?_ | with_reducible refine p_r (by with_unfolding_all rfl) (by (first | exact True.intro | exact szl | (with_reducible assumption) | decide | (simp only [List.length_cons, List.length_nil]; first | exact szl | omega) | omega)) ?_ | with_reducible refine p_rc (by with_unfolding_all rfl) (by (first | exact True.intro | exact szl | (with_reducible assumption) | decide | (simp only [List.length_cons, List.length_nil]; first | exact szl | omega) | omega)) ?_ | with_reducible refine p_ixS (by first | assumption | exact sup_same) (by with_unfolding_all rfl) ?_ | with_reducible refine p_set (by first | assumption | exact sup_same) (by with_unfolding_all rfl) ?_ | with_reducible refine p_onE (by with_unfolding_all rfl) (by (first | exact True.intro | exact szl | (with_reducible assumption) | decide | (simp only [List.length_cons, List.length_nil]; first | exact szl | omega) | omega)) ?_ | with_reducible refine p_kgetS (by first | with_unfolding_all rfl | with_unfolding_all assumption) ?_ | with_reducible refine p_kinT (by first | with_unfolding_all rfl | with_unfolding_all assumption) ?_ | with_reducible refine p_kinF (by first | with_unfolding_all rfl | with_unfolding_all assumption) ?_ | with_reducible refine p_nkinT (by first | with_unfolding_all rfl | with_unfolding_all assumption) ?_ | with_reducible refine p_nkinF (by first | with_unfolding_all rfl | with_unfolding_all assumption) ?_ | with_reducible refine p_T (by with_unfolding_all rfl) ?_ | with_reducible refine p_F (by with_unfolding_all rfl) ?_ | with_reducible refine And.intro (a := List.length _ ≤ sizeLine) szl ?_ | with_reducible refine And.intro (a := List.length _ = _) (by with_unfolding_all rfl) ?_))
    refine fun p hp => ?_
    have hpy : p ≠ y := hY4.ne hp
    have hA4 : S4 a = some (.lst (bs.map blkD)) := by rw [hO4 a hay]; exact hA
    have hpa : p ≠ a := fun e => by rw [e, hA4] at hp; cases hp
    have hSp : S p = none := by
      cases e : S p with
      | none => rfl
      | some o => have := hK p o hpy e; rw [← hO4 p hpy, hp] at this; cases this
    refine lcGo_inv (fun j acc S' => (∃ rs : List RV, acc = rs.map RV.d ∧ rs.length = j ∧ ∀ r ∈ rs, GenRow z n r) ∧ S' a = some (.lst (bs.map blkD)) ∧ Yn ns y (B + 2 + 60 * i + 1 + 10 * j) S' ∧ Keep y S S') (upto 0 k.toNat) (fun j x acc S5 kk hx ⟨⟨rs, g1, g2, g3⟩, g4, g5, g6⟩ hs hkk _ => ?_) (fun acc S5 ⟨⟨rs, g1, g2, g3⟩, g4, g5, g6⟩ hs => ?_) _ _ ⟨⟨[], rfl, rfl, by simp⟩, by rw [sup_ne (Ne.symm hpa)]; exact hA4, hY4.sup hpy, ((hK.trans (Keep.of hO4))).sup hSp⟩ sup_same
    · obtain ⟨hj, rfl⟩ := upto_get hx
      refine lc_step rfl ?_
      (repeat' (first | with_reducible refine p_seq ?_ | with_reducible refine p_next ?_ | with_reducible refine p_var (by with_unfolding_all rfl) ?_ | with_reducible refine p_c ?_ | with_reducible refine p_op ?_ | with_reducible refine p_cb ?_ | with_reducible refine p_call ?_ | with_reducible refine p_cons ?_ | with_reducible refine p_nil ?_ | with_reducible refine p_tup ?_ | with_reducible refine p_lst ?_ | with_reducible refine p_b ?_ | with_reducible refine p_qb ?_ | with_reducible refine p_and ?_ | with_reducible refine p_or ?_ | with_reducible refine p_not ?_ | with_reducible refine p_andV ?_ | with_reducible refine p_orV ?_ | with_reducible refine p_notV ?_ | with_reducible refine p_if ?_ | with_reducible refine p_ifS ?_ | with_reducible refine p_un ?_ | with_reducible refine p_neg ?_ | with_reducible refine p_ret ?_ | with_reducible refine p_retN ?_ | with_reducible refine p_drop ?_ | with_reducible refine p_asg' ?_ | with_reducible refine p_par ?_ | with_reducible refine p_setI ?_ | with_reducible refine p_sl ?_ | with_reducible refine p_noPart ?_ | with_reducible refine p_part ?_ | with_reducible refine p_partI ?_ | with_reducible refine p_kin ?_ | with_reducible refine p_kget ?_ | with_reducible refine p_lm ?_ | with_reducible refine p_for ?_ | with_reducible refine p_seqI ?_ | with_reducible refine p_seqL ?_ | with_reducible refine p_seqT ?_ | with_reducible refine p_rng1 ?_ | with_reducible refine p_rng1I (by unfold rng1; first | decide | (constructor <;> omega)) ?_ | with_reducible refine p_yes ?_ | with_reducible refine p_callK ?_ | with_reducible refine p_lc ?_ | with_reducible refine p_disp fun _ hp0 => ?_ | with_reducible refine p_get2 ?_ | with_reducible refine p_bindM (by with_unfolding_all rfl) ?_ | with_reducible refine p_mulI (by first | decide | omega) (by first | decide | omega) ?_ | with_reducible refine p_mod (by first | decide | omega | assumption) ?_ | with_reducible refine p_sub ?_ | with_reducible refine p_min ?_ | with_reducible refine p_max ?_ | with_reducible refine p_ix0 ?_ | with_reducible refine p_ix0L ?_ | with_reducible refine p_inT (by first | decide +kernel | exact ⟨rfl, rfl⟩ | (simp [flD]; done)) ?_ | with_reducible refine p_notInT (by first | decide +kernel | exact ⟨rfl, rfl⟩ | (simp [flD]; done)) ?_ | with_reducible refine p_fdiv (by first | assumption | decide) ?_ | with_reducible refine p_pow (by unfold CPow; decide) ?_ | with_reducible refine p_lt ?_ | with_reducible refine p_le ?_ | with_reducible refine p_gt ?_ | with_reducible refine p_ge ?_ | with_reducible refine p_eqI ?_ | with_reducible refine p_neI ?_ | with_reducible refine p_eqL (by first | decide +kernel | assumption) (by first | decide +kernel | assumption) ?_ | with_reducible refine p_neL (by first | decide +kernel | assumption) (by first | decide +kernel | assumption) ?_ | with_reducible refine p_eqT (by first | decide +kernel | assumption) (by first | decide +kernel | assumption) ?_ | with_reducible refine p_neT (by first | decide +kernel | assumption) (by first | decide +kernel | assumption) ?_ | with_reducible refine p_eqS (by first | decide +kernel | assumption) (by first | decide +kernel | assumption) ?_ | with_reducible refine p_neS (by first | decide +kernel | assumption) (by first | decide +kernel | assumption) ?_ | with_reducible refine p_isi (by with_unfolding_all rfl) (by decide) ?_ | with_reducible refine p_lmO (by first | assumption | exact sup_same) ?_ | with_reducible refine p_lmE (by first | assumption | exact sup_same) (by with_unfolding_all rfl) (by (first | exact True.intro | exact szl | (with_reducible assumption) | decide | (simp only [List.length_cons, List.length_nil]; first | exact szl | omega) | omega)) ?_ | with_reducible refine p_freeze (by with_unfolding_all rfl) (by first | assumption | exact sup_same) ?_ | with_reducible refine p_dispE (by assumption) (by with_unfolding_all rfl) ?_ | with_reducible refine p_getI (by with_unfolding_all rfl) ?_ | with_reducible refine p_getS (by with_unfolding_all rfl) (by with_unfolding_all rfl) (by first | with_unfolding_all rfl | with_unfolding_all assumption) ?_ | with_reducible refine p_getN (by with_unfolding_all rfl) (by with_unfolding_all rfl) (by first | with_unfolding_all rfl | with_unfolding_all assumption) ?_ | with_reducible refine p_r (by with_unfolding_all rfl) (by (first | exact True.intro | exact szl | (with_reducible assumption) | decide | (simp only [List.length_cons, List.length_nil]; first | exact szl | omega) | omega)) ?_ | with_reducible refine p_rc (by with_unfolding_all rfl) (by (first | exact True.intro | exact szl | (with_reducible assumption) | decide | (simp only [List.length_cons, List.length_nil]; first | exact szl | omega) | omega)) ?_ | with_reducible refine p_ixS (by first | assumption | exact sup_same) (by with_unfolding_all rfl) ?_ | with_reducible refine p_set (by first | assumption | exact sup_same) (by with_unfolding_all rfl) ?_ | with_reducible refine p_onE (by with_unfolding_all rfl) (by (first | exact True.intro | exact szl | (with_reducible assumption) | decide | (simp only [List.length_cons, List.length_nil]; first | exact szl | omega) | omega)) ?_ | with_reducible refine p_kgetS (by first | with_unfolding_all rfl | with_unfolding_all assumption) ?_ | with_reducible refine p_kinT (by first | with_unfolding_all rfl | with_unfolding_all assumption) ?_ | with_reducible refine p_kinF (by first | with_unfolding_all rfl | with_unfolding_all assumption) ?_ | with_reducible refine p_nkinT (by first | with_unfolding_all rfl | with_unfolding_all assumption) ?_ | with_reducible refine p_nkinF (by first | with_unfolding_all rfl | with_unfolding_all assumption) ?_ | with_reducible refine p_T (by with_unfolding_all rfl) ?_ | with_reducible refine p_F (by with_unfolding_all rfl) ?_ | with_reducible refine And.intro (a := List.length _ ≤ sizeLine) szl ?_ | with_reducible refine And.intro (a := List.length _ = _) (by with_unfolding_all rfl) ?_ | refine row (S0 := S5) hns g5 Only.refl ⟨by omega, by omega⟩ ⟨by omega, by omega⟩ (by omega) fun r S6 hr hY6 hO6 => ?_))
      refine hkk _ _ (by rw [hO6 p hpy]; exact hs) (szl (by rw [g1, List.length_map]; omega)) ⟨⟨rs ++ [r], by rw [g1]; simp, by simp [g2], fun r' hr' => ?_⟩, by rw [sup_ne (Ne.symm hpa), hO6 a hay]; exact g4, (hY6.sup hpy).up (by omega), (g6.trans (Keep.of hO6)).sup hSp⟩
      rcases List.mem_append.mp hr' with h | h
      · exact g3 r' h
      · rw [List.mem_singleton.mp h]; exact hr
    · subst g1
      have hl5 : rs.length ≤ 5 := by rw [g2]; unfold upto; simp; omega
      have hj : (upto 0 k.toNat).length ≤ 5 := by unfold upto; simp; omega
      have hY7 : Yn ns y (B + 2 + 60 * i + 51) (sdel S5 p) := (g5.del hpy).up (by omega)
      have hA7 : sdel S5 p a = some (.lst (bs.map blkD)) := by rw [sdel_ne (Ne.symm hpa)]; exact g4
      have hK7 : Keep y S (sdel S5 p) := g6.del hSp
      generalize sdel S5 p = S7 at hY7 hA7 hK7
      (repeat' (first | with_reducible refine p_seq ?_ | with_reducible refine p_next ?_ | with_reducible refine p_var (by with_unfolding_all rfl) ?_ | with_reducible refine p_c ?_ | with_reducible refine p_op ?_ | with_reducible refine p_cb ?_ | with_reducible refine p_call ?_ | with_reducible refine p_cons ?_ | with_reducible refine p_nil ?_ | with_reducible refine p_tup ?_ | with_reducible refine p_lst ?_ | with_reducible refine p_b ?_ | with_reducible refine p_qb ?_ | with_reducible refine p_and ?_ | with_reducible refine p_or ?_ | with_reducible refine p_not ?_ | with_reducible refine p_andV ?_ | with_reducible refine p_orV ?_ | with_reducible refine p_notV ?_ | with_reducible refine p_if ?_ | with_reducible refine p_ifS ?_ | with_reducible refine p_un ?_ | with_reducible refine p_neg ?_ | with_reducible refine p_ret ?_ | with_reducible refine p_retN ?_ | with_reducible refine p_drop ?_ | with_reducible refine p_asg' ?_ | with_reducible refine p_par ?_ | with_reducible refine p_setI ?_ | with_reducible refine p_sl ?_ | with_reducible refine p_noPart ?_ | with_reducible refine p_part ?_ | with_reducible refine p_partI ?_ | with_reducible refine p_kin ?_ | with_reducible refine p_kget ?_ | with_reducible refine p_lm ?_ | with_reducible refine p_for ?_ | with_reducible refine p_seqI ?_ | with_reducible refine p_seqL ?_ | with_reducible refine p_seqT ?_ | with_reducible refine p_rng1 ?_ | with_reducible refine p_rng1I (by unfold rng1; first | decide | (constructor <;> omega)) ?_ | with_reducible refine p_yes ?_ | with_reducible refine p_callK ?_ | with_reducible refine p_lc ?_ | with_reducible refine p_disp fun _ hp0 => ?_ | with_reducible refine p_get2 ?_ | with_reducible refine p_bindM (by with_unfolding_all rfl) ?_ | with_reducible refine p_mulI (by first | decide | omega) (by first | decide | omega) ?_ | with_reducible refine p_mod (by first | decide | omega | assumption) ?_ | with_reducible refine p_sub ?_ | with_reducible refine p_min ?_ | with_reducible refine p_max ?_ | with_reducible refine p_ix0 ?_ | with_reducible refine p_ix0L ?_ | with_reducible refine p_inT (by first | decide +kernel | exact ⟨rfl, rfl⟩ | (simp [flD]; done)) ?_ | with_reducible refine p_notInT (by first | decide +kernel | exact ⟨rfl, rfl⟩ | (simp [flD]; done)) ?_ | with_reducible refine p_fdiv (by first | assumption | decide) ?_ | with_reducible refine p_pow (by unfold CPow; decide) ?_ | with_reducible refine p_lt ?_ | with_reducible refine p_le ?_ | with_reducible refine p_gt ?_ | with_reducible refine p_ge ?_ | with_reducible refine p_eqI ?_ | with_reducible refine p_neI ?_ | with_reducible refine p_eqL (by first | decide +kernel | assumption) (by first | decide +kernel | assumption) ?_ | with_reducible refine p_neL (by first | decide +kernel | assumption) (by first | decide +kernel | assumption) ?_ | with_reducible refine p_eqT (by first | decide +kernel | assumption) (by first | decide +kernel | assumption) ?_ | with_reducible refine p_neT (by first | decide +kernel | assumption) (by first | decide +kernel | assumption) ?_ | with_reducible refine p_eqS (by first | decide +kernel | assumption) (by first | decide +kernel | assumption) ?_ | with_reducible refine p_neS (by first | decide +kernel | assumption) (by first | decide +kernel | assumption) ?_ | with_reducible refine p_isi (by with_unfolding_all rfl) (by decide) ?_ | with_reducible refine p_lmO (by first | assumption | exact sup_same) ?_ | with_reducible refine p_lmE (by first | assumption | exact sup_same) (by with_unfolding_all rfl) (by (first | exact True.intro | exact szl | (with_reducible assumption) | decide | (simp only [List.length_cons, List.length_nil]; first | exact szl | omega) | omega)) ?_ | with_reducible refine p_freeze (by with_unfolding_all rfl) (by first | assumption | exact sup_same) ?_ | with_reducible refine p_dispE (by assumption) (by with_unfolding_all rfl) ?_ | with_reducible refine p_getI (by with_unfolding_all rfl) ?_ | with_reducible refine p_getS (by with_unfolding_all rfl) (by with_unfolding_all rfl) (by first | with_unfolding_all rfl | with_unfolding_all assumption) ?_ | with_reducible refine p_getN (by with_unfolding_all rfl) (by with_unfolding_all rfl) (by first | with_unfolding_all rfl | with_unfolding_all assumption) ?_ | with_reducible refine p_r (by with_unfolding_all rfl) (by (first | exact True.intro | exact szl | (with_reducible assumption) | decide | (simp only [List.length_cons, List.length_nil]; first | exact szl | omega) | omega)) ?_ | with_reducible refine p_rc (by with_unfolding_all rfl) (by (first | exact True.intro | exact szl | (with_reducible assumption) | decide | (simp only [List.length_cons, List.length_nil]; first | exact szl | omega) | omega)) ?_ | with_reducible refine p_ixS (by first | assumption | exact sup_same) (by with_unfolding_all rfl) ?_ | with_reducible refine p_set (by first | assumption | exact sup_same) (by with_unfolding_all rfl) ?_ | with_reducible refine p_onE (by with_unfolding_all rfl) (by (first | exact True.intro | exact szl | (with_reducible assumption) | decide | (simp only [List.length_cons, List.length_nil]; first | exact szl | omega) | omega)) ?_ | with_reducible refine p_kgetS (by first | with_unfolding_all rfl | with_unfolding_all assumption) ?_ | with_reducible refine p_kinT (by first | with_unfolding_all rfl | with_unfolding_all assumption) ?_ | with_reducible refine p_kinF (by first | with_unfolding_all rfl | with_unfolding_all assumption) ?_ | with_reducible refine p_nkinT (by first | with_unfolding_all rfl | with_unfolding_all assumption) ?_ | with_reducible refine p_nkinF (by first | with_unfolding_all rfl | with_unfolding_all assumption) ?_ | with_reducible refine p_T (by with_unfolding_all rfl) ?_ | with_reducible refine p_F (by with_unfolding_all rfl) ?_ | with_reducible refine And.intro (a := List.length _ ≤ sizeLine) szl ?_ | with_reducible refine And.intro (a := List.length _ = _) (by with_unfolding_all rfl) ?_))
      refine spin (S0 := S7) hns hY7 Only.refl ⟨by omega, by omega⟩ (by omega) fun w S8 w0 w1 hY8 hO8 => ?_
      have hA8 : S8 a = some (.lst (bs.map blkD)) := by rw [hO8 a hay]; exact hA7
      (repeat' (first | with_reducible refine p_seq ?_ | with_reducible refine p_next ?_ | with_reducible refine p_var (by with_unfolding_all rfl) ?_ | with_reducible refine p_c ?_ | with_reducible refine p_op ?_ | with_reducible refine p_cb ?_ | with_reducible refine p_call ?_ | with_reducible refine p_cons ?_ | with_reducible refine p_nil ?_ | with_reducible refine p_tup ?_ | with_reducible refine p_lst ?_ | with_reducible refine p_b ?_ | with_reducible refine p_qb ?_ | with_reducible refine p_and ?_ | with_reducible refine p_or ?_ | with_reducible refine p_not ?_ | with_reducible refine p_andV ?_ | with_reducible refine p_orV ?_ | with_reducible refine p_notV ?_ | with_reducible refine p_if ?_ | with_reducible refine p_ifS ?_ | with_reducible refine p_un ?_ | with_reducible refine p_neg ?_ | with_reducible refine p_ret ?_ | with_reducible refine p_retN ?_ | with_reducible refine p_drop ?_ | with_reducible refine p_asg' ?_ | with_reducible refine p_par ?_ | with_reducible refine p_setI ?_ | with_reducible refine p_sl ?_ | with_reducible refine p_noPart ?_ | with_reducible refine p_part ?_ | with_reducible refine p_partI ?_ | with_reducible refine p_kin ?_ | with_reducible refine p_kget ?_ | with_reducible refine p_lm ?_ | with_reducible refine p_for ?_ | with_reducible refine p_seqI ?_ | with_reducible refine p_seqL ?_ | with_reducible refine p_seqT ?_ | with_reducible refine p_rng1 ?_ | with_reducible refine p_rng1I (by unfold rng1; first | decide | (constructor <;> omega)) ?_ | with_reducible refine p_yes ?_ | with_reducible refine p_callK ?_ | with_reducible refine p_lc ?_ | with_reducible refine p_disp fun _ hp0 => ?_ | with_reducible refine p_get2 ?_ | with_reducible refine p_bindM (by with_unfolding_all rfl) ?_ | with_reducible refine p_mulI (by first | decide | omega) (by first | decide | omega) ?_ | with_reducible refine p_mod (by first | decide | omega | assumption) ?_ | with_reducible refine p_sub ?_ | with_reducible refine p_min ?_ | with_reducible refine p_max ?_ | with_reducible refine p_ix0 ?_ | with_reducible refine p_ix0L ?_ | with_reducible refine p_inT (by first | decide +kernel | exact ⟨rfl, rfl⟩ | (simp [flD]; done)) ?_ | with_reducible refine p_notInT (by first | decide +kernel | exact ⟨rfl, rfl⟩ | (simp [flD]; done)) ?_ | with_reducible refine p_fdiv (by first | assumption | decide) ?_ | with_reducible refine p_pow (by unfold CPow; decide) ?_ | with_reducible refine p_lt ?_ | with_reducible refine p_le ?_ | with_reducible refine p_gt ?_ | with_reducible refine p_ge ?_ | with_reducible refine p_eqI ?_ | with_reducible refine p_neI ?_ | with_reducible refine p_eqL (by first | decide +kernel | assumption) (by first | decide +kernel | assumption) ?_ | with_reducible refine p_neL (by first | decide +kernel | assumption) (by first | decide +kernel | assumption) ?_ | with_reducible refine p_eqT (by first | decide +kernel | assumption) (by first | decide +kernel | assumption) ?_ | with_reducible refine p_neT (by first | decide +kernel | assumption) (by first | decide +kernel | assumption) ?_ | with_reducible refine p_eqS (by first | decide +kernel | assumption) (by first | decide +kernel | assumption) ?_ | with_reducible refine p_neS (by first | decide +kernel | assumption) (by first | decide +kernel | assumption) ?_ | with_reducible refine p_isi (by with_unfolding_all rfl) (by decide) ?_ | with_reducible refine p_lmO (by first | assumption | exact sup_same) ?_ | with_reducible refine p_lmE (by first | assumption | exact sup_same) (by with_unfolding_all rfl) (by (first | exact True.intro | exact szl | (with_reducible assumption) | decide | (simp only [List.length_cons, List.length_nil]; first | exact szl | omega) | omega)) ?_ | with_reducible refine p_freeze (by with_unfolding_all rfl) (by first | assumption | exact sup_same) ?_ | with_reducible refine p_dispE (by assumption) (by with_unfolding_all rfl) ?_ | with_reducible refine p_getI (by with_unfolding_all rfl) ?_ | with_reducible refine p_getS (by with_unfolding_all rfl) (by with_unfolding_all rfl) (by first | with_unfolding_all rfl | with_unfolding_all assumption) ?_ | with_reducible refine p_getN (by with_unfolding_all rfl) (by with_unfolding_all rfl) (by first | with_unfolding_all rfl | with_unfolding_all assumption) ?_ | with_reducible refine p_r (by with_unfolding_all rfl) (by (first | exact True.intro | exact szl | (with_reducible assumption) | decide | (simp only [List.length_cons, List.length_nil]; first | exact szl | omega) | omega)) ?_ | with_reducible refine p_rc (by with_unfolding_all rfl) (by (first | exact True.intro | exact szl | (with_reducible assumption) | decide | (simp only [List.length_cons, List.length_nil]; first | exact szl | omega) | omega)) ?_ | with_reducible refine p_ixS (by first | assumption | exact sup_same) (by with_unfolding_all rfl) ?_ | with_reducible refine p_set (by first | assumption | exact sup_same) (by with_unfolding_all rfl) ?_ | with_reducible refine p_onE (by with_unfolding_all rfl) (by (first | exact True.intro | exact szl | (with_reducible assumption) | decide | (simp only [List.length_cons, List.length_nil]; first | exact szl | omega) | omega)) ?_ | with_reducible refine p_kgetS (by first | with_unfolding_all rfl | with_unfolding_all assumption) ?_ | with_reducible refine p_kinT (by first | with_unfolding_all rfl | with_unfolding_all assumption) ?_ | with_reducible refine p_kinF (by first | with_unfolding_all rfl | with_unfolding_all assumption) ?_ | with_reducible refine p_nkinT (by first | with_unfolding_all rfl | with_unfolding_all assumption) ?_ | with_reducible refine p_nkinF (by first | with_unfolding_all rfl | with_unfolding_all assumption) ?_ | with_reducible refine p_T (by with_unfolding_all rfl) ?_ | with_reducible refine p_F (by with_unfolding_all rfl) ?_ | with_reducible refine And.intro (a := List.length _ ≤ sizeLine) szl ?_ | with_reducible refine And.intro (a := List.length _ = _) (by with_unfolding_all rfl) ?_))
      refine spin (S0 := S8) hns hY8 Only.refl ⟨by omega, by omega⟩ (by omega) fun v S9 v0 v1 hY9 hO9 => ?_
      have hA9 : S9 a = some (.lst (bs.map blkD)) := by rw [hO9 a hay]; exact hA8
      refine p_ixE v0 (by simp only [List.length_cons, List.length_nil]; omega) fun d hd => ?_
      have hw : ∃ w : WV, d = w.d ∧ GenWay n w := by
        simp only [List.mem_cons, List.not_mem_nil, or_false] at hd
        rcases hd with rfl | rfl | rfl | rfl
        · exact ⟨.go _, rfl, by split <;> omega, by split <;> omega⟩
        · exact ⟨.go _, rfl, by omega, by omega⟩
        · exact ⟨.stop, rfl, trivial⟩
        · exact ⟨.stop, rfl, trivial⟩
      obtain ⟨wv, rfl, hwv⟩ := hw
      (repeat' (first | with_reducible refine p_seq ?_ | with_reducible refine p_next ?_ | with_reducible refine p_var (by with_unfolding_all rfl) ?_ | with_reducible refine p_c ?_ | with_reducible refine p_op ?_ | with_reducible refine p_cb ?_ | with_reducible refine p_call ?_ | with_reducible refine p_cons ?_ | with_reducible refine p_nil ?_ | with_reducible refine p_tup ?_ | with_reducible refine p_lst ?_ | with_reducible refine p_b ?_ | with_reducible refine p_qb ?_ | with_reducible refine p_and ?_ | with_reducible refine p_or ?_ | with_reducible refine p_not ?_ | with_reducible refine p_andV ?_ | with_reducible refine p_orV ?_ | with_reducible refine p_notV ?_ | with_reducible refine p_if ?_ | with_reducible refine p_ifS ?_ | with_reducible refine p_un ?_ | with_reducible refine p_neg ?_ | with_reducible refine p_ret ?_ | with_reducible refine p_retN ?_ | with_reducible refine p_drop ?_ | with_reducible refine p_asg' ?_ | with_reducible refine p_par ?_ | with_reducible refine p_setI ?_ | with_reducible refine p_sl ?_ | with_reducible refine p_noPart ?_ | with_reducible refine p_part ?_ | with_reducible refine p_partI ?_ | with_reducible refine p_kin ?_ | with_reducible refine p_kget ?_ | with_reducible refine p_lm ?_ | with_reducible refine p_for ?_ | with_reducible refine p_seqI ?_ | with_reducible refine p_seqL ?_ | with_reducible refine p_seqT ?_ | with_reducible refine p_rng1 ?_ | with_reducible refine p_rng1I (by unfold rng1; first | decide | (constructor <;> omega)) ?_ | with_reducible refine p_yes ?_ | with_reducible refine p_callK ?_ | with_reducible refine p_lc ?_ | with_reducible refine p_disp fun _ hp0 => ?_ | with_reducible refine p_get2 ?_ | with_reducible refine p_bindM (by with_unfolding_all rfl) ?_ | with_reducible refine p_mulI (by first | decide | omega) (by first | decide | omega) ?_ | with_reducible refine p_mod (by first | decide | omega | assumption) ?_ | with_reducible refine p_sub ?_ | with_reducible refine p_min ?_ | with_reducible refine p_max ?_ | with_reducible refine p_ix0 ?_ | with_reducible refine p_ix0L ?_ | with_reducible refine p_inT (by first | decide +kernel | exact ⟨rfl, rfl⟩ | (simp [flD]; done)) ?_ | with_reducible refine p_notInT (by first | decide +kernel | exact ⟨rfl, rfl⟩ | (simp [flD]; done)) ?_ | with_reducible refine p_fdiv (by first | assumption | decide) ?_ | with_reducible refine p_pow (by unfold CPow; decide) ?_ | with_reducible refine p_lt ?_ | with_reducible refine p_le ?_ | with_reducible refine p_gt ?_ | with_reducible refine p_ge ?_ | with_reducible refine p_eqI ?_ | with_reducible refine p_neI ?_ | with_reducible refine p_eqL (by first | decide +kernel | assumption) (by first | decide +kernel | assumption) ?_ | with_reducible refine p_neL (by first | decide +kernel | assumption) (by first | decide +kernel | assumption) ?_ | with_reducible refine p_eqT (by first | decide +kernel | assumption) (by first | decide +kernel | assumption) ?_ | with_reducible refine p_neT (by first | decide +kernel | assumption) (by first | decide +kernel | assumption) ?_ | with_reducible refine p_eqS (by first | decide +kernel | assumption) (by first | decide +kernel | assumption) ?_ | with_reducible refine p_neS (by first | decide +kernel | assumption) (by first | decide +kernel | assumption) ?_ | with_reducible refine p_isi (by with_unfolding_all rfl) (by decide) ?_ | with_reducible refine p_lmO (by first | assumption | exact sup_same) ?_ | with_reducible refine p_lmE (by first | assumption | exact sup_same) (by with_unfolding_all rfl) (by (first | exact True.intro | exact szl | (with_reducible assumption) | decide | (simp only [List.length_cons, List.length_nil]; first | exact szl | omega) | omega)) ?_ | with_reducible refine p_freeze (by with_unfolding_all rfl) (by first | assumption | exact sup_same) ?_ | with_reducible refine p_dispE (by assumption) (by with_unfolding_all rfl) ?_ | with_reducible refine p_getI (by with_unfolding_all rfl) ?_ | with_reducible refine p_getS (by with_unfolding_all rfl) (by with_unfolding_all rfl) (by first | with_unfolding_all rfl | with_unfolding_all assumption) ?_ | with_reducible refine p_getN (by with_unfolding_all rfl) (by with_unfolding_all rfl) (by first | with_unfolding_all rfl | with_unfolding_all assumption) ?_ | with_reducible refine p_r (by with_unfolding_all rfl) (by (first | exact True.intro | exact szl | (with_reducible assumption) | decide | (simp only [List.length_cons, List.length_nil]; first | exact szl | omega) | omega)) ?_ | with_reducible refine p_rc (by with_unfolding_all rfl) (by (first | exact True.intro | exact szl | (with_reducible assumption) | decide | (simp only [List.length_cons, List.length_nil]; first | exact szl | omega) | omega)) ?_ | with_reducible refine p_ixS (by first | assumption | exact sup_same) (by with_unfolding_all rfl) ?_ | with_reducible refine p_set (by first | assumption | exact sup_same) (by with_unfolding_all rfl) ?_ | with_reducible refine p_onE (by with_unfolding_all rfl) (by (first | exact True.intro | exact szl | (with_reducible assumption) | decide | (simp only [List.length_cons, List.length_nil]; first | exact szl | omega) | omega)) ?_ | with_reducible refine p_kgetS (by first | with_unfolding_all rfl | with_unfolding_all assumption) ?_ | with_reducible refine p_kinT (by first | with_unfolding_all rfl | with_unfolding_all assumption) ?_ | with_reducible refine p_kinF (by first | with_unfolding_all rfl | with_unfolding_all assumption) ?_ | with_reducible refine p_nkinT (by first | with_unfolding_all rfl | with_unfolding_all assumption) ?_ | with_reducible refine p_nkinF (by first | with_unfolding_all rfl | with_unfolding_all assumption) ?_ | with_reducible refine p_T (by with_unfolding_all rfl) ?_ | with_reducible refine p_F (by with_unfolding_all rfl) ?_ | with_reducible refine And.intro (a := List.length _ ≤ sizeLine) szl ?_ | with_reducible refine And.intro (a := List.length _ = _) (by with_unfolding_all rfl) ?_))
      refine p_lmE hA9 rfl (Nat.lt_of_lt_of_le (by rw [List.length_map]; omega) (szl (n := 100))) ?_
      refine hk _ _ ⟨bs ++ [(rs, wv)], _, _, _, rfl, by rw [sup_same, List.map_append]; rfl, by simp [hl], fun b hb' => ?_, (hY9.sup hay).up (by omega), ((hK7.trans (Keep.of hO8)).trans (Keep.of hO9)).sup hSa⟩
      rcases List.mem_append.mp hb' with h | h
      · exact hb b h
      · rw [List.mem_singleton.mp h]; exact ⟨hl5, g3, hwv⟩
  · subst he
    have hl' : bs.length = n.toNat := by rw [hl]; unfold upto; simp
    have hlu : (upto 0 n.toNat).length ≤ 4 := by unfold upto; simp; omega
    (repeat' (first | with_reducible refine p_seq ?_ | with_reducible refine p_next ?_ | with_reducible refine p_var (by with_unfolding_all rfl) ?_ | with_reducible refine p_c ?_ | with_reducible refine p_op ?_ | with_reducible refine p_cb ?_ | with_reducible refine p_call ?_ | with_reducible refine p_cons ?_ | with_reducible refine p_nil ?_ | with_reducible refine p_tup ?_ | with_reducible refine p_lst ?_ | with_reducible refine p_b ?_ | with_reducible refine p_qb ?_ | with_reducible refine p_and ?_ | with_reducible refine p_or ?_ | with_reducible refine p_not ?_ | with_reducible refine p_andV ?_ | with_reducible refine p_orV ?_ | with_reducible refine p_notV ?_ | with_reducible refine p_if ?_ | with_reducible refine p_ifS ?_ | with_reducible refine p_un ?_ | with_reducible refine p_neg ?_ | with_reducible refine p_ret ?_ | with_reducible refine p_retN ?_ | with_reducible refine p_drop ?_ | with_reducible refine p_asg' ?_ | with_reducible refine p_par ?_ | with_reducible refine p_setI ?_ | with_reducible refine p_sl ?_ | with_reducible refine p_noPart ?_ | with_reducible refine p_part ?_ | with_reducible refine p_partI ?_ | with_reducible refine p_kin ?_ | with_reducible refine p_kget ?_ | with_reducible refine p_lm ?_ | with_reducible refine p_for ?_ | with_reducible refine p_seqI ?_ | with_reducible refine p_seqL ?_ | with_reducible refine p_seqT ?_ | with_reducible refine p_rng1 ?_ | with_reducible refine p_rng1I (by unfold rng1; first | decide | (constructor <;> omega)) ?_ | with_reducible refine p_yes ?_ | with_reducible refine p_callK ?_ | with_reducible refine p_lc ?_ | with_reducible refine p_disp fun _ hp0 => ?_ | with_reducible refine p_get2 ?_ | with_reducible refine p_bindM (by with_unfolding_all rfl) ?_ | with_reducible refine p_mulI (by first | decide | omega) (by first | decide | omega) ?_ | with_reducible refine p_mod (by first | decide | omega | assumption) ?_ | with_reducible refine p_sub ?_ | with_reducible refine p_min ?_ | with_reducible refine p_max ?_ | with_reducible refine p_ix0 ?_ | with_reducible refine p_ix0L ?_ | with_reducible refine p_inT (by first | decide +kernel | exact ⟨rfl, rfl⟩ | (simp [flD]; done)) ?_ | with_reducible refine p_notInT (by first | decide +kernel | exact ⟨rfl, rfl⟩ | (simp [flD]; done)) ?_ | with_reducible refine p_fdiv (by first | assumption | decide) ?_ | with_reducible refine p_pow (by unfold CPow; decide) ?_ | with_reducible refine p_lt ?_ | with_reducible refine p_le ?_ | with_reducible refine p_gt ?_ | with_reducible refine p_ge ?_ | with_reducible refine p_eqI ?_ | with_reducible refine p_neI ?_ | with_reducible refine p_eqL (by first | decide +kernel | assumption) (by first | decide +kernel | assumption) ?_ | with_reducible refine p_neL (by first | decide +kernel | assumption) (by first | decide +kernel | assumption) ?_ | with_reducible refine p_eqT (by first | decide +kernel | assumption) (by first | decide +kernel | assumption) ?_ | with_reducible refine p_neT (by first | decide +kernel | assumption) (by first | decide +kernel | assumption) ?_ | with_reducible refine p_eqS (by first | decide +kernel | assumption) (by first | decide +kernel | assumption) ?_ | with_reducible refine p_neS (by first | decide +kernel | assumption) (by first | decide +kernel | assumption) ?_ | with_reducible refine p_isi (by with_unfolding_all rfl) (by decide) ?_ | with_reducible refine p_lmO (by first | assumption | exact sup_same) ?_ | with_reducible refine p_lmE (by first | assumption | exact sup_same) (by with_unfolding_all rfl) (by (first | exact True.intro | exact szl | (with_reducible assumption) | decide | (simp only [List.length_cons, List.length_nil]; first | exact szl | omega) | omega)) ?_ | with_reducible refine p_freeze (by with_unfolding_all rfl) (by first | assumption | exact sup_same) ?_ | with_reducible refine p_dispE (by assumption) (by with_unfolding_all rfl) ?_ | with_reducible refine p_getI (by with_unfolding_all rfl) ?_ | with_reducible refine p_getS (by with_unfolding_all rfl) (by with_unfolding_all rfl) (by first | with_unfolding_all rfl | with_unfolding_all assumption) ?_ | with_reducible refine p_getN (by with_unfolding_all rfl) (by with_unfolding_all rfl) (by first | with_unfolding_all rfl | with_unfolding_all assumption) ?_ | with_reducible refine p_r (by with_unfolding_all rfl) (by (first | exact True.intro | exact szl | (with_reducible assumption) | decide | (simp only [List.length_cons, List.length_nil]; first | exact szl | omega) | omega)) ?_ | with_reducible refine p_rc (by with_unfolding_all rfl) (by (first | exact True.intro | exact szl | (with_reducible assumption) | decide | (simp only [List.length_cons, List.length_nil]; first | exact szl | omega) | omega)) ?_ | with_reducible refine p_ixS (by first | assumption | exact sup_same) (by with_unfolding_all rfl) ?_ | with_reducible refine p_set (by first | assumption | exact sup_same) (by with_unfolding_all rfl) ?_ | with_reducible refine p_onE (by with_unfolding_all rfl) (by (first | exact True.intro | exact szl | (with_reducible assumption) | decide | (simp only [List.length_cons, List.length_nil]; first | exact szl | omega) | omega)) ?_ | with_reducible refine p_kgetS (by first | with_unfolding_all rfl | with_unfolding_all assumption) ?_ | with_reducible refine p_kinT (by first | with_unfolding_all rfl | with_unfolding_all assumption) ?_ | with_reducible refine p_kinF (by first | with_unfolding_all rfl | with_unfolding_all assumption) ?_ | with_reducible refine p_nkinT (by first | with_unfolding_all rfl | with_unfolding_all assumption) ?_ | with_reducible refine p_nkinF (by first | with_unfolding_all rfl | with_unfolding_all assumption) ?_ | with_reducible refine p_T (by with_unfolding_all rfl) ?_ | with_reducible refine p_F (by with_unfolding_all rfl) ?_ | with_reducible refine And.intro (a := List.length _ ≤ sizeLine) szl ?_ | with_reducible refine And.intro (a := List.length _ = _) (by with_unfolding_all rfl) ?_))
    refine p_rc (cc := True) (d := .tup (bs.map blkD)) (by unfold tupleD; simp only [getL, hA]) trivial ?_
    (repeat' (first | with_reducible refine p_seq ?_ | with_reducible refine p_next ?_ | with_reducible refine p_var (by with_unfolding_all rfl) ?_ | with_reducible refine p_c ?_ | with_reducible refine p_op ?_ | with_reducible refine p_cb ?_ | with_reducible refine p_call ?_ | with_reducible refine p_cons ?_ | with_reducible refine p_nil ?_ | with_reducible refine p_tup ?_ | with_reducible refine p_lst ?_ | with_reducible refine p_b ?_ | with_reducible refine p_qb ?_ | with_reducible refine p_and ?_ | with_reducible refine p_or ?_ | with_reducible refine p_not ?_ | with_reducible refine p_andV ?_ | with_reducible refine p_orV ?_ | with_reducible refine p_notV ?_ | with_reducible refine p_if ?_ | with_reducible refine p_ifS ?_ | with_reducible refine p_un ?_ | with_reducible refine p_neg ?_ | with_reducible refine p_ret ?_ | with_reducible refine p_retN ?_ | with_reducible refine p_drop ?_ | with_reducible refine p_asg' ?_ | with_reducible refine p_par ?_ | with_reducible refine p_setI ?_ | with_reducible refine p_sl ?_ | with_reducible refine p_noPart ?_ | with_reducible refine p_part ?_ | with_reducible refine p_partI ?_ | with_reducible refine p_kin ?_ | with_reducible refine p_kget ?_ | with_reducible refine p_lm ?_ | with_reducible refine p_for ?_ | with_reducible refine p_seqI ?_ | with_reducible refine p_seqL ?_ | with_reducible refine p_seqT ?_ | with_reducible refine p_rng1 ?_ | with_reducible refine p_rng1I (by unfold rng1; first | decide | (constructor <;> omega)) ?_ | with_reducible refine p_yes ?_ | with_reducible refine p_callK ?_ | with_reducible refine p_lc ?_ | with_reducible refine p_disp fun _ hp0 => ?_ | with_reducible refine p_get2 ?_ | with_reducible refine p_bindM (by with_unfolding_all rfl) ?_ | with_reducible refine p_mulI (by first | decide | omega) (by first | decide | omega) ?_ | with_reducible refine p_mod (by first | decide | omega | assumption) ?_ | with_reducible refine p_sub ?_ | with_reducible refine p_min ?_ | with_reducible refine p_max ?_ | with_reducible refine p_ix0 ?_ | with_reducible refine p_ix0L ?_ | with_reducible refine p_inT (by first | decide +kernel | exact ⟨rfl, rfl⟩ | (simp [flD]; done)) ?_ | with_reducible refine p_notInT (by first | decide +kernel | exact ⟨rfl, rfl⟩ | (simp [flD]; done)) ?_ | with_reducible refine p_fdiv (by first | assumption | decide) ?_ | with_reducible refine p_pow (by unfold CPow; decide) ?_ | with_reducible refine p_lt ?_ | with_reducible refine p_le ?_ | with_reducible refine p_gt ?_ | with_reducible refine p_ge ?_ | with_reducible refine p_eqI ?_ | with_reducible refine p_neI ?_ | with_reducible refine p_eqL (by first | decide +kernel | assumption) (by first | decide +kernel | assumption) ?_ | with_reducible refine p_neL (by first | decide +kernel | assumption) (by first | decide +kernel | assumption) ?_ | with_reducible refine p_eqT (by first | decide +kernel | assumption) (by first | decide +kernel | assumption) ?_ | with_reducible refine p_neT (by first | decide +kernel | assumption) (by first | decide +kernel | assumption) ?_ | with_reducible refine p_eqS (by first | decide +kernel | assumption) (by first | decide +kernel | assumption) ?_ | with_reducible refine p_neS (by first | decide +kernel | assumption) (by first | decide +kernel | assumption) ?_ | with_reducible refine p_isi (by with_unfolding_all rfl) (by decide) ?_ | with_reducible refine p_lmO (by first | assumption | exact sup_same) ?_ | with_reducible refine p_lmE (by first | assumption | exact sup_same) (by with_unfolding_all rfl) (by (first | exact True.intro | exact szl | (with_reducible assumption) | decide | (simp only [List.length_cons, List.length_nil]; first | exact szl | omega) | omega)) ?_ | with_reducible refine p_freeze (by with_unfolding_all rfl) (by first | assumption | exact sup_same) ?_ | with_reducible refine p_dispE (by assumption) (by with_unfolding_all rfl) ?_ | with_reducible refine p_getI (by with_unfolding_all rfl) ?_ | with_reducible refine p_getS (by with_unfolding_all rfl) (by with_unfolding_all rfl) (by first | with_unfolding_all rfl | with_unfolding_all assumption) ?_ | with_reducible refine p_getN (by with_unfolding_all rfl) (by with_unfolding_all rfl) (by first | with_unfolding_all rfl | with_unfolding_all assumption) ?_ | with_reducible refine p_r (by with_unfolding_all rfl) (by (first | exact True.intro | exact szl | (with_reducible assumption) | decide | (simp only [List.length_cons, List.length_nil]; first | exact szl | omega) | omega)) ?_ | with_reducible refine p_rc (by with_unfolding_all rfl) (by (first | exact True.intro | exact szl | (with_reducible assumption) | decide | (simp only [List.length_cons, List.length_nil]; first | exact szl | omega) | omega)) ?_ | with_reducible refine p_ixS (by first | assumption | exact sup_same) (by with_unfolding_all rfl) ?_ | with_reducible refine p_set (by first | assumption | exact sup_same) (by with_unfolding_all rfl) ?_ | with_reducible refine p_onE (by with_unfolding_all rfl) (by (first | exact True.intro | exact szl | (with_reducible assumption) | decide | (simp only [List.length_cons, List.length_nil]; first | exact szl | omega) | omega)) ?_ | with_reducible refine p_kgetS (by first | with_unfolding_all rfl | with_unfolding_all assumption) ?_ | with_reducible refine p_kinT (by first | with_unfolding_all rfl | with_unfolding_all assumption) ?_ | with_reducible refine p_kinF (by first | with_unfolding_all rfl | with_unfolding_all assumption) ?_ | with_reducible refine p_nkinT (by first | with_unfolding_all rfl | with_unfolding_all assumption) ?_ | with_reducible refine p_nkinF (by first | with_unfolding_all rfl | with_unfolding_all assumption) ?_ | with_reducible refine p_T (by with_unfolding_all rfl) ?_ | with_reducible refine p_F (by with_unfolding_all rfl) ?_ | with_reducible refine And.intro (a := List.length _ ≤ sizeLine) szl ?_ | with_reducible refine And.intro (a := List.length _ = _) (by with_unfolding_all rfl) ?_))
    exact q z n bs S3 hz hn hl' hb (hY3.up (by omega)) hK
end LSh

namespace Lk55
open PySem PySem.Spec PyProof.Rows L2 PL
def k_TOUCHING : List (Str × D) := [("load", (.tup [(.int 2), (.int 3)])), ("qload", (.tup [(.int 3), (.int 4)])), ("store", (.tup [(.int 1), (.int 2)]))]
def c_EXITS : D := (.tup [(.str "leave"), (.str "unless")])
abbrev N_is_number : List Str := ["thing"]
def r_is_number : TSD := (tdRet (tdAndV (tdCB (rdC isiD) (tdCons (tdVar 0) (tdCons (tdC (.ty "int")) tdNil))) (tdNotV (tdCB (rdC isiD) (tdCons (tdVar 0) (tdCons (tdC (.ty "bool")) tdNil))))))
def d_is_number : SpD := mkSp 1 N_is_number r_is_number
abbrev N_spot_of : List Str := ["row", "base", "offset"]
def r_spot_of : TSD := (tdSeq (tdAsg (tdKGet k_TOUCHING (tdOp (rdP ixD) (tdVar 0) (tdC (.int 0)))) (.tp (.cons (.nm 1) (.cons (.nm 2) .nil)))) (tdRet (tdTup (tdCons (tdOp (rdP ixD) (tdVar 0) (tdVar 1)) (tdCons (tdOp (rdP ixD) (tdVar 0) (tdVar 2)) tdNil)))))
def d_spot_of : SpD := mkSp 1 N_spot_of r_spot_of
abbrev N__law_yarn : List Str := ["_law_script"]
def r__law_yarn : TSD := (tdRet (tdLstR (tdCons (tdSl (tdVar 0) tdNoPart (tdPart (tdC (.int 63)))) (tdCons (tdC (.int 0)) (tdCons (tdC (.int 0)) (tdCons (tdC (.int 0)) tdNil))))))
def d__law_yarn : SpD := mkSp 1 N__law_yarn r__law_yarn
abbrev N__law_spin : List Str := ["_law_yarn_here", "_law_many", "_law_turn", "_law_found", "_law_at", "_law_figure", "_law_mixed"]
def r__law_spin : TSD := (tdSeq (tdAsg (tdOp (rdP ixD) (tdVar 0) (tdC (.int 2))) (.nm 2)) (tdSeq (tdSetI (tdOp (rdP addD) (tdVar 2) (tdC (.int 1))) (tdVar 0) (tdC (.int 2))) (tdSeq (tdIfS (tdB (tdOp (rdP gtD) (tdOp (rdP ixD) (tdVar 0) (tdC (.int 1))) (tdC (.int 0)))) (tdSeq (tdAsg (tdOp (rdP modD) (tdOp (rdP ixD) (tdVar 0) (tdC (.int 1))) (tdVar 1)) (.nm 3)) (tdSeq (tdSetI (tdOp (rdP fdivD) (tdOp (rdP ixD) (tdVar 0) (tdC (.int 1))) (tdVar 1)) (tdVar 0) (tdC (.int 1))) (tdRet (tdVar 3)))) tdNext) (tdSeq (tdAsg (tdOp (rdP ixD) (tdVar 0) (tdC (.int 3))) (.nm 4)) (tdSeq (tdSetI (tdOp (rdP addD) (tdVar 4) (tdC (.int 1))) (tdVar 0) (tdC (.int 3))) (tdSeq (tdAsg (tdIf (tdB (tdOp (rdP (eqR true)) (tdOp (rdP ixD) (tdVar 0) (tdC (.int 0))) (tdLst tdNil))) (tdOp (rdP ixD) (tdOp (rdP ixD) (tdVar 0) (tdC (.int 0))) (tdOp (rdP modD) (tdVar 4) (tdCB (rdC lenD) (tdCons (tdOp (rdP ixD) (tdVar 0) (tdC (.int 0))) tdNil)))) (tdC (.int 12))) (.nm 5)) (tdSeq (tdIfS (tdAnd (tdB (tdOp (rdP geD) (tdVar 5) (tdOp (rdP powD) (tdC (.int 10)) (tdC (.int 18))))) (tdB (tdOp (rdP ltD) (tdVar 4) (tdCB (rdC lenD) (tdCons (tdOp (rdP ixD) (tdVar 0) (tdC (.int 0))) tdNil))))) (tdSeq (tdSetI (tdOp (rdP fdivD) (tdVar 5) (tdVar 1)) (tdVar 0) (tdC (.int 1))) (tdRet (tdOp (rdP modD) (tdVar 5) (tdVar 1)))) tdNext) (tdSeq (tdAsg (tdOp (rdP addD) (tdOp (rdP addD) (tdOp (rdP addD) (tdOp (rdP modD) (tdVar 5) (tdC (.int 2147483587))) (tdOp (rdP mulD) (tdOp (rdP mulD) (tdC (.int 6991)) (tdVar 2)) (tdVar 2))) (tdOp (rdP mulD) (tdC (.int 1013)) (tdVar 2))) (tdC (.int 257))) (.nm 6)) (tdSeq (tdAsg (tdOp (rdP modD) (tdOp (rdP addD) (tdOp (rdP addD) (tdOp (rdP mulD) (tdVar 6) (tdVar 6)) (tdOp (rdP mulD) (tdC (.int 50021)) (tdVar 2))) (tdC (.int 59))) (tdC (.int 2147483563))) (.nm 6)) (tdRet (tdOp (rdP modD) (tdOp (rdP fdivD) (tdOp (rdP modD) (tdOp (rdP addD) (tdOp (rdP mulD) (tdVar 6) (tdVar 6)) (tdOp (rdP mulD) (tdC (.int 23)) (tdVar 6))) (tdC (.int 2147483549))) (tdC (.int 64))) (tdVar 1))))))))))))
def d__law_spin : SpD := mkSp 2 N__law_spin r__law_spin
abbrev N__law_spot : List Str := ["_law_line", "_law_at"]
def r__law_spot : TSD := (tdSeq (tdAsg (tdGet2 (tdDisp ["load", "store", "qload"] (tdCons (tdC (.int 2)) (tdCons (tdC (.int 1)) (tdCons (tdC (.int 3)) tdNil)))) (tdOp (rdP ixD) (tdVar 0) (tdC (.int 0))) (tdC .non)) (.nm 1)) (tdRet (tdIf (tdB (tdOp (rdP (isNR false)) (tdVar 1) (tdC .non))) (tdC .non) (tdSl (tdVar 0) (tdPart (tdVar 1)) (tdPart (tdOp (rdP addD) (tdVar 1) (tdC (.int 2))))))))
def d__law_spot : SpD := mkSp 1 N__law_spot r__law_spot
abbrev N_is_safe_spot : List Str := ["code", "row", "base", "offset"]
def r_is_safe_spot : TSD := (tdSeq (tdAsg (tdCall d_spot_of [] (tdCons (tdVar 1) tdNil)) (.tp (.cons (.nm 2) (.cons (.nm 3) .nil)))) (tdRet (tdAndV (tdCall d_is_number [] (tdCons (tdVar 2) tdNil)) (tdChain (rdP leD) (rdP ltD) (tdC (.int 0)) (tdOp (rdP addD) (tdVar 2) (tdVar 3)) (tdOp (rdP ixD) (tdVar 0) (tdC (.int 0)))))))
def d_is_safe_spot : SpD := mkSp 2 N_is_safe_spot r_is_safe_spot
abbrev N__law_operand : List Str := ["_law_yarn_here"]
def r__law_operand : TSD := (tdRet (tdOp (rdP ixD) (tdLst (tdCons (tdC (.int 0)) (tdCons (tdC (.int 1)) (tdCons (tdC (.int 2)) (tdCons (tdC (.str "a")) (tdCons (tdC (.str "b")) (tdCons (tdC (.str "c")) (tdCons (tdC (.str "ab")) (tdCons (tdUn rdNeg (tdC (.int 1))) tdNil))))))))) (tdCall d__law_spin [] (tdCons (tdVar 0) (tdCons (tdC (.int 8)) tdNil)))))
def d__law_operand : SpD := mkSp 1 N__law_operand r__law_operand
abbrev N__law_is_seen : List Str := ["_law_prog_here", "_law_line", "_law_base", "_law_offset"]
def r__law_is_seen : TSD := (tdSeq (tdIfS (tdB (tdOp (rdP (inR false)) (tdOp (rdP ixD) (tdVar 1) (tdC (.int 0))) (tdTup (tdCons (tdC (.str "load")) (tdCons (tdC (.str "store")) tdNil))))) (tdSeq (tdAsg (tdCall d__law_spot [] (tdCons (tdVar 1) tdNil)) (.tp (.cons (.nm 2) (.cons (.nm 3) .nil)))) (tdRet (tdOrV (tdCB (rdC isiD) (tdCons (tdVar 2) (tdCons (tdC (.ty "str")) tdNil))) (tdNotV (tdChain (rdP leD) (rdP ltD) (tdC (.int 0)) (tdOp (rdP addD) (tdVar 2) (tdVar 3)) (tdOp (rdP ixD) (tdVar 0) (tdC (.int 0)))))))) tdNext) (tdSeq (tdIfS (tdB (tdOp (rdP (eqR false)) (tdOp (rdP ixD) (tdVar 1) (tdC (.int 0))) (tdC (.str "div")))) (tdRet (tdOrV (tdCB (rdC isiD) (tdCons (tdOp (rdP ixD) (tdVar 1) (tdC (.int 3))) (tdCons (tdC (.ty "str")) tdNil))) (tdOp (rdP (eqR false)) (tdOp (rdP ixD) (tdVar 1) (tdC (.int 3))) (tdC (.int 0))))) tdNext) (tdRet (tdOp (rdP (inR false)) (tdOp (rdP ixD) (tdVar 1) (tdC (.int 0))) (tdTup (tdCons (tdC (.str "out")) (tdCons (tdC (.str "check")) (tdCons (tdC (.str "leave")) (tdCons (tdC (.str "unless")) tdNil)))))))))
def d__law_is_seen : SpD := mkSp 2 N__law_is_seen r__law_is_seen
abbrev N_is_event_row : List Str := ["code", "row"]
def r_is_event_row : TSD := (tdSeq (tdIfS (tdB (tdOp (rdP (inR false)) (tdOp (rdP ixD) (tdVar 1) (tdC (.int 0))) (tdTup (tdCons (tdC (.str "load")) (tdCons (tdC (.str "store")) tdNil))))) (tdRet (tdNotV (tdCall d_is_safe_spot [] (tdCons (tdVar 0) (tdCons (tdVar 1) tdNil))))) tdNext) (tdSeq (tdIfS (tdB (tdOp (rdP (eqR false)) (tdOp (rdP ixD) (tdVar 1) (tdC (.int 0))) (tdC (.str "div")))) (tdRet (tdOrV (tdNotV (tdCall d_is_number [] (tdCons (tdOp (rdP ixD) (tdVar 1) (tdC (.int 3))) tdNil))) (tdOp (rdP (eqR false)) (tdOp (rdP ixD) (tdVar 1) (tdC (.int 3))) (tdC (.int 0))))) tdNext) (tdRet (tdOp (rdP (inR false)) (tdOp (rdP ixD) (tdVar 1) (tdC (.int 0))) (tdOp (rdP addD) (tdC c_EXITS) (tdTup (tdCons (tdC (.str "out")) (tdCons (tdC (.str "check")) tdNil))))))))
def d_is_event_row : SpD := mkSp 2 N_is_event_row r_is_event_row
abbrev N__law_row : List Str := ["_law_yarn_here", "_law_size", "_law_many", "_law_way", "_law_names", "_law_mark", "_law_name", "_law_turn", "_law_base", "_law_offset", "_law_unit", "_law_twin", "_law_sign", "_law_guard", "_law_some"]
def r__law_row : TSD := (tdSeq (tdPar [3, 4, 5] (tdCons (tdCall d__law_spin [] (tdCons (tdVar 0) (tdCons (tdC (.int 15)) tdNil))) (tdCons (tdLst (tdCons (tdC (.str "a")) (tdCons (tdC (.str "b")) (tdCons (tdC (.str "c")) (tdCons (tdC (.str "ab")) tdNil))))) (tdCons (tdCall d__law_spin [] (tdCons (tdVar 0) (tdCons (tdC (.int 9)) tdNil))) tdNil)))) (tdSeq (tdPar [6, 7] (tdCons (tdOp (rdP ixD) (tdVar 4) (tdCall d__law_spin [] (tdCons (tdVar 0) (tdCons (tdC (.int 4)) tdNil)))) (tdCons (tdCall d__law_spin [] (tdCons (tdVar 0) (tdCons (tdC (.int 3)) tdNil))) tdNil))) (tdSeq (tdPar [8, 9] (tdCons (tdOp (rdP ixD) (tdLst (tdCons (tdC (.int 0)) (tdCons (tdC (.int 0)) (tdCons (tdC (.str "a")) (tdCons (tdC (.str "b")) tdNil))))) (tdCall d__law_spin [] (tdCons (tdVar 0) (tdCons (tdC (.int 4)) tdNil)))) (tdCons (tdOp (rdP subD) (tdCall d__law_spin [] (tdCons (tdVar 0) (tdCons (tdOp (rdP addD) (tdVar 1) (tdC (.int 1))) tdNil))) (tdCB (rdC intD1) (tdCons (tdOp (rdP (eqR false)) (tdVar 7) (tdC (.int 0))) tdNil))) tdNil))) (tdSeq (tdPar [10, 11] (tdCons (tdCall d__law_operand [] (tdCons (tdVar 0) tdNil)) (tdCons (tdCall d__law_operand [] (tdCons (tdVar 0) tdNil)) tdNil))) (tdSeq (tdIfS (tdB (tdOp (rdP ltD) (tdVar 3) (tdC (.int 4)))) (tdSeq (tdAsg (tdOp (rdP ixD) (tdLst (tdCons (tdC (.str "+")) (tdCons (tdC (.str "-")) (tdCons (tdC (.str "<")) (tdCons (tdC (.str "*")) tdNil))))) (tdCall d__law_spin [] (tdCons (tdVar 0) (tdCons (tdC (.int 4)) tdNil)))) (.nm 12)) (tdRet (tdTup (tdCons (tdC (.str "set")) (tdCons (tdVar 6) (tdCons (tdVar 12) (tdCons (tdVar 10) (tdCons (tdIf (tdB (tdOp (rdP (eqR false)) (tdVar 12) (tdC (.str "*")))) (tdVar 7) (tdVar 11)) tdNil)))))))) tdNext) (tdSeq (tdIfS (tdB (tdOp (rdP ltD) (tdVar 3) (tdC (.int 6)))) (tdRet (tdTup (tdCons (tdC (.str "load")) (tdCons (tdVar 6) (tdCons (tdVar 8) (tdCons (tdVar 9) (tdCons (tdVar 5) tdNil))))))) tdNext) (tdSeq (tdIfS (tdB (tdOp (rdP ltD) (tdVar 3) (tdC (.int 8)))) (tdRet (tdTup (tdCons (tdC (.str "store")) (tdCons (tdVar 8) (tdCons (tdVar 9) (tdCons (tdVar 10) (tdCons (tdVar 5) tdNil))))))) tdNext) (tdSeq (tdIfS (tdB (tdOp (rdP ltD) (tdVar 3) (tdC (.int 10)))) (tdRet (tdIf (tdB (tdOp (rdP (eqR false)) (tdVar 3) (tdC (.int 8)))) (tdTup (tdCons (tdC (.str "div")) (tdCons (tdVar 6) (tdCons (tdVar 10) (tdCons (tdVar 11) (tdCons (tdVar 5) tdNil)))))) (tdTup (tdCons (tdC (.str "out")) (tdCons (tdVar 10) tdNil))))) tdNext) (tdSeq (tdIfS (tdB (tdOp (rdP ltD) (tdVar 3) (tdC (.int 13)))) (tdRet (tdTup (tdCons (tdOp (rdP ixD) (tdLst (tdCons (tdC (.str "leave")) (tdCons (tdC (.str "unless")) (tdCons (tdC (.str "leave")) tdNil)))) (tdOp (rdP subD) (tdVar 3) (tdC (.int 10)))) (tdCons (tdVar 10) (tdCons (tdCall d__law_spin [] (tdCons (tdVar 0) (tdCons (tdVar 2) tdNil))) tdNil))))) tdNext) (tdSeq (tdAsg (tdIf (tdB (tdOp (rdP ltD) (tdVar 7) (tdC (.int 2)))) (tdC (.str "f")) (tdOp (rdP addD) (tdOp (rdP mulS) (tdC (.str "c")) (tdCB (rdC intD1) (tdCons (tdOp (rdP (eqR true)) (tdVar 6) (tdC (.str "c"))) tdNil))) (tdC (.str "d")))) (.nm 13)) (tdSeq (tdAsg (tdLst (tdCons (tdTup (tdCons (tdC (.str "qload")) (tdCons (tdVar 6) (tdCons (tdVar 13) (tdCons (tdVar 8) (tdCons (tdVar 9) tdNil)))))) (tdCons (tdTup (tdCons (tdC (.str "qdiv")) (tdCons (tdVar 6) (tdCons (tdVar 13) (tdCons (tdVar 10) (tdCons (tdVar 11) tdNil)))))) (tdCons (tdTup (tdCons (tdC (.str "check")) (tdCons (tdVar 13) (tdCons (tdVar 5) tdNil)))) tdNil)))) (.nm 14)) (tdRet (tdOp (rdP ixD) (tdVar 14) (tdCall d__law_spin [] (tdCons (tdVar 0) (tdCons (tdC (.int 3)) tdNil))))))))))))))))
def d__law_row : SpD := mkSp 3 N__law_row r__law_row
abbrev N__law_prog : List Str := ["_law_yarn_here", "_law_size", "_law_many", "_law_blocks", "_law_k", "_law_rows", "_law_ways", "_law_j"]
def r__law_prog : TSD := (tdSeq (tdAsg (tdTup (tdCons (tdOp (rdP addD) (tdC (.int 1)) (tdCall d__law_spin [] (tdCons (tdVar 0) (tdCons (tdC (.int 4)) tdNil)))) (tdCons (tdOp (rdP addD) (tdC (.int 1)) (tdCall d__law_spin [] (tdCons (tdVar 0) (tdCons (tdC (.int 4)) tdNil)))) tdNil))) (.tp (.cons (.nm 1) (.cons (.nm 2) .nil)))) (tdSeq (tdAsg (tdLstR tdNil) (.nm 3)) (tdSeq (tdFor (tdRng1 (tdCons (tdVar 2) tdNil)) (.nm 4) (tdSeq (tdAsg (tdCB (rdC tupleD) (tdCons (tdLc (tdRng1 (tdCons (tdCall d__law_spin [] (tdCons (tdVar 0) (tdCons (tdC (.int 6)) tdNil))) tdNil)) (.nm 7) tdYes (tdCall d__law_row [] (tdCons (tdVar 0) (tdCons (tdVar 1) (tdCons (tdVar 2) tdNil)))) [7]) tdNil)) (.nm 5)) (tdSeq (tdAsg (tdLst (tdCons (tdTup (tdCons (tdC (.str "go")) (tdCons (tdCB (rdC minD) (tdCons (tdOp (rdP addD) (tdVar 4) (tdC (.int 1))) (tdCons (tdOp (rdP subD) (tdVar 2) (tdC (.int 1))) tdNil))) tdNil))) (tdCons (tdTup (tdCons (tdC (.str "go")) (tdCons (tdCall d__law_spin [] (tdCons (tdVar 0) (tdCons (tdVar 2) tdNil))) tdNil))) (tdCons (tdTup (tdCons (tdC (.str "stop")) tdNil)) (tdCons (tdTup (tdCons (tdC (.str "stop")) tdNil)) tdNil))))) (.nm 6)) (tdDrop (tdLm gAppend (tdVar 3) (tdCons (tdTup (tdCons (tdVar 5) (tdCons (tdOp (rdP ixD) (tdVar 6) (tdCall d__law_spin [] (tdCons (tdVar 0) (tdCons (tdC (.int 4)) tdNil)))) tdNil))) tdNil)))))) (tdRet (tdTup (tdCons (tdVar 1) (tdCons (tdCB (rdC tupleD) (tdCons (tdVar 3) tdNil)) tdNil)))))))
def d__law_prog : SpD := mkSp 1 N__law_prog r__law_prog
abbrev N_law : List Str := ["_law_script", "_law_yarn_here", "_law_lap", "_law_prog_here", "_law_size", "_law_some", "_law_block_now", "_law_k", "_law_seen_now", "_law_unit", "_law_due"]
def r_law : TSD := (tdSeq (tdAsg (tdCall d__law_yarn [] (tdCons (tdVar 0) tdNil)) (.nm 1)) (tdSeq (tdFor (tdRng1 (tdCons (tdC (.int 3)) tdNil)) (.nm 2) (tdSeq (tdAsg (tdCall d__law_prog [] (tdCons (tdVar 1) tdNil)) (.nm 3)) (tdSeq (tdPar [4, 5] (tdCons (tdOp (rdP ixD) (tdVar 3) (tdC (.int 0))) (tdCons (tdLst tdNil) tdNil))) (tdSeq (tdFor (tdSeqI (tdOp (rdP ixD) (tdVar 3) (tdC (.int 1)))) (.nm 6) (tdAsg (tdOp (rdP addD) (tdVar 5) (tdCB (rdC listD) (tdCons (tdOp (rdP ixD) (tdVar 6) (tdC (.int 0))) tdNil))) (.nm 5))) (tdSeq (tdFor (tdSeqI (tdTup (tdCons (tdUn rdNeg (tdC (.int 1))) (tdCons (tdC (.int 0)) (tdCons (tdOp (rdP subD) (tdVar 4) (tdC (.int 1))) (tdCons (tdVar 4) (tdCons (tdOp (rdP addD) (tdVar 4) (tdC (.int 1))) tdNil))))))) (.nm 7) (tdSeq (tdAsg (tdOp (rdP addD) (tdVar 5) (tdLst (tdCons (tdTup (tdCons (tdC (.str "load")) (tdCons (tdC (.str "a")) (tdCons (tdC (.int 0)) (tdCons (tdVar 7) (tdCons (tdC (.int 1)) tdNil)))))) (tdCons (tdTup (tdCons (tdC (.str "store")) (tdCons (tdC (.int 0)) (tdCons (tdVar 7) (tdCons (tdC (.str "b")) (tdCons (tdC (.int 2)) tdNil)))))) (tdCons (tdTup (tdCons (tdC (.str "load")) (tdCons (tdC (.str "a")) (tdCons (tdVar 7) (tdCons (tdC (.int 0)) (tdCons (tdC (.int 0)) tdNil)))))) tdNil))))) (.nm 5)) (tdSeq (tdAsg (tdOp (rdP addD) (tdVar 5) (tdLst (tdCons (tdTup (tdCons (tdC (.str "store")) (tdCons (tdVar 7) (tdCons (tdUn rdNeg (tdC (.int 1))) (tdCons (tdC (.int 5)) (tdCons (tdC (.int 3)) tdNil)))))) (tdCons (tdTup (tdCons (tdC (.str "qload")) (tdCons (tdC (.str "a")) (tdCons (tdC (.str "f")) (tdCons (tdC (.int 0)) (tdCons (tdVar 7) tdNil)))))) (tdCons (tdTup (tdCons (tdC (.str "div")) (tdCons (tdC (.str "a")) (tdCons (tdC (.int 5)) (tdCons (tdVar 7) (tdCons (tdC (.int 4)) tdNil)))))) tdNil))))) (.nm 5)) (tdAsg (tdOp (rdP addD) (tdVar 5) (tdLst (tdCons (tdTup (tdCons (tdC (.str "qdiv")) (tdCons (tdC (.str "a")) (tdCons (tdC (.str "f")) (tdCons (tdC (.int 1)) (tdCons (tdVar 7) tdNil)))))) (tdCons (tdTup (tdCons (tdC (.str "load")) (tdCons (tdC (.str "a")) (tdCons (tdC (.str "a")) (tdCons (tdVar 7) (tdCons (tdC (.int 0)) tdNil)))))) tdNil)))) (.nm 5))))) (tdSeq (tdAsg (tdOp (rdP addD) (tdVar 5) (tdLst (tdCons (tdTup (tdCons (tdC (.str "div")) (tdCons (tdC (.str "b")) (tdCons (tdC (.str "a")) (tdCons (tdC (.str "a")) (tdCons (tdC (.int 0)) tdNil)))))) (tdCons (tdTup (tdCons (tdC (.str "out")) (tdCons (tdC (.int 5)) tdNil))) (tdCons (tdTup (tdCons (tdC (.str "check")) (tdCons (tdC (.str "f")) (tdCons (tdC (.int 1)) tdNil)))) (tdCons (tdTup (tdCons (tdC (.str "leave")) (tdCons (tdC (.int 0)) (tdCons (tdC (.int 0)) tdNil)))) (tdCons (tdTup (tdCons (tdC (.str "unless")) (tdCons (tdC (.str "a")) (tdCons (tdC (.int 0)) tdNil)))) tdNil))))))) (.nm 5)) (tdSeq (tdAsg (tdOp (rdP addD) (tdVar 5) (tdLst (tdCons (tdTup (tdCons (tdC (.str "set")) (tdCons (tdC (.str "a")) (tdCons (tdC (.str "*")) (tdCons (tdC (.str "a")) (tdCons (tdC (.int 0)) tdNil)))))) (tdCons (tdTup (tdCons (tdC (.str "store")) (tdCons (tdOp (rdP powD) (tdC (.int 10)) (tdC (.int 6))) (tdCons (tdOp (rdP subD) (tdC (.int 0)) (tdOp (rdP powD) (tdC (.int 10)) (tdC (.int 6)))) (tdCons (tdC (.int 0)) (tdCons (tdC (.int 0)) tdNil)))))) tdNil)))) (.nm 5)) (tdSeq (tdAsg (tdCB (rdC reprR) (tdCons (tdTup (tdCons (tdVar 3) (tdCons (tdVar 5) tdNil))) tdNil)) (.nm 8)) (tdSeq (tdFor (tdSeqI (tdVar 5)) (.nm 9) (tdSeq (tdAsg (tdCB (rdC reprR) (tdCons (tdCall d__law_is_seen [] (tdCons (tdVar 3) (tdCons (tdVar 9) tdNil))) tdNil)) (.nm 10)) (tdIfS (tdOr (tdB (tdOp (rdP (eqR true)) (tdCB (rdC reprR) (tdCons (tdCall d_is_event_row [] (tdCons (tdVar 3) (tdCons (tdVar 9) tdNil))) tdNil)) (tdVar 10))) (tdB (tdOp (rdP (eqR true)) (tdCB (rdC reprR) (tdCons (tdCallK d_is_event_row 0 2 [1, 0] [] tdNil (tdCons (tdVar 9) (tdCons (tdVar 3) tdNil))) tdNil)) (tdVar 10)))) (tdRet (tdC (.bl false))) tdNext))) (tdIfS (tdB (tdOp (rdP (eqR true)) (tdCB (rdC reprR) (tdCons (tdTup (tdCons (tdVar 3) (tdCons (tdVar 5) tdNil))) tdNil)) (tdVar 8))) (tdRet (tdC (.bl false))) tdNext)))))))))) (tdRet (tdC (.bl true)))))
def d_law : SpD := mkSp 1 N_law r_law
end Lk55

namespace Lk55
open PySem PySem.Spec PyProof.Rows L2 PL
abbrev topS (i : Nat) : Stmt := PySem.Challenge.pw_straightroads_k55_event_rows.main.body.getD i (.Pass ⟨0, 0, 0, 0⟩)
structure Fx (K : PySem.W.Frag) (w : World) (mg : Str → Option Value) where
  a_is_number : Addr
  fd_is_number : FuncData
  F_is_number : Fun K "is_number" "is_number" (topS 1) a_is_number fd_is_number
  g_is_number : mg "is_number" = some (.ref a_is_number)
  b_is_number : Binds K fd_is_number ["thing"] []
  a_spot_of : Addr
  fd_spot_of : FuncData
  F_spot_of : Fun K "spot_of" "spot_of" (topS 5) a_spot_of fd_spot_of
  g_spot_of : mg "spot_of" = some (.ref a_spot_of)
  b_spot_of : Binds K fd_spot_of ["row"] []
  a__law_yarn : Addr
  fd__law_yarn : FuncData
  F__law_yarn : Fun K "_law_yarn" "_law_yarn" (topS 9) a__law_yarn fd__law_yarn
  g__law_yarn : mg "_law_yarn" = some (.ref a__law_yarn)
  b__law_yarn : Binds K fd__law_yarn ["_law_script"] []
  a__law_spin : Addr
  fd__law_spin : FuncData
  F__law_spin : Fun K "_law_spin" "_law_spin" (topS 10) a__law_spin fd__law_spin
  g__law_spin : mg "_law_spin" = some (.ref a__law_spin)
  b__law_spin : Binds K fd__law_spin ["_law_yarn_here", "_law_many"] []
  a__law_spot : Addr
  fd__law_spot : FuncData
  F__law_spot : Fun K "_law_spot" "_law_spot" (topS 14) a__law_spot fd__law_spot
  g__law_spot : mg "_law_spot" = some (.ref a__law_spot)
  b__law_spot : Binds K fd__law_spot ["_law_line"] []
  a_is_safe_spot : Addr
  fd_is_safe_spot : FuncData
  F_is_safe_spot : Fun K "is_safe_spot" "is_safe_spot" (topS 6) a_is_safe_spot fd_is_safe_spot
  g_is_safe_spot : mg "is_safe_spot" = some (.ref a_is_safe_spot)
  b_is_safe_spot : Binds K fd_is_safe_spot ["code", "row"] []
  a__law_operand : Addr
  fd__law_operand : FuncData
  F__law_operand : Fun K "_law_operand" "_law_operand" (topS 11) a__law_operand fd__law_operand
  g__law_operand : mg "_law_operand" = some (.ref a__law_operand)
  b__law_operand : Binds K fd__law_operand ["_law_yarn_here"] []
  a__law_is_seen : Addr
  fd__law_is_seen : FuncData
  F__law_is_seen : Fun K "_law_is_seen" "_law_is_seen" (topS 15) a__law_is_seen fd__law_is_seen
  g__law_is_seen : mg "_law_is_seen" = some (.ref a__law_is_seen)
  b__law_is_seen : Binds K fd__law_is_seen ["_law_prog_here", "_law_line"] []
  a_is_event_row : Addr
  fd_is_event_row : FuncData
  F_is_event_row : Fun K "is_event_row" "is_event_row" (topS 7) a_is_event_row fd_is_event_row
  g_is_event_row : mg "is_event_row" = some (.ref a_is_event_row)
  b_is_event_row : Binds K fd_is_event_row ["code", "row"] []
  a__law_row : Addr
  fd__law_row : FuncData
  F__law_row : Fun K "_law_row" "_law_row" (topS 12) a__law_row fd__law_row
  g__law_row : mg "_law_row" = some (.ref a__law_row)
  b__law_row : Binds K fd__law_row ["_law_yarn_here", "_law_size", "_law_many"] []
  a__law_prog : Addr
  fd__law_prog : FuncData
  F__law_prog : Fun K "_law_prog" "_law_prog" (topS 13) a__law_prog fd__law_prog
  g__law_prog : mg "_law_prog" = some (.ref a__law_prog)
  b__law_prog : Binds K fd__law_prog ["_law_yarn_here"] []
  a_law : Addr
  fd_law : FuncData
  F_law : Fun K "law" "law" (topS 16) a_law fd_law
  g_law : mg "law" = some (.ref a_law)
  b_law : Binds K fd_law ["_law_script"] []
  kb0_is_event_row : KB K fd_is_event_row ["code", "row"] 0 ["row", "code"] [1, 0] []
  n_bool : mg "bool" = none
  n_int : mg "int" = none
  n_isinstance : mg "isinstance" = none
  n_len : mg "len" = none
  n_list : mg "list" = none
  n_min : mg "min" = none
  n_range : mg "range" = none
  n_repr : mg "repr" = none
  n_str : mg "str" = none
  n_tuple : mg "tuple" = none
  a_TOUCHING : Addr
  g_TOUCHING : mg "TOUCHING" = some (.ref a_TOUCHING)
  t_TOUCHING : KTab K w a_TOUCHING k_TOUCHING
  u_EXITS : Value
  v_EXITS : V
  g_EXITS : mg "EXITS" = some u_EXITS
  rv_EXITS : RelV v_EXITS u_EXITS
  r_EXITS : ∀ S H, RepD K S H c_EXITS v_EXITS
section
variable {P : Program} {w : World} {K : PySem.W.Frag} {mg : Str → Option Value} {base : Heap}
theorem sc_is_number : FnScope N_is_number ["thing"] (defScope (topS 1)) := ⟨rfl, rfl, rfl, by decide +kernel, rfl, by decide +kernel, by decide +kernel⟩
theorem ok_is_number (T : Fx K w mg) : DFn P w K mg base 1 T.a_is_number T.fd_is_number ["thing"] d_is_number := dfn_mk T.F_is_number sc_is_number fun cdv A outer s H h => (dss_one (ds_ret (de_and (de_callB dcal_isi (by rfl) T.n_isinstance bt_isinstance (da_cons (de_var (i := 0) rfl (.inl rfl)) (da_cons (de_bltn (by rfl) T.n_int bt_int) da_nil))) (de_one (de_not (de_callB dcal_isi (by rfl) T.n_isinstance bt_isinstance (da_cons (de_var (i := 0) rfl (.inl rfl)) (da_cons (de_bltn (by rfl) T.n_bool bt_bool) da_nil))))))))
theorem sc_spot_of : FnScope N_spot_of ["row"] (defScope (topS 5)) := ⟨rfl, rfl, rfl, by decide +kernel, rfl, by decide +kernel, by decide +kernel⟩
theorem ok_spot_of (T : Fx K w mg) : DFn P w K mg base 1 T.a_spot_of T.fd_spot_of ["row"] d_spot_of := dfn_mk T.F_spot_of sc_spot_of fun cdv A outer s H h => (dss_cons (ds_asg (de_kget T.t_TOUCHING (de_ix (de_var (i := 0) rfl (.inl rfl)) de_int (fun _ _ => rfl)) (by rfl) T.g_TOUCHING (fun _ _ => rfl)) (dp_tup rfl (dps_cons (dp_name (i := 1) sc_spot_of.nd rfl (.inl rfl)) (dps_cons (dp_name (i := 2) sc_spot_of.nd rfl (.inl rfl)) dps_nil)))) (dss_one (ds_ret (de_tup (da_cons (de_ix (de_var (i := 0) rfl (.inl rfl)) (de_var (i := 1) rfl (.inl rfl)) (fun _ _ => rfl)) (da_cons (de_ix (de_var (i := 0) rfl (.inl rfl)) (de_var (i := 2) rfl (.inl rfl)) (fun _ _ => rfl)) da_nil))))))
theorem sc__law_yarn : FnScope N__law_yarn ["_law_script"] (defScope (topS 9)) := ⟨rfl, rfl, rfl, by decide +kernel, rfl, by decide +kernel, by decide +kernel⟩
theorem ok__law_yarn (T : Fx K w mg) : DFn P w K mg base 1 T.a__law_yarn T.fd__law_yarn ["_law_script"] d__law_yarn := dfn_mk T.F__law_yarn sc__law_yarn fun cdv A outer s H h => (dss_one (ds_ret (de_lstR (da_cons (de_slice (de_var (i := 0) rfl (.inl rfl)) do_none (do_some de_int)) (da_cons de_int (da_cons de_int (da_cons de_int da_nil)))))))
theorem sc__law_spin : FnScope N__law_spin ["_law_yarn_here", "_law_many"] (defScope (topS 10)) := ⟨rfl, rfl, rfl, by decide +kernel, rfl, by decide +kernel, by decide +kernel⟩
theorem ok__law_spin (T : Fx K w mg) : DFn P w K mg base 1 T.a__law_spin T.fd__law_spin ["_law_yarn_here", "_law_many"] d__law_spin := dfn_mk T.F__law_spin sc__law_spin fun cdv A outer s H h => (dss_cons (ds_set (i := 2) sc__law_spin.nd rfl (.inl rfl) (de_ix (de_var (i := 0) rfl (.inl rfl)) de_int (fun _ _ => rfl))) (dss_cons (ds_setI (de_op dop_add (de_var (i := 2) rfl (.inl rfl)) de_int) (de_var (i := 0) rfl (.inl rfl)) de_int) (dss_cons (ds_if (dt_cmp dop_gt (de_ix (de_var (i := 0) rfl (.inl rfl)) de_int (fun _ _ => rfl)) de_int (nomark _)) (dss_cons (ds_set (i := 3) sc__law_spin.nd rfl (.inl rfl) (de_op dop_mod (de_ix (de_var (i := 0) rfl (.inl rfl)) de_int (fun _ _ => rfl)) (de_var (i := 1) rfl (.inl rfl)))) (dss_cons (ds_setI (de_op dop_fdiv (de_ix (de_var (i := 0) rfl (.inl rfl)) de_int (fun _ _ => rfl)) (de_var (i := 1) rfl (.inl rfl))) (de_var (i := 0) rfl (.inl rfl)) de_int) (dss_one (ds_ret (de_var (i := 3) rfl (.inl rfl)))))) dss_nil) (dss_cons (ds_set (i := 4) sc__law_spin.nd rfl (.inl rfl) (de_ix (de_var (i := 0) rfl (.inl rfl)) de_int (fun _ _ => rfl))) (dss_cons (ds_setI (de_op dop_add (de_var (i := 4) rfl (.inl rfl)) de_int) (de_var (i := 0) rfl (.inl rfl)) de_int) (dss_cons (ds_set (i := 5) sc__law_spin.nd rfl (.inl rfl) (de_if (dt_cmp (dop_ne h.u) (de_ix (de_var (i := 0) rfl (.inl rfl)) de_int (fun _ _ => rfl)) (de_lst da_nil) (nomark _)) (de_ix (de_ix (de_var (i := 0) rfl (.inl rfl)) de_int (fun _ _ => rfl)) (de_op dop_mod (de_var (i := 4) rfl (.inl rfl)) (de_callB dcal_len (by rfl) T.n_len bt_len (da_cons (de_ix (de_var (i := 0) rfl (.inl rfl)) de_int (fun _ _ => rfl)) da_nil))) (fun _ _ => rfl)) de_int)) (dss_cons (ds_if (DW.dt (dw_and (dt_cmp dop_ge (de_var (i := 5) rfl (.inl rfl)) (de_op dop_pow de_int de_int) (nomark _)) (dw_and1 (dt_cmp dop_lt (de_var (i := 4) rfl (.inl rfl)) (de_callB dcal_len (by rfl) T.n_len bt_len (da_cons (de_ix (de_var (i := 0) rfl (.inl rfl)) de_int (fun _ _ => rfl)) da_nil)) (nomark _))))) (dss_cons (ds_setI (de_op dop_fdiv (de_var (i := 5) rfl (.inl rfl)) (de_var (i := 1) rfl (.inl rfl))) (de_var (i := 0) rfl (.inl rfl)) de_int) (dss_one (ds_ret (de_op dop_mod (de_var (i := 5) rfl (.inl rfl)) (de_var (i := 1) rfl (.inl rfl)))))) dss_nil) (dss_cons (ds_set (i := 6) sc__law_spin.nd rfl (.inl rfl) (de_op dop_add (de_op dop_add (de_op dop_add (de_op dop_mod (de_var (i := 5) rfl (.inl rfl)) de_int) (de_op dop_mul (de_op dop_mul de_int (de_var (i := 2) rfl (.inl rfl))) (de_var (i := 2) rfl (.inl rfl)))) (de_op dop_mul de_int (de_var (i := 2) rfl (.inl rfl)))) de_int)) (dss_cons (ds_set (i := 6) sc__law_spin.nd rfl (.inl rfl) (de_op dop_mod (de_op dop_add (de_op dop_add (de_op dop_mul (de_var (i := 6) rfl (.inl rfl)) (de_var (i := 6) rfl (.inl rfl))) (de_op dop_mul de_int (de_var (i := 2) rfl (.inl rfl)))) de_int) de_int)) (dss_one (ds_ret (de_op dop_mod (de_op dop_fdiv (de_op dop_mod (de_op dop_add (de_op dop_mul (de_var (i := 6) rfl (.inl rfl)) (de_var (i := 6) rfl (.inl rfl))) (de_op dop_mul de_int (de_var (i := 6) rfl (.inl rfl)))) de_int) de_int) (de_var (i := 1) rfl (.inl rfl))))))))))))))
theorem sc__law_spot : FnScope N__law_spot ["_law_line"] (defScope (topS 14)) := ⟨rfl, rfl, rfl, by decide +kernel, rfl, by decide +kernel, by decide +kernel⟩
theorem ok__law_spot (T : Fx K w mg) : DFn P w K mg base 1 T.a__law_spot T.fd__law_spot ["_law_line"] d__law_spot := dfn_mk T.F__law_spot sc__law_spot fun cdv A outer s H h => (dss_cons (ds_set (i := 1) sc__law_spot.nd rfl (.inl rfl) (de_get2 h.u (de_disp (dpp_cons de_int (dpp_cons de_int (dpp_cons de_int dpp_nil))) (by decide +kernel) (by decide)) (de_ix (de_var (i := 0) rfl (.inl rfl)) de_int (fun _ _ => rfl)) de_non ⟨by rfl, by rfl, by rfl, by rfl⟩)) (dss_one (ds_ret (de_if (dt_cmp dop_isN (de_var (i := 1) rfl (.inl rfl)) de_non (nomark _)) de_non (de_slice (de_var (i := 0) rfl (.inl rfl)) (do_some (de_var (i := 1) rfl (.inl rfl))) (do_some (de_op dop_add (de_var (i := 1) rfl (.inl rfl)) de_int)))))))
theorem sc_is_safe_spot : FnScope N_is_safe_spot ["code", "row"] (defScope (topS 6)) := ⟨rfl, rfl, rfl, by decide +kernel, rfl, by decide +kernel, by decide +kernel⟩
theorem ok_is_safe_spot (T : Fx K w mg) : DFn P w K mg base 2 T.a_is_safe_spot T.fd_is_safe_spot ["code", "row"] d_is_safe_spot := dfn_mk T.F_is_safe_spot sc_is_safe_spot fun cdv A outer s H h => (dss_cons (ds_asg (de_call ((ok_spot_of T).up (by decide)) h.g h.r (by rfl) T.g_spot_of T.F_spot_of.kp T.b_spot_of .nil (fun _ _ => .nil) (da_cons (de_var (i := 1) rfl (.inl rfl)) da_nil)) (dp_tup rfl (dps_cons (dp_name (i := 2) sc_is_safe_spot.nd rfl (.inl rfl)) (dps_cons (dp_name (i := 3) sc_is_safe_spot.nd rfl (.inl rfl)) dps_nil)))) (dss_one (ds_ret (de_and (de_call ((ok_is_number T).up (by decide)) h.g h.r (by rfl) T.g_is_number T.F_is_number.kp T.b_is_number .nil (fun _ _ => .nil) (da_cons (de_var (i := 2) rfl (.inl rfl)) da_nil)) (de_one (de_chain dop_le dop_lt de_int (de_op dop_add (de_var (i := 2) rfl (.inl rfl)) (de_var (i := 3) rfl (.inl rfl))) (de_ix (de_var (i := 0) rfl (.inl rfl)) de_int (fun _ _ => rfl))))))))
theorem sc__law_operand : FnScope N__law_operand ["_law_yarn_here"] (defScope (topS 11)) := ⟨rfl, rfl, rfl, by decide +kernel, rfl, by decide +kernel, by decide +kernel⟩
theorem ok__law_operand (T : Fx K w mg) : DFn P w K mg base 2 T.a__law_operand T.fd__law_operand ["_law_yarn_here"] d__law_operand := dfn_mk T.F__law_operand sc__law_operand fun cdv A outer s H h => (dss_one (ds_ret (de_ix (de_lst (da_cons de_int (da_cons de_int (da_cons de_int (da_cons de_str (da_cons de_str (da_cons de_str (da_cons de_str (da_cons (de_un dun_neg de_int) da_nil))))))))) (de_call ((ok__law_spin T).up (by decide)) h.g h.r (by rfl) T.g__law_spin T.F__law_spin.kp T.b__law_spin .nil (fun _ _ => .nil) (da_cons (de_var (i := 0) rfl (.inl rfl)) (da_cons de_int da_nil))) (fun _ _ => rfl))))
theorem sc__law_is_seen : FnScope N__law_is_seen ["_law_prog_here", "_law_line"] (defScope (topS 15)) := ⟨rfl, rfl, rfl, by decide +kernel, rfl, by decide +kernel, by decide +kernel⟩
theorem ok__law_is_seen (T : Fx K w mg) : DFn P w K mg base 2 T.a__law_is_seen T.fd__law_is_seen ["_law_prog_here", "_law_line"] d__law_is_seen := dfn_mk T.F__law_is_seen sc__law_is_seen fun cdv A outer s H h => (dss_cons (ds_if (dt_cmp (dop_in h.u) (de_ix (de_var (i := 1) rfl (.inl rfl)) de_int (fun _ _ => rfl)) (de_tup (da_cons de_str (da_cons de_str da_nil))) (by rfl)) (dss_cons (ds_asg (de_call ((ok__law_spot T).up (by decide)) h.g h.r (by rfl) T.g__law_spot T.F__law_spot.kp T.b__law_spot .nil (fun _ _ => .nil) (da_cons (de_var (i := 1) rfl (.inl rfl)) da_nil)) (dp_tup rfl (dps_cons (dp_name (i := 2) sc__law_is_seen.nd rfl (.inl rfl)) (dps_cons (dp_name (i := 3) sc__law_is_seen.nd rfl (.inl rfl)) dps_nil)))) (dss_one (ds_ret (de_or (de_callB dcal_isi (by rfl) T.n_isinstance bt_isinstance (da_cons (de_var (i := 2) rfl (.inl rfl)) (da_cons (de_bltn (by rfl) T.n_str bt_str) da_nil))) (de_one (de_not (de_chain dop_le dop_lt de_int (de_op dop_add (de_var (i := 2) rfl (.inl rfl)) (de_var (i := 3) rfl (.inl rfl))) (de_ix (de_var (i := 0) rfl (.inl rfl)) de_int (fun _ _ => rfl))))))))) dss_nil) (dss_cons (ds_if (dt_cmp (dop_eq h.u) (de_ix (de_var (i := 1) rfl (.inl rfl)) de_int (fun _ _ => rfl)) de_str (nomark _)) (dss_one (ds_ret (de_or (de_callB dcal_isi (by rfl) T.n_isinstance bt_isinstance (da_cons (de_ix (de_var (i := 1) rfl (.inl rfl)) de_int (fun _ _ => rfl)) (da_cons (de_bltn (by rfl) T.n_str bt_str) da_nil))) (de_one (de_cmp (dop_eq h.u) (de_ix (de_var (i := 1) rfl (.inl rfl)) de_int (fun _ _ => rfl)) de_int (nomark _)))))) dss_nil) (dss_one (ds_ret (de_cmp (dop_in h.u) (de_ix (de_var (i := 1) rfl (.inl rfl)) de_int (fun _ _ => rfl)) (de_tup (da_cons de_str (da_cons de_str (da_cons de_str (da_cons de_str da_nil))))) (by rfl))))))
theorem sc_is_event_row : FnScope N_is_event_row ["code", "row"] (defScope (topS 7)) := ⟨rfl, rfl, rfl, by decide +kernel, rfl, by decide +kernel, by decide +kernel⟩
theorem ok_is_event_row (T : Fx K w mg) : DFn P w K mg base 3 T.a_is_event_row T.fd_is_event_row ["code", "row"] d_is_event_row := dfn_mk T.F_is_event_row sc_is_event_row fun cdv A outer s H h => (dss_cons (ds_if (dt_cmp (dop_in h.u) (de_ix (de_var (i := 1) rfl (.inl rfl)) de_int (fun _ _ => rfl)) (de_tup (da_cons de_str (da_cons de_str da_nil))) (by rfl)) (dss_one (ds_ret (de_not (de_call ((ok_is_safe_spot T).up (by decide)) h.g h.r (by rfl) T.g_is_safe_spot T.F_is_safe_spot.kp T.b_is_safe_spot .nil (fun _ _ => .nil) (da_cons (de_var (i := 0) rfl (.inl rfl)) (da_cons (de_var (i := 1) rfl (.inl rfl)) da_nil)))))) dss_nil) (dss_cons (ds_if (dt_cmp (dop_eq h.u) (de_ix (de_var (i := 1) rfl (.inl rfl)) de_int (fun _ _ => rfl)) de_str (nomark _)) (dss_one (ds_ret (de_or (de_not (de_call ((ok_is_number T).up (by decide)) h.g h.r (by rfl) T.g_is_number T.F_is_number.kp T.b_is_number .nil (fun _ _ => .nil) (da_cons (de_ix (de_var (i := 1) rfl (.inl rfl)) de_int (fun _ _ => rfl)) da_nil))) (de_one (de_cmp (dop_eq h.u) (de_ix (de_var (i := 1) rfl (.inl rfl)) de_int (fun _ _ => rfl)) de_int (nomark _)))))) dss_nil) (dss_one (ds_ret (de_cmp (dop_in h.u) (de_ix (de_var (i := 1) rfl (.inl rfl)) de_int (fun _ _ => rfl)) (de_op dop_add (de_glob (by rfl) T.g_EXITS T.rv_EXITS T.r_EXITS) (de_tup (da_cons de_str (da_cons de_str da_nil)))) (by rfl))))))
theorem sc__law_row : FnScope N__law_row ["_law_yarn_here", "_law_size", "_law_many"] (defScope (topS 12)) := ⟨rfl, rfl, rfl, by decide +kernel, rfl, by decide +kernel, by decide +kernel⟩
theorem ok__law_row (T : Fx K w mg) : DFn P w K mg base 3 T.a__law_row T.fd__law_row ["_law_yarn_here", "_law_size", "_law_many"] d__law_row := dfn_mk T.F__law_row sc__law_row fun cdv A outer s H h => (dss_cons (ds_par3 (i := 3) (j := 4) (l := 5) rfl sc__law_row.nd rfl rfl rfl (by decide) (by decide) (by decide) rfl rfl rfl (da_cons (de_call ((ok__law_spin T).up (by decide)) h.g h.r (by rfl) T.g__law_spin T.F__law_spin.kp T.b__law_spin .nil (fun _ _ => .nil) (da_cons (de_var (i := 0) rfl (.inl rfl)) (da_cons de_int da_nil))) (da_cons (de_lst (da_cons de_str (da_cons de_str (da_cons de_str (da_cons de_str da_nil))))) (da_cons (de_call ((ok__law_spin T).up (by decide)) h.g h.r (by rfl) T.g__law_spin T.F__law_spin.kp T.b__law_spin .nil (fun _ _ => .nil) (da_cons (de_var (i := 0) rfl (.inl rfl)) (da_cons de_int da_nil))) da_nil))) (by rfl)) (dss_cons (ds_par (i := 6) (j := 7) rfl sc__law_row.nd rfl rfl (by decide) rfl rfl (da_cons (de_ix (de_var (i := 4) rfl (.inl rfl)) (de_call ((ok__law_spin T).up (by decide)) h.g h.r (by rfl) T.g__law_spin T.F__law_spin.kp T.b__law_spin .nil (fun _ _ => .nil) (da_cons (de_var (i := 0) rfl (.inl rfl)) (da_cons de_int da_nil))) (fun _ _ => rfl)) (da_cons (de_call ((ok__law_spin T).up (by decide)) h.g h.r (by rfl) T.g__law_spin T.F__law_spin.kp T.b__law_spin .nil (fun _ _ => .nil) (da_cons (de_var (i := 0) rfl (.inl rfl)) (da_cons de_int da_nil))) da_nil)) (by rfl)) (dss_cons (ds_par (i := 8) (j := 9) rfl sc__law_row.nd rfl rfl (by decide) rfl rfl (da_cons (de_ix (de_lst (da_cons de_int (da_cons de_int (da_cons de_str (da_cons de_str da_nil))))) (de_call ((ok__law_spin T).up (by decide)) h.g h.r (by rfl) T.g__law_spin T.F__law_spin.kp T.b__law_spin .nil (fun _ _ => .nil) (da_cons (de_var (i := 0) rfl (.inl rfl)) (da_cons de_int da_nil))) (fun _ _ => rfl)) (da_cons (de_op dop_sub (de_call ((ok__law_spin T).up (by decide)) h.g h.r (by rfl) T.g__law_spin T.F__law_spin.kp T.b__law_spin .nil (fun _ _ => .nil) (da_cons (de_var (i := 0) rfl (.inl rfl)) (da_cons (de_op dop_add (de_var (i := 1) rfl (.inl rfl)) de_int) da_nil))) (de_callTy dcal_int (by rfl) T.n_int bt_int (da_cons (de_cmp (dop_eq h.u) (de_var (i := 7) rfl (.inl rfl)) de_int (nomark _)) da_nil))) da_nil)) (by rfl)) (dss_cons (ds_par (i := 10) (j := 11) rfl sc__law_row.nd rfl rfl (by decide) rfl rfl (da_cons (de_call ((ok__law_operand T).up (by decide)) h.g h.r (by rfl) T.g__law_operand T.F__law_operand.kp T.b__law_operand .nil (fun _ _ => .nil) (da_cons (de_var (i := 0) rfl (.inl rfl)) da_nil)) (da_cons (de_call ((ok__law_operand T).up (by decide)) h.g h.r (by rfl) T.g__law_operand T.F__law_operand.kp T.b__law_operand .nil (fun _ _ => .nil) (da_cons (de_var (i := 0) rfl (.inl rfl)) da_nil)) da_nil)) (by rfl)) (dss_cons (ds_if (dt_cmp dop_lt (de_var (i := 3) rfl (.inl rfl)) de_int (nomark _)) (dss_cons (ds_set (i := 12) sc__law_row.nd rfl (.inl rfl) (de_ix (de_lst (da_cons de_str (da_cons de_str (da_cons de_str (da_cons de_str da_nil))))) (de_call ((ok__law_spin T).up (by decide)) h.g h.r (by rfl) T.g__law_spin T.F__law_spin.kp T.b__law_spin .nil (fun _ _ => .nil) (da_cons (de_var (i := 0) rfl (.inl rfl)) (da_cons de_int da_nil))) (fun _ _ => rfl))) (dss_one (ds_ret (de_tup (da_cons de_str (da_cons (de_var (i := 6) rfl (.inl rfl)) (da_cons (de_var (i := 12) rfl (.inl rfl)) (da_cons (de_var (i := 10) rfl (.inl rfl)) (da_cons (de_if (dt_cmp (dop_eq h.u) (de_var (i := 12) rfl (.inl rfl)) de_str (nomark _)) (de_var (i := 7) rfl (.inl rfl)) (de_var (i := 11) rfl (.inl rfl))) da_nil))))))))) dss_nil) (dss_cons (ds_if (dt_cmp dop_lt (de_var (i := 3) rfl (.inl rfl)) de_int (nomark _)) (dss_one (ds_ret (de_tup (da_cons de_str (da_cons (de_var (i := 6) rfl (.inl rfl)) (da_cons (de_var (i := 8) rfl (.inl rfl)) (da_cons (de_var (i := 9) rfl (.inl rfl)) (da_cons (de_var (i := 5) rfl (.inl rfl)) da_nil)))))))) dss_nil) (dss_cons (ds_if (dt_cmp dop_lt (de_var (i := 3) rfl (.inl rfl)) de_int (nomark _)) (dss_one (ds_ret (de_tup (da_cons de_str (da_cons (de_var (i := 8) rfl (.inl rfl)) (da_cons (de_var (i := 9) rfl (.inl rfl)) (da_cons (de_var (i := 10) rfl (.inl rfl)) (da_cons (de_var (i := 5) rfl (.inl rfl)) da_nil)))))))) dss_nil) (dss_cons (ds_if (dt_cmp dop_lt (de_var (i := 3) rfl (.inl rfl)) de_int (nomark _)) (dss_one (ds_ret (de_if (dt_cmp (dop_eq h.u) (de_var (i := 3) rfl (.inl rfl)) de_int (nomark _)) (de_tup (da_cons de_str (da_cons (de_var (i := 6) rfl (.inl rfl)) (da_cons (de_var (i := 10) rfl (.inl rfl)) (da_cons (de_var (i := 11) rfl (.inl rfl)) (da_cons (de_var (i := 5) rfl (.inl rfl)) da_nil)))))) (de_tup (da_cons de_str (da_cons (de_var (i := 10) rfl (.inl rfl)) da_nil)))))) dss_nil) (dss_cons (ds_if (dt_cmp dop_lt (de_var (i := 3) rfl (.inl rfl)) de_int (nomark _)) (dss_one (ds_ret (de_tup (da_cons (de_ix (de_lst (da_cons de_str (da_cons de_str (da_cons de_str da_nil)))) (de_op dop_sub (de_var (i := 3) rfl (.inl rfl)) de_int) (fun _ _ => rfl)) (da_cons (de_var (i := 10) rfl (.inl rfl)) (da_cons (de_call ((ok__law_spin T).up (by decide)) h.g h.r (by rfl) T.g__law_spin T.F__law_spin.kp T.b__law_spin .nil (fun _ _ => .nil) (da_cons (de_var (i := 0) rfl (.inl rfl)) (da_cons (de_var (i := 2) rfl (.inl rfl)) da_nil))) da_nil)))))) dss_nil) (dss_cons (ds_set (i := 13) sc__law_row.nd rfl (.inl rfl) (de_if (dt_cmp dop_lt (de_var (i := 7) rfl (.inl rfl)) de_int (nomark _)) de_str (de_op dop_add (de_op dop_mulS de_str (de_callTy dcal_int (by rfl) T.n_int bt_int (da_cons (de_cmp (dop_ne h.u) (de_var (i := 6) rfl (.inl rfl)) de_str (nomark _)) da_nil))) de_str))) (dss_cons (ds_set (i := 14) sc__law_row.nd rfl (.inl rfl) (de_lst (da_cons (de_tup (da_cons de_str (da_cons (de_var (i := 6) rfl (.inl rfl)) (da_cons (de_var (i := 13) rfl (.inl rfl)) (da_cons (de_var (i := 8) rfl (.inl rfl)) (da_cons (de_var (i := 9) rfl (.inl rfl)) da_nil)))))) (da_cons (de_tup (da_cons de_str (da_cons (de_var (i := 6) rfl (.inl rfl)) (da_cons (de_var (i := 13) rfl (.inl rfl)) (da_cons (de_var (i := 10) rfl (.inl rfl)) (da_cons (de_var (i := 11) rfl (.inl rfl)) da_nil)))))) (da_cons (de_tup (da_cons de_str (da_cons (de_var (i := 13) rfl (.inl rfl)) (da_cons (de_var (i := 5) rfl (.inl rfl)) da_nil)))) da_nil))))) (dss_one (ds_ret (de_ix (de_var (i := 14) rfl (.inl rfl)) (de_call ((ok__law_spin T).up (by decide)) h.g h.r (by rfl) T.g__law_spin T.F__law_spin.kp T.b__law_spin .nil (fun _ _ => .nil) (da_cons (de_var (i := 0) rfl (.inl rfl)) (da_cons de_int da_nil))) (fun _ _ => rfl)))))))))))))))
theorem sc__law_prog : FnScope N__law_prog ["_law_yarn_here"] (defScope (topS 13)) := ⟨rfl, rfl, rfl, by decide +kernel, rfl, by decide +kernel, by decide +kernel⟩
theorem ok__law_prog (T : Fx K w mg) : DFn P w K mg base 4 T.a__law_prog T.fd__law_prog ["_law_yarn_here"] d__law_prog := dfn_mk T.F__law_prog sc__law_prog fun cdv A outer s H h => (dss_cons (ds_asg (de_tup (da_cons (de_op dop_add de_int (de_call ((ok__law_spin T).up (by decide)) h.g h.r (by rfl) T.g__law_spin T.F__law_spin.kp T.b__law_spin .nil (fun _ _ => .nil) (da_cons (de_var (i := 0) rfl (.inr (.inl rfl))) (da_cons de_int da_nil)))) (da_cons (de_op dop_add de_int (de_call ((ok__law_spin T).up (by decide)) h.g h.r (by rfl) T.g__law_spin T.F__law_spin.kp T.b__law_spin .nil (fun _ _ => .nil) (da_cons (de_var (i := 0) rfl (.inr (.inl rfl))) (da_cons de_int da_nil)))) da_nil))) (dp_tup rfl (dps_cons (dp_name (i := 1) sc__law_prog.nd rfl (.inr rfl)) (dps_cons (dp_name (i := 2) sc__law_prog.nd rfl (.inr rfl)) dps_nil)))) (dss_cons (ds_set (i := 3) sc__law_prog.nd rfl (.inl rfl) (de_lstR da_nil)) (dss_cons (ds_for PassesOwn.never rfl (di_range1 (by rfl) T.n_range (da_cons (de_var (i := 2) rfl (.inr (.inl rfl))) da_nil)) (dp_name (i := 4) sc__law_prog.nd rfl (.inl rfl)) (dss_cons (ds_set (i := 5) sc__law_prog.nd rfl (.inl rfl) (de_callTy dcal_tuple (by rfl) T.n_tuple bt_tuple (da_cons (de_lc (own := [("_law_j", 7)]) rfl sc__law_prog.nd (di_range1 (by rfl) T.n_range (da_cons (de_call ((ok__law_spin T).up (by decide)) h.g h.r (by rfl) T.g__law_spin T.F__law_spin.kp T.b__law_spin .nil (fun _ _ => .nil) (da_cons (de_var (i := 0) rfl (.inr (.inl rfl))) (da_cons de_int da_nil))) da_nil)) (blkOk_by (own := [("_law_j", 7)]) (N := N__law_prog) (sc := defScope (topS 13)) (by decide +kernel)) (by decide) (fun _ _ _ _ _ => (dp_name (i := 7) sc__law_prog.nd rfl (.inl rfl))) (fun _ _ _ _ _ => dts_nil) (fun _ _ _ _ _ => (de_call ((ok__law_row T).up (by decide)) h.g h.r (by rfl) T.g__law_row T.F__law_row.kp T.b__law_row .nil (fun _ _ => .nil) (da_cons (de_var (i := 0) rfl (.inr (.inl rfl))) (da_cons (de_var (i := 1) rfl (.inr (.inl rfl))) (da_cons (de_var (i := 2) rfl (.inr (.inl rfl))) da_nil)))))) da_nil))) (dss_cons (ds_set (i := 6) sc__law_prog.nd rfl (.inl rfl) (de_lst (da_cons (de_tup (da_cons de_str (da_cons (de_callB (dcal_min rfl) (by rfl) T.n_min bt_min (da_cons (de_op dop_add (de_var (i := 4) rfl (.inl rfl)) de_int) (da_cons (de_op dop_sub (de_var (i := 2) rfl (.inr (.inl rfl))) de_int) da_nil))) da_nil))) (da_cons (de_tup (da_cons de_str (da_cons (de_call ((ok__law_spin T).up (by decide)) h.g h.r (by rfl) T.g__law_spin T.F__law_spin.kp T.b__law_spin .nil (fun _ _ => .nil) (da_cons (de_var (i := 0) rfl (.inr (.inl rfl))) (da_cons (de_var (i := 2) rfl (.inr (.inl rfl))) da_nil))) da_nil))) (da_cons (de_tup (da_cons de_str da_nil)) (da_cons (de_tup (da_cons de_str da_nil)) da_nil)))))) (dss_one (ds_expr (de_lm PySem.F.slot_list_append PySem.F.type_list_append mtd_append (de_var (i := 3) rfl (.inl rfl)) (da_cons (de_tup (da_cons (de_var (i := 5) rfl (.inl rfl)) (da_cons (de_ix (de_var (i := 6) rfl (.inl rfl)) (de_call ((ok__law_spin T).up (by decide)) h.g h.r (by rfl) T.g__law_spin T.F__law_spin.kp T.b__law_spin .nil (fun _ _ => .nil) (da_cons (de_var (i := 0) rfl (.inr (.inl rfl))) (da_cons de_int da_nil))) (fun _ _ => rfl)) da_nil))) da_nil))))))) (dss_one (ds_ret (de_tup (da_cons (de_var (i := 1) rfl (.inr (.inl rfl))) (da_cons (de_callTy dcal_tuple (by rfl) T.n_tuple bt_tuple (da_cons (de_var (i := 3) rfl (.inl rfl)) da_nil)) da_nil))))))))
theorem sc_law : FnScope N_law ["_law_script"] (defScope (topS 16)) := ⟨rfl, rfl, rfl, by decide +kernel, rfl, by decide +kernel, by decide +kernel⟩
theorem ok_law (T : Fx K w mg) : DFn P w K mg base 5 T.a_law T.fd_law ["_law_script"] d_law := dfn_mk T.F_law sc_law fun cdv A outer s H h => (dss_cons (ds_set (i := 1) sc_law.nd rfl (.inl rfl) (de_call ((ok__law_yarn T).up (by decide)) h.g h.r (by rfl) T.g__law_yarn T.F__law_yarn.kp T.b__law_yarn .nil (fun _ _ => .nil) (da_cons (de_var (i := 0) rfl (.inl rfl)) da_nil))) (dss_cons (ds_for PassesOwn.never rfl (di_range1 (by rfl) T.n_range (da_cons de_int da_nil)) (dp_name (i := 2) sc_law.nd rfl (.inl rfl)) (dss_cons (ds_set (i := 3) sc_law.nd rfl (.inl rfl) (de_call ((ok__law_prog T).up (by decide)) h.g h.r (by rfl) T.g__law_prog T.F__law_prog.kp T.b__law_prog .nil (fun _ _ => .nil) (da_cons (de_var (i := 1) rfl (.inl rfl)) da_nil))) (dss_cons (ds_par (i := 4) (j := 5) rfl sc_law.nd rfl rfl (by decide) rfl rfl (da_cons (de_ix (de_var (i := 3) rfl (.inl rfl)) de_int (fun _ _ => rfl)) (da_cons (de_lst da_nil) da_nil)) (by rfl)) (dss_cons (ds_for PassesOwn.never rfl (di_seq (de_ix (de_var (i := 3) rfl (.inl rfl)) de_int (fun _ _ => rfl))) (dp_name (i := 6) sc_law.nd rfl (.inl rfl)) (dss_one (ds_set (i := 5) sc_law.nd rfl (.inl rfl) (de_op dop_add (de_var (i := 5) rfl (.inl rfl)) (de_callTy dcal_list (by rfl) T.n_list bt_list (da_cons (de_ix (de_var (i := 6) rfl (.inl rfl)) de_int (fun _ _ => rfl)) da_nil)))))) (dss_cons (ds_for PassesOwn.never rfl (di_seq (de_tup (da_cons (de_un dun_neg de_int) (da_cons de_int (da_cons (de_op dop_sub (de_var (i := 4) rfl (.inl rfl)) de_int) (da_cons (de_var (i := 4) rfl (.inl rfl)) (da_cons (de_op dop_add (de_var (i := 4) rfl (.inl rfl)) de_int) da_nil))))))) (dp_name (i := 7) sc_law.nd rfl (.inl rfl)) (dss_cons (ds_set (i := 5) sc_law.nd rfl (.inl rfl) (de_op dop_add (de_var (i := 5) rfl (.inl rfl)) (de_lst (da_cons (de_tup (da_cons de_str (da_cons de_str (da_cons de_int (da_cons (de_var (i := 7) rfl (.inl rfl)) (da_cons de_int da_nil)))))) (da_cons (de_tup (da_cons de_str (da_cons de_int (da_cons (de_var (i := 7) rfl (.inl rfl)) (da_cons de_str (da_cons de_int da_nil)))))) (da_cons (de_tup (da_cons de_str (da_cons de_str (da_cons (de_var (i := 7) rfl (.inl rfl)) (da_cons de_int (da_cons de_int da_nil)))))) da_nil)))))) (dss_cons (ds_set (i := 5) sc_law.nd rfl (.inl rfl) (de_op dop_add (de_var (i := 5) rfl (.inl rfl)) (de_lst (da_cons (de_tup (da_cons de_str (da_cons (de_var (i := 7) rfl (.inl rfl)) (da_cons (de_un dun_neg de_int) (da_cons de_int (da_cons de_int da_nil)))))) (da_cons (de_tup (da_cons de_str (da_cons de_str (da_cons de_str (da_cons de_int (da_cons (de_var (i := 7) rfl (.inl rfl)) da_nil)))))) (da_cons (de_tup (da_cons de_str (da_cons de_str (da_cons de_int (da_cons (de_var (i := 7) rfl (.inl rfl)) (da_cons de_int da_nil)))))) da_nil)))))) (dss_one (ds_set (i := 5) sc_law.nd rfl (.inl rfl) (de_op dop_add (de_var (i := 5) rfl (.inl rfl)) (de_lst (da_cons (de_tup (da_cons de_str (da_cons de_str (da_cons de_str (da_cons de_int (da_cons (de_var (i := 7) rfl (.inl rfl)) da_nil)))))) (da_cons (de_tup (da_cons de_str (da_cons de_str (da_cons de_str (da_cons (de_var (i := 7) rfl (.inl rfl)) (da_cons de_int da_nil)))))) da_nil))))))))) (dss_cons (ds_set (i := 5) sc_law.nd rfl (.inl rfl) (de_op dop_add (de_var (i := 5) rfl (.inl rfl)) (de_lst (da_cons (de_tup (da_cons de_str (da_cons de_str (da_cons de_str (da_cons de_str (da_cons de_int da_nil)))))) (da_cons (de_tup (da_cons de_str (da_cons de_int da_nil))) (da_cons (de_tup (da_cons de_str (da_cons de_str (da_cons de_int da_nil)))) (da_cons (de_tup (da_cons de_str (da_cons de_int (da_cons de_int da_nil)))) (da_cons (de_tup (da_cons de_str (da_cons de_str (da_cons de_int da_nil)))) da_nil)))))))) (dss_cons (ds_set (i := 5) sc_law.nd rfl (.inl rfl) (de_op dop_add (de_var (i := 5) rfl (.inl rfl)) (de_lst (da_cons (de_tup (da_cons de_str (da_cons de_str (da_cons de_str (da_cons de_str (da_cons de_int da_nil)))))) (da_cons (de_tup (da_cons de_str (da_cons (de_op dop_pow de_int de_int) (da_cons (de_op dop_sub de_int (de_op dop_pow de_int de_int)) (da_cons de_int (da_cons de_int da_nil)))))) da_nil))))) (dss_cons (ds_set (i := 8) sc_law.nd rfl (.inl rfl) (de_callB (dcal_repr h.g h.u) (by rfl) T.n_repr bt_repr (da_cons (de_tup (da_cons (de_var (i := 3) rfl (.inl rfl)) (da_cons (de_var (i := 5) rfl (.inl rfl)) da_nil))) da_nil))) (dss_cons (ds_for PassesOwn.never rfl (di_seq (de_var (i := 5) rfl (.inl rfl))) (dp_name (i := 9) sc_law.nd rfl (.inl rfl)) (dss_cons (ds_set (i := 10) sc_law.nd rfl (.inl rfl) (de_callB (dcal_repr h.g h.u) (by rfl) T.n_repr bt_repr (da_cons (de_call ((ok__law_is_seen T).up (by decide)) h.g h.r (by rfl) T.g__law_is_seen T.F__law_is_seen.kp T.b__law_is_seen .nil (fun _ _ => .nil) (da_cons (de_var (i := 3) rfl (.inl rfl)) (da_cons (de_var (i := 9) rfl (.inl rfl)) da_nil))) da_nil))) (dss_one (ds_if (DW.dt (dw_or (dt_cmp (dop_ne h.u) (de_callB (dcal_repr h.g h.u) (by rfl) T.n_repr bt_repr (da_cons (de_call ((ok_is_event_row T).up (by decide)) h.g h.r (by rfl) T.g_is_event_row T.F_is_event_row.kp T.b_is_event_row .nil (fun _ _ => .nil) (da_cons (de_var (i := 3) rfl (.inl rfl)) (da_cons (de_var (i := 9) rfl (.inl rfl)) da_nil))) da_nil)) (de_var (i := 10) rfl (.inl rfl)) (nomark _)) (dw_or1 (dt_cmp (dop_ne h.u) (de_callB (dcal_repr h.g h.u) (by rfl) T.n_repr bt_repr (da_cons (de_callK0 ((ok_is_event_row T).up (by decide)) h.g h.r (by rfl) T.g_is_event_row T.F_is_event_row.kp T.kb0_is_event_row .nil (fun _ _ => .nil) (dk_cons (de_var (i := 9) rfl (.inl rfl)) (dk_cons (de_var (i := 3) rfl (.inl rfl)) dk_nil))) da_nil)) (de_var (i := 10) rfl (.inl rfl)) (nomark _))))) (dss_one (ds_ret de_bl)) dss_nil)))) (dss_one (ds_if (dt_cmp (dop_ne h.u) (de_callB (dcal_repr h.g h.u) (by rfl) T.n_repr bt_repr (da_cons (de_tup (da_cons (de_var (i := 3) rfl (.inl rfl)) (da_cons (de_var (i := 5) rfl (.inl rfl)) da_nil))) da_nil)) (de_var (i := 8) rfl (.inl rfl)) (nomark _)) (dss_one (ds_ret de_bl)) dss_nil))))))))))) (dss_one (ds_ret de_bl))))
end
theorem fx_mk {w : World} {K : PySem.W.Frag} {h : Heap} {mg : Str → Option Value} (X : K.In h) (G : h.Ns mainGlobals mg)
  {a0 : Addr} {od0 an0 : Option Addr} {sl0 : Array (Option Value)} {oc0 kV0 dc0 pm0 cd0 ct0 : Value}
  (p0 : PySem.W.nsIn K mainGlobals "is_number" = some (some (.ref a0))) (l0 : K.lookup a0 = some ⟨oc0, od0, .func (PySem.W.fnOf "is_number" "is_number" (defArgs (topS 1)) (defBody (topS 1)) (defScope (topS 1)) .none kV0 dc0 pm0 an0 cd0 ct0), sl0⟩) (c0 : PySem.W.codeIn K cd0 "is_number" = true) (k0 : PySem.W.keepIn K (.ref a0) = true)
  {a1 : Addr} {od1 an1 : Option Addr} {sl1 : Array (Option Value)} {oc1 kV1 dc1 pm1 cd1 ct1 : Value}
  (p1 : PySem.W.nsIn K mainGlobals "spot_of" = some (some (.ref a1))) (l1 : K.lookup a1 = some ⟨oc1, od1, .func (PySem.W.fnOf "spot_of" "spot_of" (defArgs (topS 5)) (defBody (topS 5)) (defScope (topS 5)) .none kV1 dc1 pm1 an1 cd1 ct1), sl1⟩) (c1 : PySem.W.codeIn K cd1 "spot_of" = true) (k1 : PySem.W.keepIn K (.ref a1) = true)
  {a2 : Addr} {od2 an2 : Option Addr} {sl2 : Array (Option Value)} {oc2 kV2 dc2 pm2 cd2 ct2 : Value}
  (p2 : PySem.W.nsIn K mainGlobals "_law_yarn" = some (some (.ref a2))) (l2 : K.lookup a2 = some ⟨oc2, od2, .func (PySem.W.fnOf "_law_yarn" "_law_yarn" (defArgs (topS 9)) (defBody (topS 9)) (defScope (topS 9)) .none kV2 dc2 pm2 an2 cd2 ct2), sl2⟩) (c2 : PySem.W.codeIn K cd2 "_law_yarn" = true) (k2 : PySem.W.keepIn K (.ref a2) = true)
  {a3 : Addr} {od3 an3 : Option Addr} {sl3 : Array (Option Value)} {oc3 kV3 dc3 pm3 cd3 ct3 : Value}
  (p3 : PySem.W.nsIn K mainGlobals "_law_spin" = some (some (.ref a3))) (l3 : K.lookup a3 = some ⟨oc3, od3, .func (PySem.W.fnOf "_law_spin" "_law_spin" (defArgs (topS 10)) (defBody (topS 10)) (defScope (topS 10)) .none kV3 dc3 pm3 an3 cd3 ct3), sl3⟩) (c3 : PySem.W.codeIn K cd3 "_law_spin" = true) (k3 : PySem.W.keepIn K (.ref a3) = true)
  {a4 : Addr} {od4 an4 : Option Addr} {sl4 : Array (Option Value)} {oc4 kV4 dc4 pm4 cd4 ct4 : Value}
  (p4 : PySem.W.nsIn K mainGlobals "_law_spot" = some (some (.ref a4))) (l4 : K.lookup a4 = some ⟨oc4, od4, .func (PySem.W.fnOf "_law_spot" "_law_spot" (defArgs (topS 14)) (defBody (topS 14)) (defScope (topS 14)) .none kV4 dc4 pm4 an4 cd4 ct4), sl4⟩) (c4 : PySem.W.codeIn K cd4 "_law_spot" = true) (k4 : PySem.W.keepIn K (.ref a4) = true)
  {a5 : Addr} {od5 an5 : Option Addr} {sl5 : Array (Option Value)} {oc5 kV5 dc5 pm5 cd5 ct5 : Value}
  (p5 : PySem.W.nsIn K mainGlobals "is_safe_spot" = some (some (.ref a5))) (l5 : K.lookup a5 = some ⟨oc5, od5, .func (PySem.W.fnOf "is_safe_spot" "is_safe_spot" (defArgs (topS 6)) (defBody (topS 6)) (defScope (topS 6)) .none kV5 dc5 pm5 an5 cd5 ct5), sl5⟩) (c5 : PySem.W.codeIn K cd5 "is_safe_spot" = true) (k5 : PySem.W.keepIn K (.ref a5) = true)
  {a6 : Addr} {od6 an6 : Option Addr} {sl6 : Array (Option Value)} {oc6 kV6 dc6 pm6 cd6 ct6 : Value}
  (p6 : PySem.W.nsIn K mainGlobals "_law_operand" = some (some (.ref a6))) (l6 : K.lookup a6 = some ⟨oc6, od6, .func (PySem.W.fnOf "_law_operand" "_law_operand" (defArgs (topS 11)) (defBody (topS 11)) (defScope (topS 11)) .none kV6 dc6 pm6 an6 cd6 ct6), sl6⟩) (c6 : PySem.W.codeIn K cd6 "_law_operand" = true) (k6 : PySem.W.keepIn K (.ref a6) = true)
  {a7 : Addr} {od7 an7 : Option Addr} {sl7 : Array (Option Value)} {oc7 kV7 dc7 pm7 cd7 ct7 : Value}
  (p7 : PySem.W.nsIn K mainGlobals "_law_is_seen" = some (some (.ref a7))) (l7 : K.lookup a7 = some ⟨oc7, od7, .func (PySem.W.fnOf "_law_is_seen" "_law_is_seen" (defArgs (topS 15)) (defBody (topS 15)) (defScope (topS 15)) .none kV7 dc7 pm7 an7 cd7 ct7), sl7⟩) (c7 : PySem.W.codeIn K cd7 "_law_is_seen" = true) (k7 : PySem.W.keepIn K (.ref a7) = true)
  {a8 : Addr} {od8 an8 : Option Addr} {sl8 : Array (Option Value)} {oc8 kV8 dc8 pm8 cd8 ct8 : Value}
  (p8 : PySem.W.nsIn K mainGlobals "is_event_row" = some (some (.ref a8))) (l8 : K.lookup a8 = some ⟨oc8, od8, .func (PySem.W.fnOf "is_event_row" "is_event_row" (defArgs (topS 7)) (defBody (topS 7)) (defScope (topS 7)) .none kV8 dc8 pm8 an8 cd8 ct8), sl8⟩) (c8 : PySem.W.codeIn K cd8 "is_event_row" = true) (k8 : PySem.W.keepIn K (.ref a8) = true)
  {a9 : Addr} {od9 an9 : Option Addr} {sl9 : Array (Option Value)} {oc9 kV9 dc9 pm9 cd9 ct9 : Value}
  (p9 : PySem.W.nsIn K mainGlobals "_law_row" = some (some (.ref a9))) (l9 : K.lookup a9 = some ⟨oc9, od9, .func (PySem.W.fnOf "_law_row" "_law_row" (defArgs (topS 12)) (defBody (topS 12)) (defScope (topS 12)) .none kV9 dc9 pm9 an9 cd9 ct9), sl9⟩) (c9 : PySem.W.codeIn K cd9 "_law_row" = true) (k9 : PySem.W.keepIn K (.ref a9) = true)
  {a10 : Addr} {od10 an10 : Option Addr} {sl10 : Array (Option Value)} {oc10 kV10 dc10 pm10 cd10 ct10 : Value}
  (p10 : PySem.W.nsIn K mainGlobals "_law_prog" = some (some (.ref a10))) (l10 : K.lookup a10 = some ⟨oc10, od10, .func (PySem.W.fnOf "_law_prog" "_law_prog" (defArgs (topS 13)) (defBody (topS 13)) (defScope (topS 13)) .none kV10 dc10 pm10 an10 cd10 ct10), sl10⟩) (c10 : PySem.W.codeIn K cd10 "_law_prog" = true) (k10 : PySem.W.keepIn K (.ref a10) = true)
  {a11 : Addr} {od11 an11 : Option Addr} {sl11 : Array (Option Value)} {oc11 kV11 dc11 pm11 cd11 ct11 : Value}
  (p11 : PySem.W.nsIn K mainGlobals "law" = some (some (.ref a11))) (l11 : K.lookup a11 = some ⟨oc11, od11, .func (PySem.W.fnOf "law" "law" (defArgs (topS 16)) (defBody (topS 16)) (defScope (topS 16)) .none kV11 dc11 pm11 an11 cd11 ct11), sl11⟩) (c11 : PySem.W.codeIn K cd11 "law" = true) (k11 : PySem.W.keepIn K (.ref a11) = true)
  (z_bool : PySem.W.nsIn K mainGlobals "bool" = some none)
  (z_int : PySem.W.nsIn K mainGlobals "int" = some none)
  (z_isinstance : PySem.W.nsIn K mainGlobals "isinstance" = some none)
  (z_len : PySem.W.nsIn K mainGlobals "len" = some none)
  (z_list : PySem.W.nsIn K mainGlobals "list" = some none)
  (z_min : PySem.W.nsIn K mainGlobals "min" = some none)
  (z_range : PySem.W.nsIn K mainGlobals "range" = some none)
  (z_repr : PySem.W.nsIn K mainGlobals "repr" = some none)
  (z_str : PySem.W.nsIn K mainGlobals "str" = some none)
  (z_tuple : PySem.W.nsIn K mainGlobals "tuple" = some none)
  {t_TOUCHING : Addr} {es_TOUCHING : Array DictEntry} {nn_TOUCHING : Nat} (p_TOUCHING : PySem.W.nsIn K mainGlobals "TOUCHING" = some (some (.ref t_TOUCHING))) (l_TOUCHING : K.lookup t_TOUCHING = some ⟨.type "dict", none, .dict es_TOUCHING nn_TOUCHING, #[]⟩) (k_TOUCHING : PySem.W.KeysLit w.params es_TOUCHING.toList) (s_TOUCHING : (t_TOUCHING == sysModules) = false) (e_TOUCHING : EntsOk K es_TOUCHING.toList Lk55.k_TOUCHING)
  {u_EXITS : Value} (p_EXITS : PySem.W.nsIn K mainGlobals "EXITS" = some (some u_EXITS)) (e_EXITS : KRep K u_EXITS c_EXITS)
  : Nonempty (Fx K w mg) := ⟨{
    a_is_number := a0,
    fd_is_number := _,
    F_is_number := fun_mk l0 c0 k0,
    g_is_number := PySem.W.mg_of X G p0,
    b_is_number := (fun_mk (st := topS 1) l0 c0 k0).binds (ps := ["thing"]) fun _ _ _ _ _ _ us hl => match us, hl with | [_], _ => rfl,
    a_spot_of := a1,
    fd_spot_of := _,
    F_spot_of := fun_mk l1 c1 k1,
    g_spot_of := PySem.W.mg_of X G p1,
    b_spot_of := (fun_mk (st := topS 5) l1 c1 k1).binds (ps := ["row"]) fun _ _ _ _ _ _ us hl => match us, hl with | [_], _ => rfl,
    a__law_yarn := a2,
    fd__law_yarn := _,
    F__law_yarn := fun_mk l2 c2 k2,
    g__law_yarn := PySem.W.mg_of X G p2,
    b__law_yarn := (fun_mk (st := topS 9) l2 c2 k2).binds (ps := ["_law_script"]) fun _ _ _ _ _ _ us hl => match us, hl with | [_], _ => rfl,
    a__law_spin := a3,
    fd__law_spin := _,
    F__law_spin := fun_mk l3 c3 k3,
    g__law_spin := PySem.W.mg_of X G p3,
    b__law_spin := (fun_mk (st := topS 10) l3 c3 k3).binds (ps := ["_law_yarn_here", "_law_many"]) fun _ _ _ _ _ _ us hl => match us, hl with | [_, _], _ => rfl,
    a__law_spot := a4,
    fd__law_spot := _,
    F__law_spot := fun_mk l4 c4 k4,
    g__law_spot := PySem.W.mg_of X G p4,
    b__law_spot := (fun_mk (st := topS 14) l4 c4 k4).binds (ps := ["_law_line"]) fun _ _ _ _ _ _ us hl => match us, hl with | [_], _ => rfl,
    a_is_safe_spot := a5,
    fd_is_safe_spot := _,
    F_is_safe_spot := fun_mk l5 c5 k5,
    g_is_safe_spot := PySem.W.mg_of X G p5,
    b_is_safe_spot := (fun_mk (st := topS 6) l5 c5 k5).binds (ps := ["code", "row"]) fun _ _ _ _ _ _ us hl => match us, hl with | [_, _], _ => rfl,
    a__law_operand := a6,
    fd__law_operand := _,
    F__law_operand := fun_mk l6 c6 k6,
    g__law_operand := PySem.W.mg_of X G p6,
    b__law_operand := (fun_mk (st := topS 11) l6 c6 k6).binds (ps := ["_law_yarn_here"]) fun _ _ _ _ _ _ us hl => match us, hl with | [_], _ => rfl,
    a__law_is_seen := a7,
    fd__law_is_seen := _,
    F__law_is_seen := fun_mk l7 c7 k7,
    g__law_is_seen := PySem.W.mg_of X G p7,
    b__law_is_seen := (fun_mk (st := topS 15) l7 c7 k7).binds (ps := ["_law_prog_here", "_law_line"]) fun _ _ _ _ _ _ us hl => match us, hl with | [_, _], _ => rfl,
    a_is_event_row := a8,
    fd_is_event_row := _,
    F_is_event_row := fun_mk l8 c8 k8,
    g_is_event_row := PySem.W.mg_of X G p8,
    b_is_event_row := (fun_mk (st := topS 7) l8 c8 k8).binds (ps := ["code", "row"]) fun _ _ _ _ _ _ us hl => match us, hl with | [_, _], _ => rfl,
    a__law_row := a9,
    fd__law_row := _,
    F__law_row := fun_mk l9 c9 k9,
    g__law_row := PySem.W.mg_of X G p9,
    b__law_row := (fun_mk (st := topS 12) l9 c9 k9).binds (ps := ["_law_yarn_here", "_law_size", "_law_many"]) fun _ _ _ _ _ _ us hl => match us, hl with | [_, _, _], _ => rfl,
    a__law_prog := a10,
    fd__law_prog := _,
    F__law_prog := fun_mk l10 c10 k10,
    g__law_prog := PySem.W.mg_of X G p10,
    b__law_prog := (fun_mk (st := topS 13) l10 c10 k10).binds (ps := ["_law_yarn_here"]) fun _ _ _ _ _ _ us hl => match us, hl with | [_], _ => rfl,
    a_law := a11,
    fd_law := _,
    F_law := fun_mk l11 c11 k11,
    g_law := PySem.W.mg_of X G p11,
    b_law := (fun_mk (st := topS 16) l11 c11 k11).binds (ps := ["_law_script"]) fun _ _ _ _ _ _ us hl => match us, hl with | [_], _ => rfl,
    kb0_is_event_row := fun s us ws _ h1 h2 => match us, ws, h1, h2 with | [], [y0, y1], _, _ => .of_eq rfl,
    n_bool := PySem.W.mg_none_of X G z_bool,
    n_int := PySem.W.mg_none_of X G z_int,
    n_isinstance := PySem.W.mg_none_of X G z_isinstance,
    n_len := PySem.W.mg_none_of X G z_len,
    n_list := PySem.W.mg_none_of X G z_list,
    n_min := PySem.W.mg_none_of X G z_min,
    n_range := PySem.W.mg_none_of X G z_range,
    n_repr := PySem.W.mg_none_of X G z_repr,
    n_str := PySem.W.mg_none_of X G z_str,
    n_tuple := PySem.W.mg_none_of X G z_tuple,
    a_TOUCHING := t_TOUCHING,
    g_TOUCHING := PySem.W.mg_of X G p_TOUCHING,
    t_TOUCHING := ktab_mk l_TOUCHING k_TOUCHING s_TOUCHING e_TOUCHING,
    u_EXITS := u_EXITS,
    v_EXITS := (e_EXITS.rep).choose,
    g_EXITS := PySem.W.mg_of X G p_EXITS,
    rv_EXITS := (e_EXITS.rep).choose_spec.1,
    r_EXITS := (e_EXITS.rep).choose_spec.2 }⟩
theorem fx_use {K : PySem.W.Frag} {w : World} {mg : Str → Option Value} {h : Heap} {A : Prop} (X : K.In h) (f : Nonempty (Fx K w mg)) (g : Fx K w mg → A) : A := f.elim g
end Lk55

namespace Lk55
open PySem PySem.Spec PyProof.Rows L2 PL LSh

/-- an int or a text, of bounded looks -/
def ISD (d : D) : Prop := (∃ i : Int, d = .int i) ∨ ∃ x, d = .str x
def EvOk : RV → Prop
  | .set x s u t => okB x = true ∧ okB s = true ∧ okB u = true ∧ okB t = true
  | .load x b o m => okB x = true ∧ (okB b = true ∧ ISD b) ∧ okB (.int o) = true ∧ okB m = true
  | .store b o u m => (okB b = true ∧ ISD b) ∧ okB (.int o) = true ∧ okB u = true ∧ okB m = true
  | .div x u t m => okB x = true ∧ okB u = true ∧ (okB t = true ∧ ISD t) ∧ okB m = true
  | .out u => okB u = true
  | .leave u k => okB u = true ∧ okB (.int k) = true
  | .unl u k => okB u = true ∧ okB (.int k) = true
  | .qload x g b o => okB x = true ∧ okB g = true ∧ okB b = true ∧ okB (.int o) = true
  | .qdiv x g u t => okB x = true ∧ okB g = true ∧ okB u = true ∧ okB t = true
  | .check g m => okB g = true ∧ okB m = true
def baseB (b : D) (o z : Int) : Bool := match b with
  | .int i => decide (0 ≤ i + o) && decide (i + o < z)
  | _ => false
def seenF (z : Int) : RV → Bool
  | .load _ b o _ => !baseB b o z
  | .store b o _ _ => !baseB b o z
  | .div _ _ t _ => match t with
    | .int i => decide (i = 0)
    | _ => true
  | .out _ => true
  | .leave _ _ => true
  | .unl _ _ => true
  | .check _ _ => true
  | _ => false
def intB : D → Bool
  | .int _ => true
  | _ => false
theorem isnum_p {b : D} {S : Sto} {Q : QD} (h : ISD b) (q : Q (.bl (intB b)) S) : d_is_number [b] S Q := by
  refine mkSp_of rfl ?_
  show r_is_number ⟨_, _, _, _⟩ [some b] S
  unfold r_is_number
  obtain ⟨i, rfl⟩ | ⟨x, rfl⟩ := h
  · (repeat' (first | with_reducible refine p_seq ?_ | with_reducible refine p_next ?_ | with_reducible refine p_var (by with_unfolding_all rfl) ?_ | with_reducible refine p_c ?_ | with_reducible refine p_op ?_ | with_reducible refine p_cb ?_ | with_reducible refine p_call ?_ | with_reducible refine p_cons ?_ | with_reducible refine p_nil ?_ | with_reducible refine p_tup ?_ | with_reducible refine p_lst ?_ | with_reducible refine p_b ?_ | with_reducible refine p_qb ?_ | with_reducible refine p_and ?_ | with_reducible refine p_or ?_ | with_reducible refine p_not ?_ | with_reducible refine p_andV ?_ | with_reducible refine p_orV ?_ | with_reducible refine p_notV ?_ | with_reducible refine p_if ?_ | with_reducible refine p_ifS ?_ | with_reducible refine p_un ?_ | with_reducible refine p_neg ?_ | with_reducible refine p_ret ?_ | with_reducible refine p_retN ?_ | with_reducible refine p_drop ?_ | with_reducible refine p_asg' ?_ | with_reducible refine p_par ?_ | with_reducible refine p_setI ?_ | with_reducible refine p_sl ?_ | with_reducible refine p_noPart ?_ | with_reducible refine p_part ?_ | with_reducible refine p_partI ?_ | with_reducible refine p_kin ?_ | with_reducible refine p_kget ?_ | with_reducible refine p_lm ?_ | with_reducible refine p_for ?_ | with_reducible refine p_seqI ?_ | with_reducible refine p_seqL ?_ | with_reducible refine p_seqT ?_ | with_reducible refine p_rng1 ?_ | with_reducible refine p_rng1I (by unfold rng1; first | decide | (constructor <;> omega)) ?_ | with_reducible refine p_yes ?_ | with_reducible refine p_chain ?_ | with_reducible refine p_callK ?_ | with_reducible refine p_lc ?_ | with_reducible refine p_disp fun _ hp0 => ?_ | with_reducible refine p_get2 ?_ | with_reducible refine p_bindM (by with_unfolding_all rfl) ?_ | with_reducible refine p_mulI (by first | decide | omega) (by first | decide | omega) ?_ | with_reducible refine p_mod (by first | decide | omega | assumption) ?_ | with_reducible refine p_sub ?_ | with_reducible refine p_min ?_ | with_reducible refine p_max ?_ | with_reducible refine p_ix0 ?_ | with_reducible refine p_ix0L ?_ | with_reducible refine p_inT (by first | decide +kernel | exact ⟨rfl, rfl⟩ | (simp [flD]; done)) ?_ | with_reducible refine p_notInT (by first | decide +kernel | exact ⟨rfl, rfl⟩ | (simp [flD]; done)) ?_ | with_reducible refine p_fdiv (by first | assumption | decide) ?_ | with_reducible refine p_pow (by unfold CPow; decide) ?_ | with_reducible refine p_lt ?_ | with_reducible refine p_le ?_ | with_reducible refine p_gt ?_ | with_reducible refine p_ge ?_ | with_reducible refine p_eqI ?_ | with_reducible refine p_neI ?_ | with_reducible refine p_eqL (by first | decide +kernel | assumption) (by first | decide +kernel | assumption) ?_ | with_reducible refine p_neL (by first | decide +kernel | assumption) (by first | decide +kernel | assumption) ?_ | with_reducible refine p_eqT (by first | decide +kernel | assumption) (by first | decide +kernel | assumption) ?_ | with_reducible refine p_neT (by first | decide +kernel | assumption) (by first | decide +kernel | assumption) ?_ | with_reducible refine p_eqS (by first | decide +kernel | assumption) (by first | decide +kernel | assumption) ?_ | with_reducible refine p_neS (by first | decide +kernel | assumption) (by first | decide +kernel | assumption) ?_ | with_reducible refine p_isi (by with_unfolding_all rfl) (by decide) ?_ | with_reducible refine p_lmO (by first | assumption | exact sup_same) ?_ | with_reducible refine p_lmE (by first | assumption | exact sup_same) (by with_unfolding_all rfl) (by (first | exact True.intro | exact szl | (with_reducible assumption) | decide | (simp only [List.length_cons, List.length_nil]; first | exact szl | omega) | omega)) ?_ | with_reducible refine p_freeze (by with_unfolding_all rfl) (by first | assumption | exact sup_same) ?_ | with_reducible refine p_dispE (by assumption) (by with_unfolding_all rfl) ?_ | with_reducible refine p_getI (by with_unfolding_all rfl) ?_ | with_reducible refine p_getS (by with_unfolding_all rfl) (by with_unfolding_all rfl) (by first | with_unfolding_all rfl | with_unfolding_all assumption) ?_ | with_reducible refine p_getN (by with_unfolding_all rfl) (by with_unfolding_all rfl) (by first | with_unfolding_all rfl | with_unfolding_all assumption) ?_ | with_reducible refine p_r (by with_unfolding_all rfl) (by (first | exact True.intro | exact szl | (with_reducible assumption) | decide | (simp only [List.length_cons, List.length_nil]; first | exact szl | omega) | omega)) ?_ | with_reducible refine p_rc (by with_unfolding_all rfl) (by (first | exact True.intro | exact szl | (with_reducible assumption) | decide | (simp only [List.length_cons, List.length_nil]; first | exact szl | omega) | omega)) ?_ | with_reducible refine p_ixS (by first | assumption | exact sup_same) (by with_unfolding_all rfl) ?_ | with_reducible refine p_set (by first | assumption | exact sup_same) (by with_unfolding_all rfl) ?_ | with_reducible refine p_onE (by with_unfolding_all rfl) (by (first | exact True.intro | exact szl | (with_reducible assumption) | decide | (simp only [List.length_cons, List.length_nil]; first | exact szl | omega) | omega)) ?_ | with_reducible refine p_kgetS (by first | with_unfolding_all rfl | with_unfolding_all assumption) ?_ | with_reducible refine p_kinT (by first | with_unfolding_all rfl | with_unfolding_all assumption) ?_ | with_reducible refine p_kinF (by first | with_unfolding_all rfl | with_unfolding_all assumption) ?_ | with_reducible refine p_nkinT (by first | with_unfolding_all rfl | with_unfolding_all assumption) ?_ | with_reducible refine p_nkinF (by first | with_unfolding_all rfl | with_unfolding_all assumption) ?_ | with_reducible refine p_T (by with_unfolding_all rfl) ?_ | with_reducible refine p_F (by with_unfolding_all rfl) ?_ | with_reducible refine And.intro (a := List.length _ ≤ sizeLine) szl ?_ | with_reducible refine And.intro (a := List.length _ = _) (by with_unfolding_all rfl) ?_))
    exact to_bl (by with_unfolding_all rfl) q
  · (repeat' (first | with_reducible refine p_seq ?_ | with_reducible refine p_next ?_ | with_reducible refine p_var (by with_unfolding_all rfl) ?_ | with_reducible refine p_c ?_ | with_reducible refine p_op ?_ | with_reducible refine p_cb ?_ | with_reducible refine p_call ?_ | with_reducible refine p_cons ?_ | with_reducible refine p_nil ?_ | with_reducible refine p_tup ?_ | with_reducible refine p_lst ?_ | with_reducible refine p_b ?_ | with_reducible refine p_qb ?_ | with_reducible refine p_and ?_ | with_reducible refine p_or ?_ | with_reducible refine p_not ?_ | with_reducible refine p_andV ?_ | with_reducible refine p_orV ?_ | with_reducible refine p_notV ?_ | with_reducible refine p_if ?_ | with_reducible refine p_ifS ?_ | with_reducible refine p_un ?_ | with_reducible refine p_neg ?_ | with_reducible refine p_ret ?_ | with_reducible refine p_retN ?_ | with_reducible refine p_drop ?_ | with_reducible refine p_asg' ?_ | with_reducible refine p_par ?_ | with_reducible refine p_setI ?_ | with_reducible refine p_sl ?_ | with_reducible refine p_noPart ?_ | with_reducible refine p_part ?_ | with_reducible refine p_partI ?_ | with_reducible refine p_kin ?_ | with_reducible refine p_kget ?_ | with_reducible refine p_lm ?_ | with_reducible refine p_for ?_ | with_reducible refine p_seqI ?_ | with_reducible refine p_seqL ?_ | with_reducible refine p_seqT ?_ | with_reducible refine p_rng1 ?_ | with_reducible refine p_rng1I (by unfold rng1; first | decide | (constructor <;> omega)) ?_ | with_reducible refine p_yes ?_ | with_reducible refine p_chain ?_ | with_reducible refine p_callK ?_ | with_reducible refine p_lc ?_ | with_reducible refine p_disp fun _ hp0 => ?_ | with_reducible refine p_get2 ?_ | with_reducible refine p_bindM (by with_unfolding_all rfl) ?_ | with_reducible refine p_mulI (by first | decide | omega) (by first | decide | omega) ?_ | with_reducible refine p_mod (by first | decide | omega | assumption) ?_ | with_reducible refine p_sub ?_ | with_reducible refine p_min ?_ | with_reducible refine p_max ?_ | with_reducible refine p_ix0 ?_ | with_reducible refine p_ix0L ?_ | with_reducible refine p_inT (by first | decide +kernel | exact ⟨rfl, rfl⟩ | (simp [flD]; done)) ?_ | with_reducible refine p_notInT (by first | decide +kernel | exact ⟨rfl, rfl⟩ | (simp [flD]; done)) ?_ | with_reducible refine p_fdiv (by first | assumption | decide) ?_ | with_reducible refine p_pow (by unfold CPow; decide) ?_ | with_reducible refine p_lt ?_ | with_reducible refine p_le ?_ | with_reducible refine p_gt ?_ | with_reducible refine p_ge ?_ | with_reducible refine p_eqI ?_ | with_reducible refine p_neI ?_ | with_reducible refine p_eqL (by first | decide +kernel | assumption) (by first | decide +kernel | assumption) ?_ | with_reducible refine p_neL (by first | decide +kernel | assumption) (by first | decide +kernel | assumption) ?_ | with_reducible refine p_eqT (by first | decide +kernel | assumption) (by first | decide +kernel | assumption) ?_ | with_reducible refine p_neT (by first | decide +kernel | assumption) (by first | decide +kernel | assumption) ?_ | with_reducible refine p_eqS (by first | decide +kernel | assumption) (by first | decide +kernel | assumption) ?_ | with_reducible refine p_neS (by first | decide +kernel | assumption) (by first | decide +kernel | assumption) ?_ | with_reducible refine p_isi (by with_unfolding_all rfl) (by decide) ?_ | with_reducible refine p_lmO (by first | assumption | exact sup_same) ?_ | with_reducible refine p_lmE (by first | assumption | exact sup_same) (by with_unfolding_all rfl) (by (first | exact True.intro | exact szl | (with_reducible assumption) | decide | (simp only [List.length_cons, List.length_nil]; first | exact szl | omega) | omega)) ?_ | with_reducible refine p_freeze (by with_unfolding_all rfl) (by first | assumption | exact sup_same) ?_ | with_reducible refine p_dispE (by assumption) (by with_unfolding_all rfl) ?_ | with_reducible refine p_getI (by with_unfolding_all rfl) ?_ | with_reducible refine p_getS (by with_unfolding_all rfl) (by with_unfolding_all rfl) (by first | with_unfolding_all rfl | with_unfolding_all assumption) ?_ | with_reducible refine p_getN (by with_unfolding_all rfl) (by with_unfolding_all rfl) (by first | with_unfolding_all rfl | with_unfolding_all assumption) ?_ | with_reducible refine p_r (by with_unfolding_all rfl) (by (first | exact True.intro | exact szl | (with_reducible assumption) | decide | (simp only [List.length_cons, List.length_nil]; first | exact szl | omega) | omega)) ?_ | with_reducible refine p_rc (by with_unfolding_all rfl) (by (first | exact True.intro | exact szl | (with_reducible assumption) | decide | (simp only [List.length_cons, List.length_nil]; first | exact szl | omega) | omega)) ?_ | with_reducible refine p_ixS (by first | assumption | exact sup_same) (by with_unfolding_all rfl) ?_ | with_reducible refine p_set (by first | assumption | exact sup_same) (by with_unfolding_all rfl) ?_ | with_reducible refine p_onE (by with_unfolding_all rfl) (by (first | exact True.intro | exact szl | (with_reducible assumption) | decide | (simp only [List.length_cons, List.length_nil]; first | exact szl | omega) | omega)) ?_ | with_reducible refine p_kgetS (by first | with_unfolding_all rfl | with_unfolding_all assumption) ?_ | with_reducible refine p_kinT (by first | with_unfolding_all rfl | with_unfolding_all assumption) ?_ | with_reducible refine p_kinF (by first | with_unfolding_all rfl | with_unfolding_all assumption) ?_ | with_reducible refine p_nkinT (by first | with_unfolding_all rfl | with_unfolding_all assumption) ?_ | with_reducible refine p_nkinF (by first | with_unfolding_all rfl | with_unfolding_all assumption) ?_ | with_reducible refine p_T (by with_unfolding_all rfl) ?_ | with_reducible refine p_F (by with_unfolding_all rfl) ?_ | with_reducible refine And.intro (a := List.length _ ≤ sizeLine) szl ?_ | with_reducible refine And.intro (a := List.length _ = _) (by with_unfolding_all rfl) ?_))
    exact to_bl (by with_unfolding_all rfl) q
theorem spot_of_p {x b m : D} {o : Int} {S : Sto} {Q : QD} (q : Q (.tup [b, .int o]) S) : d_spot_of [RV.d (.load x b o m)] S Q ∧ d_spot_of [RV.d (.store b o x m)] S Q := by
  constructor
  · refine mkSp_of rfl ?_
    show r_spot_of ⟨_, _, _, _⟩ [some (.tup [.str "load", x, b, .int o, m]), none, none] S
    unfold r_spot_of
    (repeat' (first | with_reducible refine p_seq ?_ | with_reducible refine p_next ?_ | with_reducible refine p_var (by with_unfolding_all rfl) ?_ | with_reducible refine p_c ?_ | with_reducible refine p_op ?_ | with_reducible refine p_cb ?_ | with_reducible refine p_call ?_ | with_reducible refine p_cons ?_ | with_reducible refine p_nil ?_ | with_reducible refine p_tup ?_ | with_reducible refine p_lst ?_ | with_reducible refine p_b ?_ | with_reducible refine p_qb ?_ | with_reducible refine p_and ?_ | with_reducible refine p_or ?_ | with_reducible refine p_not ?_ | with_reducible refine p_andV ?_ | with_reducible refine p_orV ?_ | with_reducible refine p_notV ?_ | with_reducible refine p_if ?_ | with_reducible refine p_ifS ?_ | with_reducible refine p_un ?_ | with_reducible refine p_neg ?_ | with_reducible refine p_ret ?_ | with_reducible refine p_retN ?_ | with_reducible refine p_drop ?_ | with_reducible refine p_asg' ?_ | with_reducible refine p_par ?_ | with_reducible refine p_setI ?_ | with_reducible refine p_sl ?_ | with_reducible refine p_noPart ?_ | with_reducible refine p_part ?_ | with_reducible refine p_partI ?_ | with_reducible refine p_kin ?_ | with_reducible refine p_kget ?_ | with_reducible refine p_lm ?_ | with_reducible refine p_for ?_ | with_reducible refine p_seqI ?_ | with_reducible refine p_seqL ?_ | with_reducible refine p_seqT ?_ | with_reducible refine p_rng1 ?_ | with_reducible refine p_rng1I (by unfold rng1; first | decide | (constructor <;> omega)) ?_ | with_reducible refine p_yes ?_ | with_reducible refine p_chain ?_ | with_reducible refine p_callK ?_ | with_reducible refine p_lc ?_ | with_reducible refine p_disp fun _ hp0 => ?_ | with_reducible refine p_get2 ?_ | with_reducible refine p_bindM (by with_unfolding_all rfl) ?_ | with_reducible refine p_mulI (by first | decide | omega) (by first | decide | omega) ?_ | with_reducible refine p_mod (by first | decide | omega | assumption) ?_ | with_reducible refine p_sub ?_ | with_reducible refine p_min ?_ | with_reducible refine p_max ?_ | with_reducible refine p_ix0 ?_ | with_reducible refine p_ix0L ?_ | with_reducible refine p_inT (by first | decide +kernel | exact ⟨rfl, rfl⟩ | (simp [flD]; done)) ?_ | with_reducible refine p_notInT (by first | decide +kernel | exact ⟨rfl, rfl⟩ | (simp [flD]; done)) ?_ | with_reducible refine p_fdiv (by first | assumption | decide) ?_ | with_reducible refine p_pow (by unfold CPow; decide) ?_ | with_reducible refine p_lt ?_ | with_reducible refine p_le ?_ | with_reducible refine p_gt ?_ | with_reducible refine p_ge ?_ | with_reducible refine p_eqI ?_ | with_reducible refine p_neI ?_ | with_reducible refine p_eqL (by first | decide +kernel | assumption) (by first | decide +kernel | assumption) ?_ | with_reducible refine p_neL (by first | decide +kernel | assumption) (by first | decide +kernel | assumption) ?_ | with_reducible refine p_eqT (by first | decide +kernel | assumption) (by first | decide +kernel | assumption) ?_ | with_reducible refine p_neT (by first | decide +kernel | assumption) (by first | decide +kernel | assumption) ?_ | with_reducible refine p_eqS (by first | decide +kernel | assumption) (by first | decide +kernel | assumption) ?_ | with_reducible refine p_neS (by first | decide +kernel | assumption) (by first | decide +kernel | assumption) ?_ | with_reducible refine p_isi (by with_unfolding_all rfl) (by decide) ?_ | with_reducible refine p_lmO (by first | assumption | exact sup_same) ?_ | with_reducible refine p_lmE (by first | assumption | exact sup_same) (by with_unfolding_all rfl) (by (first | exact True.intro | exact szl | (with_reducible assumption) | decide | (simp only [List.length_cons, List.length_nil]; first | exact szl | omega) | omega)) ?_ | with_reducible refine p_freeze (by with_unfolding_all rfl) (by first | assumption | exact sup_same) ?_ | with_reducible refine p_dispE (by assumption) (by with_unfolding_all rfl) ?_ | with_reducible refine p_getI (by with_unfolding_all rfl) ?_ | with_reducible refine p_getS (by with_unfolding_all rfl) (by with_unfolding_all rfl) (by first | with_unfolding_all rfl | with_unfolding_all assumption) ?_ | with_reducible refine p_getN (by with_unfolding_all rfl) (by with_unfolding_all rfl) (by first | with_unfolding_all rfl | with_unfolding_all assumption) ?_ | with_reducible refine p_r (by with_unfolding_all rfl) (by (first | exact True.intro | exact szl | (with_reducible assumption) | decide | (simp only [List.length_cons, List.length_nil]; first | exact szl | omega) | omega)) ?_ | with_reducible refine p_rc (by with_unfolding_all rfl) (by (first | exact True.intro | exact szl | (with_reducible assumption) | decide | (simp only [List.length_cons, List.length_nil]; first | exact szl | omega) | omega)) ?_ | with_reducible refine p_ixS (by first | assumption | exact sup_same) (by with_unfolding_all rfl) ?_ | with_reducible refine p_set (by first | assumption | exact sup_same) (by with_unfolding_all rfl) ?_ | with_reducible refine p_onE (by with_unfolding_all rfl) (by (first | exact True.intro | exact szl | (with_reducible assumption) | decide | (simp only [List.length_cons, List.length_nil]; first | exact szl | omega) | omega)) ?_ | with_reducible refine p_kgetS (by first | with_unfolding_all rfl | with_unfolding_all assumption) ?_ | with_reducible refine p_kinT (by first | with_unfolding_all rfl | with_unfolding_all assumption) ?_ | with_reducible refine p_kinF (by first | with_unfolding_all rfl | with_unfolding_all assumption) ?_ | with_reducible refine p_nkinT (by first | with_unfolding_all rfl | with_unfolding_all assumption) ?_ | with_reducible refine p_nkinF (by first | with_unfolding_all rfl | with_unfolding_all assumption) ?_ | with_reducible refine p_T (by with_unfolding_all rfl) ?_ | with_reducible refine p_F (by with_unfolding_all rfl) ?_ | with_reducible refine And.intro (a := List.length _ ≤ sizeLine) szl ?_ | with_reducible refine And.intro (a := List.length _ = _) (by with_unfolding_all rfl) ?_))
    exact q
  · refine mkSp_of rfl ?_
    show r_spot_of ⟨_, _, _, _⟩ [some (.tup [.str "store", b, .int o, x, m]), none, none] S
    unfold r_spot_of
    (repeat' (first | with_reducible refine p_seq ?_ | with_reducible refine p_next ?_ | with_reducible refine p_var (by with_unfolding_all rfl) ?_ | with_reducible refine p_c ?_ | with_reducible refine p_op ?_ | with_reducible refine p_cb ?_ | with_reducible refine p_call ?_ | with_reducible refine p_cons ?_ | with_reducible refine p_nil ?_ | with_reducible refine p_tup ?_ | with_reducible refine p_lst ?_ | with_reducible refine p_b ?_ | with_reducible refine p_qb ?_ | with_reducible refine p_and ?_ | with_reducible refine p_or ?_ | with_reducible refine p_not ?_ | with_reducible refine p_andV ?_ | with_reducible refine p_orV ?_ | with_reducible refine p_notV ?_ | with_reducible refine p_if ?_ | with_reducible refine p_ifS ?_ | with_reducible refine p_un ?_ | with_reducible refine p_neg ?_ | with_reducible refine p_ret ?_ | with_reducible refine p_retN ?_ | with_reducible refine p_drop ?_ | with_reducible refine p_asg' ?_ | with_reducible refine p_par ?_ | with_reducible refine p_setI ?_ | with_reducible refine p_sl ?_ | with_reducible refine p_noPart ?_ | with_reducible refine p_part ?_ | with_reducible refine p_partI ?_ | with_reducible refine p_kin ?_ | with_reducible refine p_kget ?_ | with_reducible refine p_lm ?_ | with_reducible refine p_for ?_ | with_reducible refine p_seqI ?_ | with_reducible refine p_seqL ?_ | with_reducible refine p_seqT ?_ | with_reducible refine p_rng1 ?_ | with_reducible refine p_rng1I (by unfold rng1; first | decide | (constructor <;> omega)) ?_ | with_reducible refine p_yes ?_ | with_reducible refine p_chain ?_ | with_reducible refine p_callK ?_ | with_reducible refine p_lc ?_ | with_reducible refine p_disp fun _ hp0 => ?_ | with_reducible refine p_get2 ?_ | with_reducible refine p_bindM (by with_unfolding_all rfl) ?_ | with_reducible refine p_mulI (by first | decide | omega) (by first | decide | omega) ?_ | with_reducible refine p_mod (by first | decide | omega | assumption) ?_ | with_reducible refine p_sub ?_ | with_reducible refine p_min ?_ | with_reducible refine p_max ?_ | with_reducible refine p_ix0 ?_ | with_reducible refine p_ix0L ?_ | with_reducible refine p_inT (by first | decide +kernel | exact ⟨rfl, rfl⟩ | (simp [flD]; done)) ?_ | with_reducible refine p_notInT (by first | decide +kernel | exact ⟨rfl, rfl⟩ | (simp [flD]; done)) ?_ | with_reducible refine p_fdiv (by first | assumption | decide) ?_ | with_reducible refine p_pow (by unfold CPow; decide) ?_ | with_reducible refine p_lt ?_ | with_reducible refine p_le ?_ | with_reducible refine p_gt ?_ | with_reducible refine p_ge ?_ | with_reducible refine p_eqI ?_ | with_reducible refine p_neI ?_ | with_reducible refine p_eqL (by first | decide +kernel | assumption) (by first | decide +kernel | assumption) ?_ | with_reducible refine p_neL (by first | decide +kernel | assumption) (by first | decide +kernel | assumption) ?_ | with_reducible refine p_eqT (by first | decide +kernel | assumption) (by first | decide +kernel | assumption) ?_ | with_reducible refine p_neT (by first | decide +kernel | assumption) (by first | decide +kernel | assumption) ?_ | with_reducible refine p_eqS (by first | decide +kernel | assumption) (by first | decide +kernel | assumption) ?_ | with_reducible refine p_neS (by first | decide +kernel | assumption) (by first | decide +kernel | assumption) ?_ | with_reducible refine p_isi (by with_unfolding_all rfl) (by decide) ?_ | with_reducible refine p_lmO (by first | assumption | exact sup_same) ?_ | with_reducible refine p_lmE (by first | assumption | exact sup_same) (by with_unfolding_all rfl) (by (first | exact True.intro | exact szl | (with_reducible assumption) | decide | (simp only [List.length_cons, List.length_nil]; first | exact szl | omega) | omega)) ?_ | with_reducible refine p_freeze (by with_unfolding_all rfl) (by first | assumption | exact sup_same) ?_ | with_reducible refine p_dispE (by assumption) (by with_unfolding_all rfl) ?_ | with_reducible refine p_getI (by with_unfolding_all rfl) ?_ | with_reducible refine p_getS (by with_unfolding_all rfl) (by with_unfolding_all rfl) (by first | with_unfolding_all rfl | with_unfolding_all assumption) ?_ | with_reducible refine p_getN (by with_unfolding_all rfl) (by with_unfolding_all rfl) (by first | with_unfolding_all rfl | with_unfolding_all assumption) ?_ | with_reducible refine p_r (by with_unfolding_all rfl) (by (first | exact True.intro | exact szl | (with_reducible assumption) | decide | (simp only [List.length_cons, List.length_nil]; first | exact szl | omega) | omega)) ?_ | with_reducible refine p_rc (by with_unfolding_all rfl) (by (first | exact True.intro | exact szl | (with_reducible assumption) | decide | (simp only [List.length_cons, List.length_nil]; first | exact szl | omega) | omega)) ?_ | with_reducible refine p_ixS (by first | assumption | exact sup_same) (by with_unfolding_all rfl) ?_ | with_reducible refine p_set (by first | assumption | exact sup_same) (by with_unfolding_all rfl) ?_ | with_reducible refine p_onE (by with_unfolding_all rfl) (by (first | exact True.intro | exact szl | (with_reducible assumption) | decide | (simp only [List.length_cons, List.length_nil]; first | exact szl | omega) | omega)) ?_ | with_reducible refine p_kgetS (by first | with_unfolding_all rfl | with_unfolding_all assumption) ?_ | with_reducible refine p_kinT (by first | with_unfolding_all rfl | with_unfolding_all assumption) ?_ | with_reducible refine p_kinF (by first | with_unfolding_all rfl | with_unfolding_all assumption) ?_ | with_reducible refine p_nkinT (by first | with_unfolding_all rfl | with_unfolding_all assumption) ?_ | with_reducible refine p_nkinF (by first | with_unfolding_all rfl | with_unfolding_all assumption) ?_ | with_reducible refine p_T (by with_unfolding_all rfl) ?_ | with_reducible refine p_F (by with_unfolding_all rfl) ?_ | with_reducible refine And.intro (a := List.length _ ≤ sizeLine) szl ?_ | with_reducible refine And.intro (a := List.length _ = _) (by with_unfolding_all rfl) ?_))
    exact q
theorem law_spot_p {x b m : D} {o : Int} {S : Sto} {Q : QD} (q : Q (.tup [b, .int o]) S) : d__law_spot [RV.d (.load x b o m)] S Q ∧ d__law_spot [RV.d (.store b o x m)] S Q := by
  constructor
  · refine mkSp_of rfl ?_
    show r__law_spot ⟨_, _, _, _⟩ [some (.tup [.str "load", x, b, .int o, m]), none] S
    unfold r__law_spot
    (repeat' (first | with_reducible refine p_seq ?_ | with_reducible refine p_next ?_ | with_reducible refine p_var (by with_unfolding_all rfl) ?_ | with_reducible refine p_c ?_ | with_reducible refine p_op ?_ | with_reducible refine p_cb ?_ | with_reducible refine p_call ?_ | with_reducible refine p_cons ?_ | with_reducible refine p_nil ?_ | with_reducible refine p_tup ?_ | with_reducible refine p_lst ?_ | with_reducible refine p_b ?_ | with_reducible refine p_qb ?_ | with_reducible refine p_and ?_ | with_reducible refine p_or ?_ | with_reducible refine p_not ?_ | with_reducible refine p_andV ?_ | with_reducible refine p_orV ?_ | with_reducible refine p_notV ?_ | with_reducible refine p_if ?_ | with_reducible refine p_ifS ?_ | with_reducible refine p_un ?_ | with_reducible refine p_neg ?_ | with_reducible refine p_ret ?_ | with_reducible refine p_retN ?_ | with_reducible refine p_drop ?_ | with_reducible refine p_asg' ?_ | with_reducible refine p_par ?_ | with_reducible refine p_setI ?_ | with_reducible refine p_sl ?_ | with_reducible refine p_noPart ?_ | with_reducible refine p_part ?_ | with_reducible refine p_partI ?_ | with_reducible refine p_kin ?_ | with_reducible refine p_kget ?_ | with_reducible refine p_lm ?_ | with_reducible refine p_for ?_ | with_reducible refine p_seqI ?_ | with_reducible refine p_seqL ?_ | with_reducible refine p_seqT ?_ | with_reducible refine p_rng1 ?_ | with_reducible refine p_rng1I (by unfold rng1; first | decide | (constructor <;> omega)) ?_ | with_reducible refine p_yes ?_ | with_reducible refine p_chain ?_ | with_reducible refine p_callK ?_ | with_reducible refine p_lc ?_ | with_reducible refine p_disp fun _ hp0 => ?_ | with_reducible refine p_get2 ?_ | with_reducible refine p_bindM (by with_unfolding_all rfl) ?_ | with_reducible refine p_mulI (by first | decide | omega) (by first | decide | omega) ?_ | with_reducible refine p_mod (by first | decide | omega | assumption) ?_ | with_reducible refine p_sub ?_ | with_reducible refine p_min ?_ | with_reducible refine p_max ?_ | with_reducible refine p_ix0 ?_ | with_reducible refine p_ix0L ?_ | with_reducible refine p_inT (by first | decide +kernel | exact ⟨rfl, rfl⟩ | (simp [flD]; done)) ?_ | with_reducible refine p_notInT (by first | decide +kernel | exact ⟨rfl, rfl⟩ | (simp [flD]; done)) ?_ | with_reducible refine p_fdiv (by first | assumption | decide) ?_ | with_reducible refine p_pow (by unfold CPow; decide) ?_ | with_reducible refine p_lt ?_ | with_reducible refine p_le ?_ | with_reducible refine p_gt ?_ | with_reducible refine p_ge ?_ | with_reducible refine p_eqI ?_ | with_reducible refine p_neI ?_ | with_reducible refine p_eqL (by first | decide +kernel | assumption) (by first | decide +kernel | assumption) ?_ | with_reducible refine p_neL (by first | decide +kernel | assumption) (by first | decide +kernel | assumption) ?_ | with_reducible refine p_eqT (by first | decide +kernel | assumption) (by first | decide +kernel | assumption) ?_ | with_reducible refine p_neT (by first | decide +kernel | assumption) (by first | decide +kernel | assumption) ?_ | with_reducible refine p_eqS (by first | decide +kernel | assumption) (by first | decide +kernel | assumption) ?_ | with_reducible refine p_neS (by first | decide +kernel | assumption) (by first | decide +kernel | assumption) ?_ | with_reducible refine p_isi (by with_unfolding_all rfl) (by decide) ?_ | with_reducible refine p_lmO (by first | assumption | exact sup_same) ?_ | with_reducible refine p_lmE (by first | assumption | exact sup_same) (by with_unfolding_all rfl) (by (first | exact True.intro | exact szl | (with_reducible assumption) | decide | (simp only [List.length_cons, List.length_nil]; first | exact szl | omega) | omega)) ?_ | with_reducible refine p_freeze (by with_unfolding_all rfl) (by first | assumption | exact sup_same) ?_ | with_reducible refine p_dispE (by assumption) (by with_unfolding_all rfl) ?_ | with_reducible refine p_getI (by with_unfolding_all rfl) ?_ | with_reducible refine p_getS (by with_unfolding_all rfl) (by with_unfolding_all rfl) (by first | with_unfolding_all rfl | with_unfolding_all assumption) ?_ | with_reducible refine p_getN (by with_unfolding_all rfl) (by with_unfolding_all rfl) (by first | with_unfolding_all rfl | with_unfolding_all assumption) ?_ | with_reducible refine p_r (by with_unfolding_all rfl) (by (first | exact True.intro | exact szl | (with_reducible assumption) | decide | (simp only [List.length_cons, List.length_nil]; first | exact szl | omega) | omega)) ?_ | with_reducible refine p_rc (by with_unfolding_all rfl) (by (first | exact True.intro | exact szl | (with_reducible assumption) | decide | (simp only [List.length_cons, List.length_nil]; first | exact szl | omega) | omega)) ?_ | with_reducible refine p_ixS (by first | assumption | exact sup_same) (by with_unfolding_all rfl) ?_ | with_reducible refine p_set (by first | assumption | exact sup_same) (by with_unfolding_all rfl) ?_ | with_reducible refine p_onE (by with_unfolding_all rfl) (by (first | exact True.intro | exact szl | (with_reducible assumption) | decide | (simp only [List.length_cons, List.length_nil]; first | exact szl | omega) | omega)) ?_ | with_reducible refine p_kgetS (by first | with_unfolding_all rfl | with_unfolding_all assumption) ?_ | with_reducible refine p_kinT (by first | with_unfolding_all rfl | with_unfolding_all assumption) ?_ | with_reducible refine p_kinF (by first | with_unfolding_all rfl | with_unfolding_all assumption) ?_ | with_reducible refine p_nkinT (by first | with_unfolding_all rfl | with_unfolding_all assumption) ?_ | with_reducible refine p_nkinF (by first | with_unfolding_all rfl | with_unfolding_all assumption) ?_ | with_reducible refine p_T (by with_unfolding_all rfl) ?_ | with_reducible refine p_F (by with_unfolding_all rfl) ?_ | with_reducible refine And.intro (a := List.length _ ≤ sizeLine) szl ?_ | with_reducible refine And.intro (a := List.length _ = _) (by with_unfolding_all rfl) ?_))
    exact q
  · refine mkSp_of rfl ?_
    show r__law_spot ⟨_, _, _, _⟩ [some (.tup [.str "store", b, .int o, x, m]), none] S
    unfold r__law_spot
    (repeat' (first | with_reducible refine p_seq ?_ | with_reducible refine p_next ?_ | with_reducible refine p_var (by with_unfolding_all rfl) ?_ | with_reducible refine p_c ?_ | with_reducible refine p_op ?_ | with_reducible refine p_cb ?_ | with_reducible refine p_call ?_ | with_reducible refine p_cons ?_ | with_reducible refine p_nil ?_ | with_reducible refine p_tup ?_ | with_reducible refine p_lst ?_ | with_reducible refine p_b ?_ | with_reducible refine p_qb ?_ | with_reducible refine p_and ?_ | with_reducible refine p_or ?_ | with_reducible refine p_not ?_ | with_reducible refine p_andV ?_ | with_reducible refine p_orV ?_ | with_reducible refine p_notV ?_ | with_reducible refine p_if ?_ | with_reducible refine p_ifS ?_ | with_reducible refine p_un ?_ | with_reducible refine p_neg ?_ | with_reducible refine p_ret ?_ | with_reducible refine p_retN ?_ | with_reducible refine p_drop ?_ | with_reducible refine p_asg' ?_ | with_reducible refine p_par ?_ | with_reducible refine p_setI ?_ | with_reducible refine p_sl ?_ | with_reducible refine p_noPart ?_ | with_reducible refine p_part ?_ | with_reducible refine p_partI ?_ | with_reducible refine p_kin ?_ | with_reducible refine p_kget ?_ | with_reducible refine p_lm ?_ | with_reducible refine p_for ?_ | with_reducible refine p_seqI ?_ | with_reducible refine p_seqL ?_ | with_reducible refine p_seqT ?_ | with_reducible refine p_rng1 ?_ | with_reducible refine p_rng1I (by unfold rng1; first | decide | (constructor <;> omega)) ?_ | with_reducible refine p_yes ?_ | with_reducible refine p_chain ?_ | with_reducible refine p_callK ?_ | with_reducible refine p_lc ?_ | with_reducible refine p_disp fun _ hp0 => ?_ | with_reducible refine p_get2 ?_ | with_reducible refine p_bindM (by with_unfolding_all rfl) ?_ | with_reducible refine p_mulI (by first | decide | omega) (by first | decide | omega) ?_ | with_reducible refine p_mod (by first | decide | omega | assumption) ?_ | with_reducible refine p_sub ?_ | with_reducible refine p_min ?_ | with_reducible refine p_max ?_ | with_reducible refine p_ix0 ?_ | with_reducible refine p_ix0L ?_ | with_reducible refine p_inT (by first | decide +kernel | exact ⟨rfl, rfl⟩ | (simp [flD]; done)) ?_ | with_reducible refine p_notInT (by first | decide +kernel | exact ⟨rfl, rfl⟩ | (simp [flD]; done)) ?_ | with_reducible refine p_fdiv (by first | assumption | decide) ?_ | with_reducible refine p_pow (by unfold CPow; decide) ?_ | with_reducible refine p_lt ?_ | with_reducible refine p_le ?_ | with_reducible refine p_gt ?_ | with_reducible refine p_ge ?_ | with_reducible refine p_eqI ?_ | with_reducible refine p_neI ?_ | with_reducible refine p_eqL (by first | decide +kernel | assumption) (by first | decide +kernel | assumption) ?_ | with_reducible refine p_neL (by first | decide +kernel | assumption) (by first | decide +kernel | assumption) ?_ | with_reducible refine p_eqT (by first | decide +kernel | assumption) (by first | decide +kernel | assumption) ?_ | with_reducible refine p_neT (by first | decide +kernel | assumption) (by first | decide +kernel | assumption) ?_ | with_reducible refine p_eqS (by first | decide +kernel | assumption) (by first | decide +kernel | assumption) ?_ | with_reducible refine p_neS (by first | decide +kernel | assumption) (by first | decide +kernel | assumption) ?_ | with_reducible refine p_isi (by with_unfolding_all rfl) (by decide) ?_ | with_reducible refine p_lmO (by first | assumption | exact sup_same) ?_ | with_reducible refine p_lmE (by first | assumption | exact sup_same) (by with_unfolding_all rfl) (by (first | exact True.intro | exact szl | (with_reducible assumption) | decide | (simp only [List.length_cons, List.length_nil]; first | exact szl | omega) | omega)) ?_ | with_reducible refine p_freeze (by with_unfolding_all rfl) (by first | assumption | exact sup_same) ?_ | with_reducible refine p_dispE (by assumption) (by with_unfolding_all rfl) ?_ | with_reducible refine p_getI (by with_unfolding_all rfl) ?_ | with_reducible refine p_getS (by with_unfolding_all rfl) (by with_unfolding_all rfl) (by first | with_unfolding_all rfl | with_unfolding_all assumption) ?_ | with_reducible refine p_getN (by with_unfolding_all rfl) (by with_unfolding_all rfl) (by first | with_unfolding_all rfl | with_unfolding_all assumption) ?_ | with_reducible refine p_r (by with_unfolding_all rfl) (by (first | exact True.intro | exact szl | (with_reducible assumption) | decide | (simp only [List.length_cons, List.length_nil]; first | exact szl | omega) | omega)) ?_ | with_reducible refine p_rc (by with_unfolding_all rfl) (by (first | exact True.intro | exact szl | (with_reducible assumption) | decide | (simp only [List.length_cons, List.length_nil]; first | exact szl | omega) | omega)) ?_ | with_reducible refine p_ixS (by first | assumption | exact sup_same) (by with_unfolding_all rfl) ?_ | with_reducible refine p_set (by first | assumption | exact sup_same) (by with_unfolding_all rfl) ?_ | with_reducible refine p_onE (by with_unfolding_all rfl) (by (first | exact True.intro | exact szl | (with_reducible assumption) | decide | (simp only [List.length_cons, List.length_nil]; first | exact szl | omega) | omega)) ?_ | with_reducible refine p_kgetS (by first | with_unfolding_all rfl | with_unfolding_all assumption) ?_ | with_reducible refine p_kinT (by first | with_unfolding_all rfl | with_unfolding_all assumption) ?_ | with_reducible refine p_kinF (by first | with_unfolding_all rfl | with_unfolding_all assumption) ?_ | with_reducible refine p_nkinT (by first | with_unfolding_all rfl | with_unfolding_all assumption) ?_ | with_reducible refine p_nkinF (by first | with_unfolding_all rfl | with_unfolding_all assumption) ?_ | with_reducible refine p_T (by with_unfolding_all rfl) ?_ | with_reducible refine p_F (by with_unfolding_all rfl) ?_ | with_reducible refine And.intro (a := List.length _ ≤ sizeLine) szl ?_ | with_reducible refine And.intro (a := List.length _ = _) (by with_unfolding_all rfl) ?_))
    exact q
theorem safe_p {z : Int} {bl d b : D} {o : Int} {S : Sto} {Q : QD} (h : ISD b) (hs : ∀ {S : Sto} {Q : QD}, Q (.tup [b, .int o]) S → d_spot_of [d] S Q) (q : Q (.bl (baseB b o z)) S) : d_is_safe_spot [.tup [.int z, bl], d] S Q := by
  refine mkSp_of rfl ?_
  show r_is_safe_spot ⟨_, _, _, _⟩ [some (.tup [.int z, bl]), some d, none, none] S
  unfold r_is_safe_spot
  obtain ⟨i, rfl⟩ | ⟨x, rfl⟩ := h
  · (repeat' (first | with_reducible refine p_seq ?_ | with_reducible refine p_next ?_ | with_reducible refine p_var (by with_unfolding_all rfl) ?_ | with_reducible refine p_c ?_ | with_reducible refine p_op ?_ | with_reducible refine p_cb ?_ | with_reducible refine p_call ?_ | with_reducible refine p_cons ?_ | with_reducible refine p_nil ?_ | with_reducible refine p_tup ?_ | with_reducible refine p_lst ?_ | with_reducible refine p_b ?_ | with_reducible refine p_qb ?_ | with_reducible refine p_and ?_ | with_reducible refine p_or ?_ | with_reducible refine p_not ?_ | with_reducible refine p_andV ?_ | with_reducible refine p_orV ?_ | with_reducible refine p_notV ?_ | with_reducible refine p_if ?_ | with_reducible refine p_ifS ?_ | with_reducible refine p_un ?_ | with_reducible refine p_neg ?_ | with_reducible refine p_ret ?_ | with_reducible refine p_retN ?_ | with_reducible refine p_drop ?_ | with_reducible refine p_asg' ?_ | with_reducible refine p_par ?_ | with_reducible refine p_setI ?_ | with_reducible refine p_sl ?_ | with_reducible refine p_noPart ?_ | with_reducible refine p_part ?_ | with_reducible refine p_partI ?_ | with_reducible refine p_kin ?_ | with_reducible refine p_kget ?_ | with_reducible refine p_lm ?_ | with_reducible refine p_for ?_ | with_reducible refine p_seqI ?_ | with_reducible refine p_seqL ?_ | with_reducible refine p_seqT ?_ | with_reducible refine p_rng1 ?_ | with_reducible refine p_rng1I (by unfold rng1; first | decide | (constructor <;> omega)) ?_ | with_reducible refine p_yes ?_ | with_reducible refine p_chain ?_ | with_reducible refine p_callK ?_ | with_reducible refine p_lc ?_ | with_reducible refine p_disp fun _ hp0 => ?_ | with_reducible refine p_get2 ?_ | with_reducible refine p_bindM (by with_unfolding_all rfl) ?_ | with_reducible refine p_mulI (by first | decide | omega) (by first | decide | omega) ?_ | with_reducible refine p_mod (by first | decide | omega | assumption) ?_ | with_reducible refine p_sub ?_ | with_reducible refine p_min ?_ | with_reducible refine p_max ?_ | with_reducible refine p_ix0 ?_ | with_reducible refine p_ix0L ?_ | with_reducible refine p_inT (by first | decide +kernel | exact ⟨rfl, rfl⟩ | (simp [flD]; done)) ?_ | with_reducible refine p_notInT (by first | decide +kernel | exact ⟨rfl, rfl⟩ | (simp [flD]; done)) ?_ | with_reducible refine p_fdiv (by first | assumption | decide) ?_ | with_reducible refine p_pow (by unfold CPow; decide) ?_ | with_reducible refine p_lt ?_ | with_reducible refine p_le ?_ | with_reducible refine p_gt ?_ | with_reducible refine p_ge ?_ | with_reducible refine p_eqI ?_ | with_reducible refine p_neI ?_ | with_reducible refine p_eqL (by first | decide +kernel | assumption) (by first | decide +kernel | assumption) ?_ | with_reducible refine p_neL (by first | decide +kernel | assumption) (by first | decide +kernel | assumption) ?_ | with_reducible refine p_eqT (by first | decide +kernel | assumption) (by first | decide +kernel | assumption) ?_ | with_reducible refine p_neT (by first | decide +kernel | assumption) (by first | decide +kernel | assumption) ?_ | with_reducible refine p_eqS (by first | decide +kernel | assumption) (by first | decide +kernel | assumption) ?_ | with_reducible refine p_neS (by first | decide +kernel | assumption) (by first | decide +kernel | assumption) ?_ | with_reducible refine p_isi (by with_unfolding_all rfl) (by decide) ?_ | with_reducible refine p_lmO (by first | assumption | exact sup_same) ?_ | with_reducible refine p_lmE (by first | assumption | exact sup_same) (by with_unfolding_all rfl) (by (first | exact True.intro | exact szl | (with_reducible assumption) | decide | (simp only [List.length_cons, List.length_nil]; first | exact szl | omega) | omega)) ?_ | with_reducible refine p_freeze (by with_unfolding_all rfl) (by first | assumption | exact sup_same) ?_ | with_reducible refine p_dispE (by assumption) (by with_unfolding_all rfl) ?_ | with_reducible refine p_getI (by with_unfolding_all rfl) ?_ | with_reducible refine p_getS (by with_unfolding_all rfl) (by with_unfolding_all rfl) (by first | with_unfolding_all rfl | with_unfolding_all assumption) ?_ | with_reducible refine p_getN (by with_unfolding_all rfl) (by with_unfolding_all rfl) (by first | with_unfolding_all rfl | with_unfolding_all assumption) ?_ | with_reducible refine p_r (by with_unfolding_all rfl) (by (first | exact True.intro | exact szl | (with_reducible assumption) | decide | (simp only [List.length_cons, List.length_nil]; first | exact szl | omega) | omega)) ?_ | with_reducible refine p_rc (by with_unfolding_all rfl) (by (first | exact True.intro | exact szl | (with_reducible assumption) | decide | (simp only [List.length_cons, List.length_nil]; first | exact szl | omega) | omega)) ?_ | with_reducible refine p_ixS (by first | assumption | exact sup_same) (by with_unfolding_all rfl) ?_ | with_reducible refine p_set (by first | assumption | exact sup_same) (by with_unfolding_all rfl) ?_ | with_reducible refine p_onE (by with_unfolding_all rfl) (by (first | exact True.intro | exact szl | (with_reducible assumption) | decide | (simp only [List.length_cons, List.length_nil]; first | exact szl | omega) | omega)) ?_ | with_reducible refine p_kgetS (by first | with_unfolding_all rfl | with_unfolding_all assumption) ?_ | with_reducible refine p_kinT (by first | with_unfolding_all rfl | with_unfolding_all assumption) ?_ | with_reducible refine p_kinF (by first | with_unfolding_all rfl | with_unfolding_all assumption) ?_ | with_reducible refine p_nkinT (by first | with_unfolding_all rfl | with_unfolding_all assumption) ?_ | with_reducible refine p_nkinF (by first | with_unfolding_all rfl | with_unfolding_all assumption) ?_ | with_reducible refine p_T (by with_unfolding_all rfl) ?_ | with_reducible refine p_F (by with_unfolding_all rfl) ?_ | with_reducible refine And.intro (a := List.length _ ≤ sizeLine) szl ?_ | with_reducible refine And.intro (a := List.length _ = _) (by with_unfolding_all rfl) ?_ | refine hs ?_ | refine isnum_p (.inl ⟨_, rfl⟩) ?_))
    refine p_iteD (fun h1 => ?_) (fun h1 => ?_)
    · (repeat' (first | with_reducible refine p_seq ?_ | with_reducible refine p_next ?_ | with_reducible refine p_var (by with_unfolding_all rfl) ?_ | with_reducible refine p_c ?_ | with_reducible refine p_op ?_ | with_reducible refine p_cb ?_ | with_reducible refine p_call ?_ | with_reducible refine p_cons ?_ | with_reducible refine p_nil ?_ | with_reducible refine p_tup ?_ | with_reducible refine p_lst ?_ | with_reducible refine p_b ?_ | with_reducible refine p_qb ?_ | with_reducible refine p_and ?_ | with_reducible refine p_or ?_ | with_reducible refine p_not ?_ | with_reducible refine p_andV ?_ | with_reducible refine p_orV ?_ | with_reducible refine p_notV ?_ | with_reducible refine p_if ?_ | with_reducible refine p_ifS ?_ | with_reducible refine p_un ?_ | with_reducible refine p_neg ?_ | with_reducible refine p_ret ?_ | with_reducible refine p_retN ?_ | with_reducible refine p_drop ?_ | with_reducible refine p_asg' ?_ | with_reducible refine p_par ?_ | with_reducible refine p_setI ?_ | with_reducible refine p_sl ?_ | with_reducible refine p_noPart ?_ | with_reducible refine p_part ?_ | with_reducible refine p_partI ?_ | with_reducible refine p_kin ?_ | with_reducible refine p_kget ?_ | with_reducible refine p_lm ?_ | with_reducible refine p_for ?_ | with_reducible refine p_seqI ?_ | with_reducible refine p_seqL ?_ | with_reducible refine p_seqT ?_ | with_reducible refine p_rng1 ?_ | with_reducible refine p_rng1I (by unfold rng1; first | decide | (constructor <;> omega)) ?_ | with_reducible refine p_yes ?_ | with_reducible refine p_chain ?_ | with_reducible refine p_callK ?_ | with_reducible refine p_lc ?_ | with_reducible refine p_disp fun _ hp0 => ?_ | with_reducible refine p_get2 ?_ | with_reducible refine p_bindM (by with_unfolding_all rfl) ?_ | with_reducible refine p_mulI (by first | decide | omega) (by first | decide | omega) ?_ | with_reducible refine p_mod (by first | decide | omega | assumption) ?_ | with_reducible refine p_sub ?_ | with_reducible refine p_min ?_ | with_reducible refine p_max ?_ | with_reducible refine p_ix0 ?_ | with_reducible refine p_ix0L ?_ | with_reducible refine p_inT (by first | decide +kernel | exact ⟨rfl, rfl⟩ | (simp [flD]; done)) ?_ | with_reducible refine p_notInT (by first | decide +kernel | exact ⟨rfl, rfl⟩ | (simp [flD]; done)) ?_ | with_reducible refine p_fdiv (by first | assumption | decide) ?_ | with_reducible refine p_pow (by unfold CPow; decide) ?_ | with_reducible refine p_lt ?_ | with_reducible refine p_le ?_ | with_reducible refine p_gt ?_ | with_reducible refine p_ge ?_ | with_reducible refine p_eqI ?_ | with_reducible refine p_neI ?_ | with_reducible refine p_eqL (by first | decide +kernel | assumption) (by first | decide +kernel | assumption) ?_ | with_reducible refine p_neL (by first | decide +kernel | assumption) (by first | decide +kernel | assumption) ?_ | with_reducible refine p_eqT (by first | decide +kernel | assumption) (by first | decide +kernel | assumption) ?_ | with_reducible refine p_neT (by first | decide +kernel | assumption) (by first | decide +kernel | assumption) ?_ | with_reducible refine p_eqS (by first | decide +kernel | assumption) (by first | decide +kernel | assumption) ?_ | with_reducible refine p_neS (by first | decide +kernel | assumption) (by first | decide +kernel | assumption) ?_ | with_reducible refine p_isi (by with_unfolding_all rfl) (by decide) ?_ | with_reducible refine p_lmO (by first | assumption | exact sup_same) ?_ | with_reducible refine p_lmE (by first | assumption | exact sup_same) (by with_unfolding_all rfl) (by (first | exact True.intro | exact szl | (with_reducible assumption) | decide | (simp only [List.length_cons, List.length_nil]; first | exact szl | omega) | omega)) ?_ | with_reducible refine p_freeze (by with_unfolding_all rfl) (by first | assumption | exact sup_same) ?_ | with_reducible refine p_dispE (by assumption) (by with_unfolding_all rfl) ?_ | with_reducible refine p_getI (by with_unfolding_all rfl) ?_ | with_reducible refine p_getS (by with_unfolding_all rfl) (by with_unfolding_all rfl) (by first | with_unfolding_all rfl | with_unfolding_all assumption) ?_ | with_reducible refine p_getN (by with_unfolding_all rfl) (by with_unfolding_all rfl) (by first | with_unfolding_all rfl | with_unfolding_all assumption) ?_ | with_reducible refine p_r (by with_unfolding_all rfl) (by (first | exact True.intro | exact szl | (with_reducible assumption) | decide | (simp only [List.length_cons, List.length_nil]; first | exact szl | omega) | omega)) ?_ | with_reducible refine p_rc (by with_unfolding_all rfl) (by (first | exact True.intro | exact szl | (with_reducible assumption) | decide | (simp only [List.length_cons, List.length_nil]; first | exact szl | omega) | omega)) ?_ | with_reducible refine p_ixS (by first | assumption | exact sup_same) (by with_unfolding_all rfl) ?_ | with_reducible refine p_set (by first | assumption | exact sup_same) (by with_unfolding_all rfl) ?_ | with_reducible refine p_onE (by with_unfolding_all rfl) (by (first | exact True.intro | exact szl | (with_reducible assumption) | decide | (simp only [List.length_cons, List.length_nil]; first | exact szl | omega) | omega)) ?_ | with_reducible refine p_kgetS (by first | with_unfolding_all rfl | with_unfolding_all assumption) ?_ | with_reducible refine p_kinT (by first | with_unfolding_all rfl | with_unfolding_all assumption) ?_ | with_reducible refine p_kinF (by first | with_unfolding_all rfl | with_unfolding_all assumption) ?_ | with_reducible refine p_nkinT (by first | with_unfolding_all rfl | with_unfolding_all assumption) ?_ | with_reducible refine p_nkinF (by first | with_unfolding_all rfl | with_unfolding_all assumption) ?_ | with_reducible refine p_T (by with_unfolding_all rfl) ?_ | with_reducible refine p_F (by with_unfolding_all rfl) ?_ | with_reducible refine And.intro (a := List.length _ ≤ sizeLine) szl ?_ | with_reducible refine And.intro (a := List.length _ = _) (by with_unfolding_all rfl) ?_))
      refine to_bl ?_ q
      show decide (i + o < z) = (decide (0 ≤ i + o) && decide (i + o < z))
      rw [decide_eq_true h1, Bool.true_and]
    · refine to_bl ?_ q
      show false = (decide (0 ≤ i + o) && decide (i + o < z))
      rw [decide_eq_false h1, Bool.false_and]
  · (repeat' (first | with_reducible refine p_seq ?_ | with_reducible refine p_next ?_ | with_reducible refine p_var (by with_unfolding_all rfl) ?_ | with_reducible refine p_c ?_ | with_reducible refine p_op ?_ | with_reducible refine p_cb ?_ | with_reducible refine p_call ?_ | with_reducible refine p_cons ?_ | with_reducible refine p_nil ?_ | with_reducible refine p_tup ?_ | with_reducible refine p_lst ?_ | with_reducible refine p_b ?_ | with_reducible refine p_qb ?_ | with_reducible refine p_and ?_ | with_reducible refine p_or ?_ | with_reducible refine p_not ?_ | with_reducible refine p_andV ?_ | with_reducible refine p_orV ?_ | with_reducible refine p_notV ?_ | with_reducible refine p_if ?_ | with_reducible refine p_ifS ?_ | with_reducible refine p_un ?_ | with_reducible refine p_neg ?_ | with_reducible refine p_ret ?_ | with_reducible refine p_retN ?_ | with_reducible refine p_drop ?_ | with_reducible refine p_asg' ?_ | with_reducible refine p_par ?_ | with_reducible refine p_setI ?_ | with_reducible refine p_sl ?_ | with_reducible refine p_noPart ?_ | with_reducible refine p_part ?_ | with_reducible refine p_partI ?_ | with_reducible refine p_kin ?_ | with_reducible refine p_kget ?_ | with_reducible refine p_lm ?_ | with_reducible refine p_for ?_ | with_reducible refine p_seqI ?_ | with_reducible refine p_seqL ?_ | with_reducible refine p_seqT ?_ | with_reducible refine p_rng1 ?_ | with_reducible refine p_rng1I (by unfold rng1; first | decide | (constructor <;> omega)) ?_ | with_reducible refine p_yes ?_ | with_reducible refine p_chain ?_ | with_reducible refine p_callK ?_ | with_reducible refine p_lc ?_ | with_reducible refine p_disp fun _ hp0 => ?_ | with_reducible refine p_get2 ?_ | with_reducible refine p_bindM (by with_unfolding_all rfl) ?_ | with_reducible refine p_mulI (by first | decide | omega) (by first | decide | omega) ?_ | with_reducible refine p_mod (by first | decide | omega | assumption) ?_ | with_reducible refine p_sub ?_ | with_reducible refine p_min ?_ | with_reducible refine p_max ?_ | with_reducible refine p_ix0 ?_ | with_reducible refine p_ix0L ?_ | with_reducible refine p_inT (by first | decide +kernel | exact ⟨rfl, rfl⟩ | (simp [flD]; done)) ?_ | with_reducible refine p_notInT (by first | decide +kernel | exact ⟨rfl, rfl⟩ | (simp [flD]; done)) ?_ | with_reducible refine p_fdiv (by first | assumption | decide) ?_ | with_reducible refine p_pow (by unfold CPow; decide) ?_ | with_reducible refine p_lt ?_ | with_reducible refine p_le ?_ | with_reducible refine p_gt ?_ | with_reducible refine p_ge ?_ | with_reducible refine p_eqI ?_ | with_reducible refine p_neI ?_ | with_reducible refine p_eqL (by first | decide +kernel | assumption) (by first | decide +kernel | assumption) ?_ | with_reducible refine p_neL (by first | decide +kernel | assumption) (by first | decide +kernel | assumption) ?_ | with_reducible refine p_eqT (by first | decide +kernel | assumption) (by first | decide +kernel | assumption) ?_ | with_reducible refine p_neT (by first | decide +kernel | assumption) (by first | decide +kernel | assumption) ?_ | with_reducible refine p_eqS (by first | decide +kernel | assumption) (by first | decide +kernel | assumption) ?_ | with_reducible refine p_neS (by first | decide +kernel | assumption) (by first | decide +kernel | assumption) ?_ | with_reducible refine p_isi (by with_unfolding_all rfl) (by decide) ?_ | with_reducible refine p_lmO (by first | assumption | exact sup_same) ?_ | with_reducible refine p_lmE (by first | assumption | exact sup_same) (by with_unfolding_all rfl) (by (first | exact True.intro | exact szl | (with_reducible assumption) | decide | (simp only [List.length_cons, List.length_nil]; first | exact szl | omega) | omega)) ?_ | with_reducible refine p_freeze (by with_unfolding_all rfl) (by first | assumption | exact sup_same) ?_ | with_reducible refine p_dispE (by assumption) (by with_unfolding_all rfl) ?_ | with_reducible refine p_getI (by with_unfolding_all rfl) ?_ | with_reducible refine p_getS (by with_unfolding_all rfl) (by with_unfolding_all rfl) (by first | with_unfolding_all rfl | with_unfolding_all assumption) ?_ | with_reducible refine p_getN (by with_unfolding_all rfl) (by with_unfolding_all rfl) (by first | with_unfolding_all rfl | with_unfolding_all assumption) ?_ | with_reducible refine p_r (by with_unfolding_all rfl) (by (first | exact True.intro | exact szl | (with_reducible assumption) | decide | (simp only [List.length_cons, List.length_nil]; first | exact szl | omega) | omega)) ?_ | with_reducible refine p_rc (by with_unfolding_all rfl) (by (first | exact True.intro | exact szl | (with_reducible assumption) | decide | (simp only [List.length_cons, List.length_nil]; first | exact szl | omega) | omega)) ?_ | with_reducible refine p_ixS (by first | assumption | exact sup_same) (by with_unfolding_all rfl) ?_ | with_reducible refine p_set (by first | assumption | exact sup_same) (by with_unfolding_all rfl) ?_ | with_reducible refine p_onE (by with_unfolding_all rfl) (by (first | exact True.intro | exact szl | (with_reducible assumption) | decide | (simp only [List.length_cons, List.length_nil]; first | exact szl | omega) | omega)) ?_ | with_reducible refine p_kgetS (by first | with_unfolding_all rfl | with_unfolding_all assumption) ?_ | with_reducible refine p_kinT (by first | with_unfolding_all rfl | with_unfolding_all assumption) ?_ | with_reducible refine p_kinF (by first | with_unfolding_all rfl | with_unfolding_all assumption) ?_ | with_reducible refine p_nkinT (by first | with_unfolding_all rfl | with_unfolding_all assumption) ?_ | with_reducible refine p_nkinF (by first | with_unfolding_all rfl | with_unfolding_all assumption) ?_ | with_reducible refine p_T (by with_unfolding_all rfl) ?_ | with_reducible refine p_F (by with_unfolding_all rfl) ?_ | with_reducible refine And.intro (a := List.length _ ≤ sizeLine) szl ?_ | with_reducible refine And.intro (a := List.length _ = _) (by with_unfolding_all rfl) ?_ | refine hs ?_ | refine isnum_p (.inr ⟨_, rfl⟩) ?_))
    exact q
theorem event_p {z : Int} {bl : D} {r : RV} {S : Sto} {Q : QD} (h : EvOk r) (q : Q (.bl (seenF z r)) S) : d_is_event_row [.tup [.int z, bl], r.d] S Q := by
  refine mkSp_of rfl ?_
  show r_is_event_row ⟨_, _, _, _⟩ [some (.tup [.int z, bl]), some r.d] S
  unfold r_is_event_row
  cases r with
  | load x b o m =>
    unfold RV.d
    (repeat' (first | with_reducible refine p_seq ?_ | with_reducible refine p_next ?_ | with_reducible refine p_var (by with_unfolding_all rfl) ?_ | with_reducible refine p_c ?_ | with_reducible refine p_op ?_ | with_reducible refine p_cb ?_ | with_reducible refine p_call ?_ | with_reducible refine p_cons ?_ | with_reducible refine p_nil ?_ | with_reducible refine p_tup ?_ | with_reducible refine p_lst ?_ | with_reducible refine p_b ?_ | with_reducible refine p_qb ?_ | with_reducible refine p_and ?_ | with_reducible refine p_or ?_ | with_reducible refine p_not ?_ | with_reducible refine p_andV ?_ | with_reducible refine p_orV ?_ | with_reducible refine p_notV ?_ | with_reducible refine p_if ?_ | with_reducible refine p_ifS ?_ | with_reducible refine p_un ?_ | with_reducible refine p_neg ?_ | with_reducible refine p_ret ?_ | with_reducible refine p_retN ?_ | with_reducible refine p_drop ?_ | with_reducible refine p_asg' ?_ | with_reducible refine p_par ?_ | with_reducible refine p_setI ?_ | with_reducible refine p_sl ?_ | with_reducible refine p_noPart ?_ | with_reducible refine p_part ?_ | with_reducible refine p_partI ?_ | with_reducible refine p_kin ?_ | with_reducible refine p_kget ?_ | with_reducible refine p_lm ?_ | with_reducible refine p_for ?_ | with_reducible refine p_seqI ?_ | with_reducible refine p_seqL ?_ | with_reducible refine p_seqT ?_ | with_reducible refine p_rng1 ?_ | with_reducible refine p_rng1I (by unfold rng1; first | decide | (constructor <;> omega)) ?_ | with_reducible refine p_yes ?_ | with_reducible refine p_chain ?_ | with_reducible refine p_callK ?_ | with_reducible refine p_lc ?_ | with_reducible refine p_disp fun _ hp0 => ?_ | with_reducible refine p_get2 ?_ | with_reducible refine p_bindM (by with_unfolding_all rfl) ?_ | with_reducible refine p_mulI (by first | decide | omega) (by first | decide | omega) ?_ | with_reducible refine p_mod (by first | decide | omega | assumption) ?_ | with_reducible refine p_sub ?_ | with_reducible refine p_min ?_ | with_reducible refine p_max ?_ | with_reducible refine p_ix0 ?_ | with_reducible refine p_ix0L ?_ | with_reducible refine p_inT (by first | decide +kernel | exact ⟨rfl, rfl⟩ | (simp [flD]; done)) ?_ | with_reducible refine p_notInT (by first | decide +kernel | exact ⟨rfl, rfl⟩ | (simp [flD]; done)) ?_ | with_reducible refine p_fdiv (by first | assumption | decide) ?_ | with_reducible refine p_pow (by unfold CPow; decide) ?_ | with_reducible refine p_lt ?_ | with_reducible refine p_le ?_ | with_reducible refine p_gt ?_ | with_reducible refine p_ge ?_ | with_reducible refine p_eqI ?_ | with_reducible refine p_neI ?_ | with_reducible refine p_eqL (by first | decide +kernel | assumption) (by first | decide +kernel | assumption) ?_ | with_reducible refine p_neL (by first | decide +kernel | assumption) (by first | decide +kernel | assumption) ?_ | with_reducible refine p_eqT (by first | decide +kernel | assumption) (by first | decide +kernel | assumption) ?_ | with_reducible refine p_neT (by first | decide +kernel | assumption) (by first | decide +kernel | assumption) ?_ | with_reducible refine p_eqS (by first | decide +kernel | assumption) (by first | decide +kernel | assumption) ?_ | with_reducible refine p_neS (by first | decide +kernel | assumption) (by first | decide +kernel | assumption) ?_ | with_reducible refine p_isi (by with_unfolding_all rfl) (by decide) ?_ | with_reducible refine p_lmO (by first | assumption | exact sup_same) ?_ | with_reducible refine p_lmE (by first | assumption | exact sup_same) (by with_unfolding_all rfl) (by (first | exact True.intro | exact szl | (with_reducible assumption) | decide | (simp only [List.length_cons, List.length_nil]; first | exact szl | omega) | omega)) ?_ | with_reducible refine p_freeze (by with_unfolding_all rfl) (by first | assumption | exact sup_same) ?_ | with_reducible refine p_dispE (by assumption) (by with_unfolding_all rfl) ?_ | with_reducible refine p_getI (by with_unfolding_all rfl) ?_ | with_reducible refine p_getS (by with_unfolding_all rfl) (by with_unfolding_all rfl) (by first | with_unfolding_all rfl | with_unfolding_all assumption) ?_ | with_reducible refine p_getN (by with_unfolding_all rfl) (by with_unfolding_all rfl) (by first | with_unfolding_all rfl | with_unfolding_all assumption) ?_ | with_reducible refine p_r (by with_unfolding_all rfl) (by (first | exact True.intro | exact szl | (with_reducible assumption) | decide | (simp only [List.length_cons, List.length_nil]; first | exact szl | omega) | omega)) ?_ | with_reducible refine p_rc (by with_unfolding_all rfl) (by (first | exact True.intro | exact szl | (with_reducible assumption) | decide | (simp only [List.length_cons, List.length_nil]; first | exact szl | omega) | omega)) ?_ | with_reducible refine p_ixS (by first | assumption | exact sup_same) (by with_unfolding_all rfl) ?_ | with_reducible refine p_set (by first | assumption | exact sup_same) (by with_unfolding_all rfl) ?_ | with_reducible refine p_onE (by with_unfolding_all rfl) (by (first | exact True.intro | exact szl | (with_reducible assumption) | decide | (simp only [List.length_cons, List.length_nil]; first | exact szl | omega) | omega)) ?_ | with_reducible refine p_kgetS (by first | with_unfolding_all rfl | with_unfolding_all assumption) ?_ | with_reducible refine p_kinT (by first | with_unfolding_all rfl | with_unfolding_all assumption) ?_ | with_reducible refine p_kinF (by first | with_unfolding_all rfl | with_unfolding_all assumption) ?_ | with_reducible refine p_nkinT (by first | with_unfolding_all rfl | with_unfolding_all assumption) ?_ | with_reducible refine p_nkinF (by first | with_unfolding_all rfl | with_unfolding_all assumption) ?_ | with_reducible refine p_T (by with_unfolding_all rfl) ?_ | with_reducible refine p_F (by with_unfolding_all rfl) ?_ | with_reducible refine And.intro (a := List.length _ ≤ sizeLine) szl ?_ | with_reducible refine And.intro (a := List.length _ = _) (by with_unfolding_all rfl) ?_ | refine safe_p h.2.1.2 (fun q => (spot_of_p q).1) ?_))
    exact q
  | store b o u m =>
    unfold RV.d
    (repeat' (first | with_reducible refine p_seq ?_ | with_reducible refine p_next ?_ | with_reducible refine p_var (by with_unfolding_all rfl) ?_ | with_reducible refine p_c ?_ | with_reducible refine p_op ?_ | with_reducible refine p_cb ?_ | with_reducible refine p_call ?_ | with_reducible refine p_cons ?_ | with_reducible refine p_nil ?_ | with_reducible refine p_tup ?_ | with_reducible refine p_lst ?_ | with_reducible refine p_b ?_ | with_reducible refine p_qb ?_ | with_reducible refine p_and ?_ | with_reducible refine p_or ?_ | with_reducible refine p_not ?_ | with_reducible refine p_andV ?_ | with_reducible refine p_orV ?_ | with_reducible refine p_notV ?_ | with_reducible refine p_if ?_ | with_reducible refine p_ifS ?_ | with_reducible refine p_un ?_ | with_reducible refine p_neg ?_ | with_reducible refine p_ret ?_ | with_reducible refine p_retN ?_ | with_reducible refine p_drop ?_ | with_reducible refine p_asg' ?_ | with_reducible refine p_par ?_ | with_reducible refine p_setI ?_ | with_reducible refine p_sl ?_ | with_reducible refine p_noPart ?_ | with_reducible refine p_part ?_ | with_reducible refine p_partI ?_ | with_reducible refine p_kin ?_ | with_reducible refine p_kget ?_ | with_reducible refine p_lm ?_ | with_reducible refine p_for ?_ | with_reducible refine p_seqI ?_ | with_reducible refine p_seqL ?_ | with_reducible refine p_seqT ?_ | with_reducible refine p_rng1 ?_ | with_reducible refine p_rng1I (by unfold rng1; first | decide | (constructor <;> omega)) ?_ | with_reducible refine p_yes ?_ | with_reducible refine p_chain ?_ | with_reducible refine p_callK ?_ | with_reducible refine p_lc ?_ | with_reducible refine p_disp fun _ hp0 => ?_ | with_reducible refine p_get2 ?_ | with_reducible refine p_bindM (by with_unfolding_all rfl) ?_ | with_reducible refine p_mulI (by first | decide | omega) (by first | decide | omega) ?_ | with_reducible refine p_mod (by first | decide | omega | assumption) ?_ | with_reducible refine p_sub ?_ | with_reducible refine p_min ?_ | with_reducible refine p_max ?_ | with_reducible refine p_ix0 ?_ | with_reducible refine p_ix0L ?_ | with_reducible refine p_inT (by first | decide +kernel | exact ⟨rfl, rfl⟩ | (simp [flD]; done)) ?_ | with_reducible refine p_notInT (by first | decide +kernel | exact ⟨rfl, rfl⟩ | (simp [flD]; done)) ?_ | with_reducible refine p_fdiv (by first | assumption | decide) ?_ | with_reducible refine p_pow (by unfold CPow; decide) ?_ | with_reducible refine p_lt ?_ | with_reducible refine p_le ?_ | with_reducible refine p_gt ?_ | with_reducible refine p_ge ?_ | with_reducible refine p_eqI ?_ | with_reducible refine p_neI ?_ | with_reducible refine p_eqL (by first | decide +kernel | assumption) (by first | decide +kernel | assumption) ?_ | with_reducible refine p_neL (by first | decide +kernel | assumption) (by first | decide +kernel | assumption) ?_ | with_reducible refine p_eqT (by first | decide +kernel | assumption) (by first | decide +kernel | assumption) ?_ | with_reducible refine p_neT (by first | decide +kernel | assumption) (by first | decide +kernel | assumption) ?_ | with_reducible refine p_eqS (by first | decide +kernel | assumption) (by first | decide +kernel | assumption) ?_ | with_reducible refine p_neS (by first | decide +kernel | assumption) (by first | decide +kernel | assumption) ?_ | with_reducible refine p_isi (by with_unfolding_all rfl) (by decide) ?_ | with_reducible refine p_lmO (by first | assumption | exact sup_same) ?_ | with_reducible refine p_lmE (by first | assumption | exact sup_same) (by with_unfolding_all rfl) (by (first | exact True.intro | exact szl | (with_reducible assumption) | decide | (simp only [List.length_cons, List.length_nil]; first | exact szl | omega) | omega)) ?_ | with_reducible refine p_freeze (by with_unfolding_all rfl) (by first | assumption | exact sup_same) ?_ | with_reducible refine p_dispE (by assumption) (by with_unfolding_all rfl) ?_ | with_reducible refine p_getI (by with_unfolding_all rfl) ?_ | with_reducible refine p_getS (by with_unfolding_all rfl) (by with_unfolding_all rfl) (by first | with_unfolding_all rfl | with_unfolding_all assumption) ?_ | with_reducible refine p_getN (by with_unfolding_all rfl) (by with_unfolding_all rfl) (by first | with_unfolding_all rfl | with_unfolding_all assumption) ?_ | with_reducible refine p_r (by with_unfolding_all rfl) (by (first | exact True.intro | exact szl | (with_reducible assumption) | decide | (simp only [List.length_cons, List.length_nil]; first | exact szl | omega) | omega)) ?_ | with_reducible refine p_rc (by with_unfolding_all rfl) (by (first | exact True.intro | exact szl | (with_reducible assumption) | decide | (simp only [List.length_cons, List.length_nil]; first | exact szl | omega) | omega)) ?_ | with_reducible refine p_ixS (by first | assumption | exact sup_same) (by with_unfolding_all rfl) ?_ | with_reducible refine p_set (by first | assumption | exact sup_same) (by with_unfolding_all rfl) ?_ | with_reducible refine p_onE (by with_unfolding_all rfl) (by (first | exact True.intro | exact szl | (with_reducible assumption) | decide | (simp only [List.length_cons, List.length_nil]; first | exact szl | omega) | omega)) ?_ | with_reducible refine p_kgetS (by first | with_unfolding_all rfl | with_unfolding_all assumption) ?_ | with_reducible refine p_kinT (by first | with_unfolding_all rfl | with_unfolding_all assumption) ?_ | with_reducible refine p_kinF (by first | with_unfolding_all rfl | with_unfolding_all assumption) ?_ | with_reducible refine p_nkinT (by first | with_unfolding_all rfl | with_unfolding_all assumption) ?_ | with_reducible refine p_nkinF (by first | with_unfolding_all rfl | with_unfolding_all assumption) ?_ | with_reducible refine p_T (by with_unfolding_all rfl) ?_ | with_reducible refine p_F (by with_unfolding_all rfl) ?_ | with_reducible refine And.intro (a := List.length _ ≤ sizeLine) szl ?_ | with_reducible refine And.intro (a := List.length _ = _) (by with_unfolding_all rfl) ?_ | refine safe_p h.1.2 (fun q => (spot_of_p q).2) ?_))
    exact q
  | div x u t m =>
    obtain ⟨h1, h2, ⟨h3, h4⟩, h5⟩ := h
    unfold RV.d
    obtain ⟨i, rfl⟩ | ⟨w, rfl⟩ := h4
    · (repeat' (first | with_reducible refine p_seq ?_ | with_reducible refine p_next ?_ | with_reducible refine p_var (by with_unfolding_all rfl) ?_ | with_reducible refine p_c ?_ | with_reducible refine p_op ?_ | with_reducible refine p_cb ?_ | with_reducible refine p_call ?_ | with_reducible refine p_cons ?_ | with_reducible refine p_nil ?_ | with_reducible refine p_tup ?_ | with_reducible refine p_lst ?_ | with_reducible refine p_b ?_ | with_reducible refine p_qb ?_ | with_reducible refine p_and ?_ | with_reducible refine p_or ?_ | with_reducible refine p_not ?_ | with_reducible refine p_andV ?_ | with_reducible refine p_orV ?_ | with_reducible refine p_notV ?_ | with_reducible refine p_if ?_ | with_reducible refine p_ifS ?_ | with_reducible refine p_un ?_ | with_reducible refine p_neg ?_ | with_reducible refine p_ret ?_ | with_reducible refine p_retN ?_ | with_reducible refine p_drop ?_ | with_reducible refine p_asg' ?_ | with_reducible refine p_par ?_ | with_reducible refine p_setI ?_ | with_reducible refine p_sl ?_ | with_reducible refine p_noPart ?_ | with_reducible refine p_part ?_ | with_reducible refine p_partI ?_ | with_reducible refine p_kin ?_ | with_reducible refine p_kget ?_ | with_reducible refine p_lm ?_ | with_reducible refine p_for ?_ | with_reducible refine p_seqI ?_ | with_reducible refine p_seqL ?_ | with_reducible refine p_seqT ?_ | with_reducible refine p_rng1 ?_ | with_reducible refine p_rng1I (by unfold rng1; first | decide | (constructor <;> omega)) ?_ | with_reducible refine p_yes ?_ | with_reducible refine p_chain ?_ | with_reducible refine p_callK ?_ | with_reducible refine p_lc ?_ | with_reducible refine p_disp fun _ hp0 => ?_ | with_reducible refine p_get2 ?_ | with_reducible refine p_bindM (by with_unfolding_all rfl) ?_ | with_reducible refine p_mulI (by first | decide | omega) (by first | decide | omega) ?_ | with_reducible refine p_mod (by first | decide | omega | assumption) ?_ | with_reducible refine p_sub ?_ | with_reducible refine p_min ?_ | with_reducible refine p_max ?_ | with_reducible refine p_ix0 ?_ | with_reducible refine p_ix0L ?_ | with_reducible refine p_inT (by first | decide +kernel | exact ⟨rfl, rfl⟩ | (simp [flD]; done)) ?_ | with_reducible refine p_notInT (by first | decide +kernel | exact ⟨rfl, rfl⟩ | (simp [flD]; done)) ?_ | with_reducible refine p_fdiv (by first | assumption | decide) ?_ | with_reducible refine p_pow (by unfold CPow; decide) ?_ | with_reducible refine p_lt ?_ | with_reducible refine p_le ?_ | with_reducible refine p_gt ?_ | with_reducible refine p_ge ?_ | with_reducible refine p_eqI ?_ | with_reducible refine p_neI ?_ | with_reducible refine p_eqL (by first | decide +kernel | assumption) (by first | decide +kernel | assumption) ?_ | with_reducible refine p_neL (by first | decide +kernel | assumption) (by first | decide +kernel | assumption) ?_ | with_reducible refine p_eqT (by first | decide +kernel | assumption) (by first | decide +kernel | assumption) ?_ | with_reducible refine p_neT (by first | decide +kernel | assumption) (by first | decide +kernel | assumption) ?_ | with_reducible refine p_eqS (by first | decide +kernel | assumption) (by first | decide +kernel | assumption) ?_ | with_reducible refine p_neS (by first | decide +kernel | assumption) (by first | decide +kernel | assumption) ?_ | with_reducible refine p_isi (by with_unfolding_all rfl) (by decide) ?_ | with_reducible refine p_lmO (by first | assumption | exact sup_same) ?_ | with_reducible refine p_lmE (by first | assumption | exact sup_same) (by with_unfolding_all rfl) (by (first | exact True.intro | exact szl | (with_reducible assumption) | decide | (simp only [List.length_cons, List.length_nil]; first | exact szl | omega) | omega)) ?_ | with_reducible refine p_freeze (by with_unfolding_all rfl) (by first | assumption | exact sup_same) ?_ | with_reducible refine p_dispE (by assumption) (by with_unfolding_all rfl) ?_ | with_reducible refine p_getI (by with_unfolding_all rfl) ?_ | with_reducible refine p_getS (by with_unfolding_all rfl) (by with_unfolding_all rfl) (by first | with_unfolding_all rfl | with_unfolding_all assumption) ?_ | with_reducible refine p_getN (by with_unfolding_all rfl) (by with_unfolding_all rfl) (by first | with_unfolding_all rfl | with_unfolding_all assumption) ?_ | with_reducible refine p_r (by with_unfolding_all rfl) (by (first | exact True.intro | exact szl | (with_reducible assumption) | decide | (simp only [List.length_cons, List.length_nil]; first | exact szl | omega) | omega)) ?_ | with_reducible refine p_rc (by with_unfolding_all rfl) (by (first | exact True.intro | exact szl | (with_reducible assumption) | decide | (simp only [List.length_cons, List.length_nil]; first | exact szl | omega) | omega)) ?_ | with_reducible refine p_ixS (by first | assumption | exact sup_same) (by with_unfolding_all rfl) ?_ | with_reducible refine p_set (by first | assumption | exact sup_same) (by with_unfolding_all rfl) ?_ | with_reducible refine p_onE (by with_unfolding_all rfl) (by (first | exact True.intro | exact szl | (with_reducible assumption) | decide | (simp only [List.length_cons, List.length_nil]; first | exact szl | omega) | omega)) ?_ | with_reducible refine p_kgetS (by first | with_unfolding_all rfl | with_unfolding_all assumption) ?_ | with_reducible refine p_kinT (by first | with_unfolding_all rfl | with_unfolding_all assumption) ?_ | with_reducible refine p_kinF (by first | with_unfolding_all rfl | with_unfolding_all assumption) ?_ | with_reducible refine p_nkinT (by first | with_unfolding_all rfl | with_unfolding_all assumption) ?_ | with_reducible refine p_nkinF (by first | with_unfolding_all rfl | with_unfolding_all assumption) ?_ | with_reducible refine p_T (by with_unfolding_all rfl) ?_ | with_reducible refine p_F (by with_unfolding_all rfl) ?_ | with_reducible refine And.intro (a := List.length _ ≤ sizeLine) szl ?_ | with_reducible refine And.intro (a := List.length _ = _) (by with_unfolding_all rfl) ?_ | refine isnum_p (.inl ⟨_, rfl⟩) ?_))
      exact q
    · (repeat' (first | with_reducible refine p_seq ?_ | with_reducible refine p_next ?_ | with_reducible refine p_var (by with_unfolding_all rfl) ?_ | with_reducible refine p_c ?_ | with_reducible refine p_op ?_ | with_reducible refine p_cb ?_ | with_reducible refine p_call ?_ | with_reducible refine p_cons ?_ | with_reducible refine p_nil ?_ | with_reducible refine p_tup ?_ | with_reducible refine p_lst ?_ | with_reducible refine p_b ?_ | with_reducible refine p_qb ?_ | with_reducible refine p_and ?_ | with_reducible refine p_or ?_ | with_reducible refine p_not ?_ | with_reducible refine p_andV ?_ | with_reducible refine p_orV ?_ | with_reducible refine p_notV ?_ | with_reducible refine p_if ?_ | with_reducible refine p_ifS ?_ | with_reducible refine p_un ?_ | with_reducible refine p_neg ?_ | with_reducible refine p_ret ?_ | with_reducible refine p_retN ?_ | with_reducible refine p_drop ?_ | with_reducible refine p_asg' ?_ | with_reducible refine p_par ?_ | with_reducible refine p_setI ?_ | with_reducible refine p_sl ?_ | with_reducible refine p_noPart ?_ | with_reducible refine p_part ?_ | with_reducible refine p_partI ?_ | with_reducible refine p_kin ?_ | with_reducible refine p_kget ?_ | with_reducible refine p_lm ?_ | with_reducible refine p_for ?_ | with_reducible refine p_seqI ?_ | with_reducible refine p_seqL ?_ | with_reducible refine p_seqT ?_ | with_reducible refine p_rng1 ?_ | with_reducible refine p_rng1I (by unfold rng1; first | decide | (constructor <;> omega)) ?_ | with_reducible refine p_yes ?_ | with_reducible refine p_chain ?_ | with_reducible refine p_callK ?_ | with_reducible refine p_lc ?_ | with_reducible refine p_disp fun _ hp0 => ?_ | with_reducible refine p_get2 ?_ | with_reducible refine p_bindM (by with_unfolding_all rfl) ?_ | with_reducible refine p_mulI (by first | decide | omega) (by first | decide | omega) ?_ | with_reducible refine p_mod (by first | decide | omega | assumption) ?_ | with_reducible refine p_sub ?_ | with_reducible refine p_min ?_ | with_reducible refine p_max ?_ | with_reducible refine p_ix0 ?_ | with_reducible refine p_ix0L ?_ | with_reducible refine p_inT (by first | decide +kernel | exact ⟨rfl, rfl⟩ | (simp [flD]; done)) ?_ | with_reducible refine p_notInT (by first | decide +kernel | exact ⟨rfl, rfl⟩ | (simp [flD]; done)) ?_ | with_reducible refine p_fdiv (by first | assumption | decide) ?_ | with_reducible refine p_pow (by unfold CPow; decide) ?_ | with_reducible refine p_lt ?_ | with_reducible refine p_le ?_ | with_reducible refine p_gt ?_ | with_reducible refine p_ge ?_ | with_reducible refine p_eqI ?_ | with_reducible refine p_neI ?_ | with_reducible refine p_eqL (by first | decide +kernel | assumption) (by first | decide +kernel | assumption) ?_ | with_reducible refine p_neL (by first | decide +kernel | assumption) (by first | decide +kernel | assumption) ?_ | with_reducible refine p_eqT (by first | decide +kernel | assumption) (by first | decide +kernel | assumption) ?_ | with_reducible refine p_neT (by first | decide +kernel | assumption) (by first | decide +kernel | assumption) ?_ | with_reducible refine p_eqS (by first | decide +kernel | assumption) (by first | decide +kernel | assumption) ?_ | with_reducible refine p_neS (by first | decide +kernel | assumption) (by first | decide +kernel | assumption) ?_ | with_reducible refine p_isi (by with_unfolding_all rfl) (by decide) ?_ | with_reducible refine p_lmO (by first | assumption | exact sup_same) ?_ | with_reducible refine p_lmE (by first | assumption | exact sup_same) (by with_unfolding_all rfl) (by (first | exact True.intro | exact szl | (with_reducible assumption) | decide | (simp only [List.length_cons, List.length_nil]; first | exact szl | omega) | omega)) ?_ | with_reducible refine p_freeze (by with_unfolding_all rfl) (by first | assumption | exact sup_same) ?_ | with_reducible refine p_dispE (by assumption) (by with_unfolding_all rfl) ?_ | with_reducible refine p_getI (by with_unfolding_all rfl) ?_ | with_reducible refine p_getS (by with_unfolding_all rfl) (by with_unfolding_all rfl) (by first | with_unfolding_all rfl | with_unfolding_all assumption) ?_ | with_reducible refine p_getN (by with_unfolding_all rfl) (by with_unfolding_all rfl) (by first | with_unfolding_all rfl | with_unfolding_all assumption) ?_ | with_reducible refine p_r (by with_unfolding_all rfl) (by (first | exact True.intro | exact szl | (with_reducible assumption) | decide | (simp only [List.length_cons, List.length_nil]; first | exact szl | omega) | omega)) ?_ | with_reducible refine p_rc (by with_unfolding_all rfl) (by (first | exact True.intro | exact szl | (with_reducible assumption) | decide | (simp only [List.length_cons, List.length_nil]; first | exact szl | omega) | omega)) ?_ | with_reducible refine p_ixS (by first | assumption | exact sup_same) (by with_unfolding_all rfl) ?_ | with_reducible refine p_set (by first | assumption | exact sup_same) (by with_unfolding_all rfl) ?_ | with_reducible refine p_onE (by with_unfolding_all rfl) (by (first | exact True.intro | exact szl | (with_reducible assumption) | decide | (simp only [List.length_cons, List.length_nil]; first | exact szl | omega) | omega)) ?_ | with_reducible refine p_kgetS (by first | with_unfolding_all rfl | with_unfolding_all assumption) ?_ | with_reducible refine p_kinT (by first | with_unfolding_all rfl | with_unfolding_all assumption) ?_ | with_reducible refine p_kinF (by first | with_unfolding_all rfl | with_unfolding_all assumption) ?_ | with_reducible refine p_nkinT (by first | with_unfolding_all rfl | with_unfolding_all assumption) ?_ | with_reducible refine p_nkinF (by first | with_unfolding_all rfl | with_unfolding_all assumption) ?_ | with_reducible refine p_T (by with_unfolding_all rfl) ?_ | with_reducible refine p_F (by with_unfolding_all rfl) ?_ | with_reducible refine And.intro (a := List.length _ ≤ sizeLine) szl ?_ | with_reducible refine And.intro (a := List.length _ = _) (by with_unfolding_all rfl) ?_ | refine isnum_p (.inr ⟨_, rfl⟩) ?_))
      exact q
  | set x s u t =>
    unfold RV.d
    (repeat' (first | with_reducible refine p_seq ?_ | with_reducible refine p_next ?_ | with_reducible refine p_var (by with_unfolding_all rfl) ?_ | with_reducible refine p_c ?_ | with_reducible refine p_op ?_ | with_reducible refine p_cb ?_ | with_reducible refine p_call ?_ | with_reducible refine p_cons ?_ | with_reducible refine p_nil ?_ | with_reducible refine p_tup ?_ | with_reducible refine p_lst ?_ | with_reducible refine p_b ?_ | with_reducible refine p_qb ?_ | with_reducible refine p_and ?_ | with_reducible refine p_or ?_ | with_reducible refine p_not ?_ | with_reducible refine p_andV ?_ | with_reducible refine p_orV ?_ | with_reducible refine p_notV ?_ | with_reducible refine p_if ?_ | with_reducible refine p_ifS ?_ | with_reducible refine p_un ?_ | with_reducible refine p_neg ?_ | with_reducible refine p_ret ?_ | with_reducible refine p_retN ?_ | with_reducible refine p_drop ?_ | with_reducible refine p_asg' ?_ | with_reducible refine p_par ?_ | with_reducible refine p_setI ?_ | with_reducible refine p_sl ?_ | with_reducible refine p_noPart ?_ | with_reducible refine p_part ?_ | with_reducible refine p_partI ?_ | with_reducible refine p_kin ?_ | with_reducible refine p_kget ?_ | with_reducible refine p_lm ?_ | with_reducible refine p_for ?_ | with_reducible refine p_seqI ?_ | with_reducible refine p_seqL ?_ | with_reducible refine p_seqT ?_ | with_reducible refine p_rng1 ?_ | with_reducible refine p_rng1I (by unfold rng1; first | decide | (constructor <;> omega)) ?_ | with_reducible refine p_yes ?_ | with_reducible refine p_chain ?_ | with_reducible refine p_callK ?_ | with_reducible refine p_lc ?_ | with_reducible refine p_disp fun _ hp0 => ?_ | with_reducible refine p_get2 ?_ | with_reducible refine p_bindM (by with_unfolding_all rfl) ?_ | with_reducible refine p_mulI (by first | decide | omega) (by first | decide | omega) ?_ | with_reducible refine p_mod (by first | decide | omega | assumption) ?_ | with_reducible refine p_sub ?_ | with_reducible refine p_min ?_ | with_reducible refine p_max ?_ | with_reducible refine p_ix0 ?_ | with_reducible refine p_ix0L ?_ | with_reducible refine p_inT (by first | decide +kernel | exact ⟨rfl, rfl⟩ | (simp [flD]; done)) ?_ | with_reducible refine p_notInT (by first | decide +kernel | exact ⟨rfl, rfl⟩ | (simp [flD]; done)) ?_ | with_reducible refine p_fdiv (by first | assumption | decide) ?_ | with_reducible refine p_pow (by unfold CPow; decide) ?_ | with_reducible refine p_lt ?_ | with_reducible refine p_le ?_ | with_reducible refine p_gt ?_ | with_reducible refine p_ge ?_ | with_reducible refine p_eqI ?_ | with_reducible refine p_neI ?_ | with_reducible refine p_eqL (by first | decide +kernel | assumption) (by first | decide +kernel | assumption) ?_ | with_reducible refine p_neL (by first | decide +kernel | assumption) (by first | decide +kernel | assumption) ?_ | with_reducible refine p_eqT (by first | decide +kernel | assumption) (by first | decide +kernel | assumption) ?_ | with_reducible refine p_neT (by first | decide +kernel | assumption) (by first | decide +kernel | assumption) ?_ | with_reducible refine p_eqS (by first | decide +kernel | assumption) (by first | decide +kernel | assumption) ?_ | with_reducible refine p_neS (by first | decide +kernel | assumption) (by first | decide +kernel | assumption) ?_ | with_reducible refine p_isi (by with_unfolding_all rfl) (by decide) ?_ | with_reducible refine p_lmO (by first | assumption | exact sup_same) ?_ | with_reducible refine p_lmE (by first | assumption | exact sup_same) (by with_unfolding_all rfl) (by (first | exact True.intro | exact szl | (with_reducible assumption) | decide | (simp only [List.length_cons, List.length_nil]; first | exact szl | omega) | omega)) ?_ | with_reducible refine p_freeze (by with_unfolding_all rfl) (by first | assumption | exact sup_same) ?_ | with_reducible refine p_dispE (by assumption) (by with_unfolding_all rfl) ?_ | with_reducible refine p_getI (by with_unfolding_all rfl) ?_ | with_reducible refine p_getS (by with_unfolding_all rfl) (by with_unfolding_all rfl) (by first | with_unfolding_all rfl | with_unfolding_all assumption) ?_ | with_reducible refine p_getN (by with_unfolding_all rfl) (by with_unfolding_all rfl) (by first | with_unfolding_all rfl | with_unfolding_all assumption) ?_ | with_reducible refine p_r (by with_unfolding_all rfl) (by (first | exact True.intro | exact szl | (with_reducible assumption) | decide | (simp only [List.length_cons, List.length_nil]; first | exact szl | omega) | omega)) ?_ | with_reducible refine p_rc (by with_unfolding_all rfl) (by (first | exact True.intro | exact szl | (with_reducible assumption) | decide | (simp only [List.length_cons, List.length_nil]; first | exact szl | omega) | omega)) ?_ | with_reducible refine p_ixS (by first | assumption | exact sup_same) (by with_unfolding_all rfl) ?_ | with_reducible refine p_set (by first | assumption | exact sup_same) (by with_unfolding_all rfl) ?_ | with_reducible refine p_onE (by with_unfolding_all rfl) (by (first | exact True.intro | exact szl | (with_reducible assumption) | decide | (simp only [List.length_cons, List.length_nil]; first | exact szl | omega) | omega)) ?_ | with_reducible refine p_kgetS (by first | with_unfolding_all rfl | with_unfolding_all assumption) ?_ | with_reducible refine p_kinT (by first | with_unfolding_all rfl | with_unfolding_all assumption) ?_ | with_reducible refine p_kinF (by first | with_unfolding_all rfl | with_unfolding_all assumption) ?_ | with_reducible refine p_nkinT (by first | with_unfolding_all rfl | with_unfolding_all assumption) ?_ | with_reducible refine p_nkinF (by first | with_unfolding_all rfl | with_unfolding_all assumption) ?_ | with_reducible refine p_T (by with_unfolding_all rfl) ?_ | with_reducible refine p_F (by with_unfolding_all rfl) ?_ | with_reducible refine And.intro (a := List.length _ ≤ sizeLine) szl ?_ | with_reducible refine And.intro (a := List.length _ = _) (by with_unfolding_all rfl) ?_))
    exact to_bl (by with_unfolding_all rfl) q
  | out u =>
    unfold RV.d
    (repeat' (first | with_reducible refine p_seq ?_ | with_reducible refine p_next ?_ | with_reducible refine p_var (by with_unfolding_all rfl) ?_ | with_reducible refine p_c ?_ | with_reducible refine p_op ?_ | with_reducible refine p_cb ?_ | with_reducible refine p_call ?_ | with_reducible refine p_cons ?_ | with_reducible refine p_nil ?_ | with_reducible refine p_tup ?_ | with_reducible refine p_lst ?_ | with_reducible refine p_b ?_ | with_reducible refine p_qb ?_ | with_reducible refine p_and ?_ | with_reducible refine p_or ?_ | with_reducible refine p_not ?_ | with_reducible refine p_andV ?_ | with_reducible refine p_orV ?_ | with_reducible refine p_notV ?_ | with_reducible refine p_if ?_ | with_reducible refine p_ifS ?_ | with_reducible refine p_un ?_ | with_reducible refine p_neg ?_ | with_reducible refine p_ret ?_ | with_reducible refine p_retN ?_ | with_reducible refine p_drop ?_ | with_reducible refine p_asg' ?_ | with_reducible refine p_par ?_ | with_reducible refine p_setI ?_ | with_reducible refine p_sl ?_ | with_reducible refine p_noPart ?_ | with_reducible refine p_part ?_ | with_reducible refine p_partI ?_ | with_reducible refine p_kin ?_ | with_reducible refine p_kget ?_ | with_reducible refine p_lm ?_ | with_reducible refine p_for ?_ | with_reducible refine p_seqI ?_ | with_reducible refine p_seqL ?_ | with_reducible refine p_seqT ?_ | with_reducible refine p_rng1 ?_ | with_reducible refine p_rng1I (by unfold rng1; first | decide | (constructor <;> omega)) ?_ | with_reducible refine p_yes ?_ | with_reducible refine p_chain ?_ | with_reducible refine p_callK ?_ | with_reducible refine p_lc ?_ | with_reducible refine p_disp fun _ hp0 => ?_ | with_reducible refine p_get2 ?_ | with_reducible refine p_bindM (by with_unfolding_all rfl) ?_ | with_reducible refine p_mulI (by first | decide | omega) (by first | decide | omega) ?_ | with_reducible refine p_mod (by first | decide | omega | assumption) ?_ | with_reducible refine p_sub ?_ | with_reducible refine p_min ?_ | with_reducible refine p_max ?_ | with_reducible refine p_ix0 ?_ | with_reducible refine p_ix0L ?_ | with_reducible refine p_inT (by first | decide +kernel | exact ⟨rfl, rfl⟩ | (simp [flD]; done)) ?_ | with_reducible refine p_notInT (by first | decide +kernel | exact ⟨rfl, rfl⟩ | (simp [flD]; done)) ?_ | with_reducible refine p_fdiv (by first | assumption | decide) ?_ | with_reducible refine p_pow (by unfold CPow; decide) ?_ | with_reducible refine p_lt ?_ | with_reducible refine p_le ?_ | with_reducible refine p_gt ?_ | with_reducible refine p_ge ?_ | with_reducible refine p_eqI ?_ | with_reducible refine p_neI ?_ | with_reducible refine p_eqL (by first | decide +kernel | assumption) (by first | decide +kernel | assumption) ?_ | with_reducible refine p_neL (by first | decide +kernel | assumption) (by first | decide +kernel | assumption) ?_ | with_reducible refine p_eqT (by first | decide +kernel | assumption) (by first | decide +kernel | assumption) ?_ | with_reducible refine p_neT (by first | decide +kernel | assumption) (by first | decide +kernel | assumption) ?_ | with_reducible refine p_eqS (by first | decide +kernel | assumption) (by first | decide +kernel | assumption) ?_ | with_reducible refine p_neS (by first | decide +kernel | assumption) (by first | decide +kernel | assumption) ?_ | with_reducible refine p_isi (by with_unfolding_all rfl) (by decide) ?_ | with_reducible refine p_lmO (by first | assumption | exact sup_same) ?_ | with_reducible refine p_lmE (by first | assumption | exact sup_same) (by with_unfolding_all rfl) (by (first | exact True.intro | exact szl | (with_reducible assumption) | decide | (simp only [List.length_cons, List.length_nil]; first | exact szl | omega) | omega)) ?_ | with_reducible refine p_freeze (by with_unfolding_all rfl) (by first | assumption | exact sup_same) ?_ | with_reducible refine p_dispE (by assumption) (by with_unfolding_all rfl) ?_ | with_reducible refine p_getI (by with_unfolding_all rfl) ?_ | with_reducible refine p_getS (by with_unfolding_all rfl) (by with_unfolding_all rfl) (by first | with_unfolding_all rfl | with_unfolding_all assumption) ?_ | with_reducible refine p_getN (by with_unfolding_all rfl) (by with_unfolding_all rfl) (by first | with_unfolding_all rfl | with_unfolding_all assumption) ?_ | with_reducible refine p_r (by with_unfolding_all rfl) (by (first | exact True.intro | exact szl | (with_reducible assumption) | decide | (simp only [List.length_cons, List.length_nil]; first | exact szl | omega) | omega)) ?_ | with_reducible refine p_rc (by with_unfolding_all rfl) (by (first | exact True.intro | exact szl | (with_reducible assumption) | decide | (simp only [List.length_cons, List.length_nil]; first | exact szl | omega) | omega)) ?_ | with_reducible refine p_ixS (by first | assumption | exact sup_same) (by with_unfolding_all rfl) ?_ | with_reducible refine p_set (by first | assumption | exact sup_same) (by with_unfolding_all rfl) ?_ | with_reducible refine p_onE (by with_unfolding_all rfl) (by (first | exact True.intro | exact szl | (with_reducible assumption) | decide | (simp only [List.length_cons, List.length_nil]; first | exact szl | omega) | omega)) ?_ | with_reducible refine p_kgetS (by first | with_unfolding_all rfl | with_unfolding_all assumption) ?_ | with_reducible refine p_kinT (by first | with_unfolding_all rfl | with_unfolding_all assumption) ?_ | with_reducible refine p_kinF (by first | with_unfolding_all rfl | with_unfolding_all assumption) ?_ | with_reducible refine p_nkinT (by first | with_unfolding_all rfl | with_unfolding_all assumption) ?_ | with_reducible refine p_nkinF (by first | with_unfolding_all rfl | with_unfolding_all assumption) ?_ | with_reducible refine p_T (by with_unfolding_all rfl) ?_ | with_reducible refine p_F (by with_unfolding_all rfl) ?_ | with_reducible refine And.intro (a := List.length _ ≤ sizeLine) szl ?_ | with_reducible refine And.intro (a := List.length _ = _) (by with_unfolding_all rfl) ?_))
    exact to_bl (by with_unfolding_all rfl) q
  | leave u k =>
    unfold RV.d
    (repeat' (first | with_reducible refine p_seq ?_ | with_reducible refine p_next ?_ | with_reducible refine p_var (by with_unfolding_all rfl) ?_ | with_reducible refine p_c ?_ | with_reducible refine p_op ?_ | with_reducible refine p_cb ?_ | with_reducible refine p_call ?_ | with_reducible refine p_cons ?_ | with_reducible refine p_nil ?_ | with_reducible refine p_tup ?_ | with_reducible refine p_lst ?_ | with_reducible refine p_b ?_ | with_reducible refine p_qb ?_ | with_reducible refine p_and ?_ | with_reducible refine p_or ?_ | with_reducible refine p_not ?_ | with_reducible refine p_andV ?_ | with_reducible refine p_orV ?_ | with_reducible refine p_notV ?_ | with_reducible refine p_if ?_ | with_reducible refine p_ifS ?_ | with_reducible refine p_un ?_ | with_reducible refine p_neg ?_ | with_reducible refine p_ret ?_ | with_reducible refine p_retN ?_ | with_reducible refine p_drop ?_ | with_reducible refine p_asg' ?_ | with_reducible refine p_par ?_ | with_reducible refine p_setI ?_ | with_reducible refine p_sl ?_ | with_reducible refine p_noPart ?_ | with_reducible refine p_part ?_ | with_reducible refine p_partI ?_ | with_reducible refine p_kin ?_ | with_reducible refine p_kget ?_ | with_reducible refine p_lm ?_ | with_reducible refine p_for ?_ | with_reducible refine p_seqI ?_ | with_reducible refine p_seqL ?_ | with_reducible refine p_seqT ?_ | with_reducible refine p_rng1 ?_ | with_reducible refine p_rng1I (by unfold rng1; first | decide | (constructor <;> omega)) ?_ | with_reducible refine p_yes ?_ | with_reducible refine p_chain ?_ | with_reducible refine p_callK ?_ | with_reducible refine p_lc ?_ | with_reducible refine p_disp fun _ hp0 => ?_ | with_reducible refine p_get2 ?_ | with_reducible refine p_bindM (by with_unfolding_all rfl) ?_ | with_reducible refine p_mulI (by first | decide | omega) (by first | decide | omega) ?_ | with_reducible refine p_mod (by first | decide | omega | assumption) ?_ | with_reducible refine p_sub ?_ | with_reducible refine p_min ?_ | with_reducible refine p_max ?_ | with_reducible refine p_ix0 ?_ | with_reducible refine p_ix0L ?_ | with_reducible refine p_inT (by first | decide +kernel | exact ⟨rfl, rfl⟩ | (simp [flD]; done)) ?_ | with_reducible refine p_notInT (by first | decide +kernel | exact ⟨rfl, rfl⟩ | (simp [flD]; done)) ?_ | with_reducible refine p_fdiv (by first | assumption | decide) ?_ | with_reducible refine p_pow (by unfold CPow; decide) ?_ | with_reducible refine p_lt ?_ | with_reducible refine p_le ?_ | with_reducible refine p_gt ?_ | with_reducible refine p_ge ?_ | with_reducible refine p_eqI ?_ | with_reducible refine p_neI ?_ | with_reducible refine p_eqL (by first | decide +kernel | assumption) (by first | decide +kernel | assumption) ?_ | with_reducible refine p_neL (by first | decide +kernel | assumption) (by first | decide +kernel | assumption) ?_ | with_reducible refine p_eqT (by first | decide +kernel | assumption) (by first | decide +kernel | assumption) ?_ | with_reducible refine p_neT (by first | decide +kernel | assumption) (by first | decide +kernel | assumption) ?_ | with_reducible refine p_eqS (by first | decide +kernel | assumption) (by first | decide +kernel | assumption) ?_ | with_reducible refine p_neS (by first | decide +kernel | assumption) (by first | decide +kernel | assumption) ?_ | with_reducible refine p_isi (by with_unfolding_all rfl) (by decide) ?_ | with_reducible refine p_lmO (by first | assumption | exact sup_same) ?_ | with_reducible refine p_lmE (by first | assumption | exact sup_same) (by with_unfolding_all rfl) (by (first | exact True.intro | exact szl | (with_reducible assumption) | decide | (simp only [List.length_cons, List.length_nil]; first | exact szl | omega) | omega)) ?_ | with_reducible refine p_freeze (by with_unfolding_all rfl) (by first | assumption | exact sup_same) ?_ | with_reducible refine p_dispE (by assumption) (by with_unfolding_all rfl) ?_ | with_reducible refine p_getI (by with_unfolding_all rfl) ?_ | with_reducible refine p_getS (by with_unfolding_all rfl) (by with_unfolding_all rfl) (by first | with_unfolding_all rfl | with_unfolding_all assumption) ?_ | with_reducible refine p_getN (by with_unfolding_all rfl) (by with_unfolding_all rfl) (by first | with_unfolding_all rfl | with_unfolding_all assumption) ?_ | with_reducible refine p_r (by with_unfolding_all rfl) (by (first | exact True.intro | exact szl | (with_reducible assumption) | decide | (simp only [List.length_cons, List.length_nil]; first | exact szl | omega) | omega)) ?_ | with_reducible refine p_rc (by with_unfolding_all rfl) (by (first | exact True.intro | exact szl | (with_reducible assumption) | decide | (simp only [List.length_cons, List.length_nil]; first | exact szl | omega) | omega)) ?_ | with_reducible refine p_ixS (by first | assumption | exact sup_same) (by with_unfolding_all rfl) ?_ | with_reducible refine p_set (by first | assumption | exact sup_same) (by with_unfolding_all rfl) ?_ | with_reducible refine p_onE (by with_unfolding_all rfl) (by (first | exact True.intro | exact szl | (with_reducible assumption) | decide | (simp only [List.length_cons, List.length_nil]; first | exact szl | omega) | omega)) ?_ | with_reducible refine p_kgetS (by first | with_unfolding_all rfl | with_unfolding_all assumption) ?_ | with_reducible refine p_kinT (by first | with_unfolding_all rfl | with_unfolding_all assumption) ?_ | with_reducible refine p_kinF (by first | with_unfolding_all rfl | with_unfolding_all assumption) ?_ | with_reducible refine p_nkinT (by first | with_unfolding_all rfl | with_unfolding_all assumption) ?_ | with_reducible refine p_nkinF (by first | with_unfolding_all rfl | with_unfolding_all assumption) ?_ | with_reducible refine p_T (by with_unfolding_all rfl) ?_ | with_reducible refine p_F (by with_unfolding_all rfl) ?_ | with_reducible refine And.intro (a := List.length _ ≤ sizeLine) szl ?_ | with_reducible refine And.intro (a := List.length _ = _) (by with_unfolding_all rfl) ?_))
    exact to_bl (by with_unfolding_all rfl) q
  | unl u k =>
    unfold RV.d
    (repeat' (first | with_reducible refine p_seq ?_ | with_reducible refine p_next ?_ | with_reducible refine p_var (by with_unfolding_all rfl) ?_ | with_reducible refine p_c ?_ | with_reducible refine p_op ?_ | with_reducible refine p_cb ?_ | with_reducible refine p_call ?_ | with_reducible refine p_cons ?_ | with_reducible refine p_nil ?_ | with_reducible refine p_tup ?_ | with_reducible refine p_lst ?_ | with_reducible refine p_b ?_ | with_reducible refine p_qb ?_ | with_reducible refine p_and ?_ | with_reducible refine p_or ?_ | with_reducible refine p_not ?_ | with_reducible refine p_andV ?_ | with_reducible refine p_orV ?_ | with_reducible refine p_notV ?_ | with_reducible refine p_if ?_ | with_reducible refine p_ifS ?_ | with_reducible refine p_un ?_ | with_reducible refine p_neg ?_ | with_reducible refine p_ret ?_ | with_reducible refine p_retN ?_ | with_reducible refine p_drop ?_ | with_reducible refine p_asg' ?_ | with_reducible refine p_par ?_ | with_reducible refine p_setI ?_ | with_reducible refine p_sl ?_ | with_reducible refine p_noPart ?_ | with_reducible refine p_part ?_ | with_reducible refine p_partI ?_ | with_reducible refine p_kin ?_ | with_reducible refine p_kget ?_ | with_reducible refine p_lm ?_ | with_reducible refine p_for ?_ | with_reducible refine p_seqI ?_ | with_reducible refine p_seqL ?_ | with_reducible refine p_seqT ?_ | with_reducible refine p_rng1 ?_ | with_reducible refine p_rng1I (by unfold rng1; first | decide | (constructor <;> omega)) ?_ | with_reducible refine p_yes ?_ | with_reducible refine p_chain ?_ | with_reducible refine p_callK ?_ | with_reducible refine p_lc ?_ | with_reducible refine p_disp fun _ hp0 => ?_ | with_reducible refine p_get2 ?_ | with_reducible refine p_bindM (by with_unfolding_all rfl) ?_ | with_reducible refine p_mulI (by first | decide | omega) (by first | decide | omega) ?_ | with_reducible refine p_mod (by first | decide | omega | assumption) ?_ | with_reducible refine p_sub ?_ | with_reducible refine p_min ?_ | with_reducible refine p_max ?_ | with_reducible refine p_ix0 ?_ | with_reducible refine p_ix0L ?_ | with_reducible refine p_inT (by first | decide +kernel | exact ⟨rfl, rfl⟩ | (simp [flD]; done)) ?_ | with_reducible refine p_notInT (by first | decide +kernel | exact ⟨rfl, rfl⟩ | (simp [flD]; done)) ?_ | with_reducible refine p_fdiv (by first | assumption | decide) ?_ | with_reducible refine p_pow (by unfold CPow; decide) ?_ | with_reducible refine p_lt ?_ | with_reducible refine p_le ?_ | with_reducible refine p_gt ?_ | with_reducible refine p_ge ?_ | with_reducible refine p_eqI ?_ | with_reducible refine p_neI ?_ | with_reducible refine p_eqL (by first | decide +kernel | assumption) (by first | decide +kernel | assumption) ?_ | with_reducible refine p_neL (by first | decide +kernel | assumption) (by first | decide +kernel | assumption) ?_ | with_reducible refine p_eqT (by first | decide +kernel | assumption) (by first | decide +kernel | assumption) ?_ | with_reducible refine p_neT (by first | decide +kernel | assumption) (by first | decide +kernel | assumption) ?_ | with_reducible refine p_eqS (by first | decide +kernel | assumption) (by first | decide +kernel | assumption) ?_ | with_reducible refine p_neS (by first | decide +kernel | assumption) (by first | decide +kernel | assumption) ?_ | with_reducible refine p_isi (by with_unfolding_all rfl) (by decide) ?_ | with_reducible refine p_lmO (by first | assumption | exact sup_same) ?_ | with_reducible refine p_lmE (by first | assumption | exact sup_same) (by with_unfolding_all rfl) (by (first | exact True.intro | exact szl | (with_reducible assumption) | decide | (simp only [List.length_cons, List.length_nil]; first | exact szl | omega) | omega)) ?_ | with_reducible refine p_freeze (by with_unfolding_all rfl) (by first | assumption | exact sup_same) ?_ | with_reducible refine p_dispE (by assumption) (by with_unfolding_all rfl) ?_ | with_reducible refine p_getI (by with_unfolding_all rfl) ?_ | with_reducible refine p_getS (by with_unfolding_all rfl) (by with_unfolding_all rfl) (by first | with_unfolding_all rfl | with_unfolding_all assumption) ?_ | with_reducible refine p_getN (by with_unfolding_all rfl) (by with_unfolding_all rfl) (by first | with_unfolding_all rfl | with_unfolding_all assumption) ?_ | with_reducible refine p_r (by with_unfolding_all rfl) (by (first | exact True.intro | exact szl | (with_reducible assumption) | decide | (simp only [List.length_cons, List.length_nil]; first | exact szl | omega) | omega)) ?_ | with_reducible refine p_rc (by with_unfolding_all rfl) (by (first | exact True.intro | exact szl | (with_reducible assumption) | decide | (simp only [List.length_cons, List.length_nil]; first | exact szl | omega) | omega)) ?_ | with_reducible refine p_ixS (by first | assumption | exact sup_same) (by with_unfolding_all rfl) ?_ | with_reducible refine p_set (by first | assumption | exact sup_same) (by with_unfolding_all rfl) ?_ | with_reducible refine p_onE (by with_unfolding_all rfl) (by (first | exact True.intro | exact szl | (with_reducible assumption) | decide | (simp only [List.length_cons, List.length_nil]; first | exact szl | omega) | omega)) ?_ | with_reducible refine p_kgetS (by first | with_unfolding_all rfl | with_unfolding_all assumption) ?_ | with_reducible refine p_kinT (by first | with_unfolding_all rfl | with_unfolding_all assumption) ?_ | with_reducible refine p_kinF (by first | with_unfolding_all rfl | with_unfolding_all assumption) ?_ | with_reducible refine p_nkinT (by first | with_unfolding_all rfl | with_unfolding_all assumption) ?_ | with_reducible refine p_nkinF (by first | with_unfolding_all rfl | with_unfolding_all assumption) ?_ | with_reducible refine p_T (by with_unfolding_all rfl) ?_ | with_reducible refine p_F (by with_unfolding_all rfl) ?_ | with_reducible refine And.intro (a := List.length _ ≤ sizeLine) szl ?_ | with_reducible refine And.intro (a := List.length _ = _) (by with_unfolding_all rfl) ?_))
    exact to_bl (by with_unfolding_all rfl) q
  | qload x g b o =>
    unfold RV.d
    (repeat' (first | with_reducible refine p_seq ?_ | with_reducible refine p_next ?_ | with_reducible refine p_var (by with_unfolding_all rfl) ?_ | with_reducible refine p_c ?_ | with_reducible refine p_op ?_ | with_reducible refine p_cb ?_ | with_reducible refine p_call ?_ | with_reducible refine p_cons ?_ | with_reducible refine p_nil ?_ | with_reducible refine p_tup ?_ | with_reducible refine p_lst ?_ | with_reducible refine p_b ?_ | with_reducible refine p_qb ?_ | with_reducible refine p_and ?_ | with_reducible refine p_or ?_ | with_reducible refine p_not ?_ | with_reducible refine p_andV ?_ | with_reducible refine p_orV ?_ | with_reducible refine p_notV ?_ | with_reducible refine p_if ?_ | with_reducible refine p_ifS ?_ | with_reducible refine p_un ?_ | with_reducible refine p_neg ?_ | with_reducible refine p_ret ?_ | with_reducible refine p_retN ?_ | with_reducible refine p_drop ?_ | with_reducible refine p_asg' ?_ | with_reducible refine p_par ?_ | with_reducible refine p_setI ?_ | with_reducible refine p_sl ?_ | with_reducible refine p_noPart ?_ | with_reducible refine p_part ?_ | with_reducible refine p_partI ?_ | with_reducible refine p_kin ?_ | with_reducible refine p_kget ?_ | with_reducible refine p_lm ?_ | with_reducible refine p_for ?_ | with_reducible refine p_seqI ?_ | with_reducible refine p_seqL ?_ | with_reducible refine p_seqT ?_ | with_reducible refine p_rng1 ?_ | with_reducible refine p_rng1I (by unfold rng1; first | decide | (constructor <;> omega)) ?_ | with_reducible refine p_yes ?_ | with_reducible refine p_chain ?_ | with_reducible refine p_callK ?_ | with_reducible refine p_lc ?_ | with_reducible refine p_disp fun _ hp0 => ?_ | with_reducible refine p_get2 ?_ | with_reducible refine p_bindM (by with_unfolding_all rfl) ?_ | with_reducible refine p_mulI (by first | decide | omega) (by first | decide | omega) ?_ | with_reducible refine p_mod (by first | decide | omega | assumption) ?_ | with_reducible refine p_sub ?_ | with_reducible refine p_min ?_ | with_reducible refine p_max ?_ | with_reducible refine p_ix0 ?_ | with_reducible refine p_ix0L ?_ | with_reducible refine p_inT (by first | decide +kernel | exact ⟨rfl, rfl⟩ | (simp [flD]; done)) ?_ | with_reducible refine p_notInT (by first | decide +kernel | exact ⟨rfl, rfl⟩ | (simp [flD]; done)) ?_ | with_reducible refine p_fdiv (by first | assumption | decide) ?_ | with_reducible refine p_pow (by unfold CPow; decide) ?_ | with_reducible refine p_lt ?_ | with_reducible refine p_le ?_ | with_reducible refine p_gt ?_ | with_reducible refine p_ge ?_ | with_reducible refine p_eqI ?_ | with_reducible refine p_neI ?_ | with_reducible refine p_eqL (by first | decide +kernel | assumption) (by first | decide +kernel | assumption) ?_ | with_reducible refine p_neL (by first | decide +kernel | assumption) (by first | decide +kernel | assumption) ?_ | with_reducible refine p_eqT (by first | decide +kernel | assumption) (by first | decide +kernel | assumption) ?_ | with_reducible refine p_neT (by first | decide +kernel | assumption) (by first | decide +kernel | assumption) ?_ | with_reducible refine p_eqS (by first | decide +kernel | assumption) (by first | decide +kernel | assumption) ?_ | with_reducible refine p_neS (by first | decide +kernel | assumption) (by first | decide +kernel | assumption) ?_ | with_reducible refine p_isi (by with_unfolding_all rfl) (by decide) ?_ | with_reducible refine p_lmO (by first | assumption | exact sup_same) ?_ | with_reducible refine p_lmE (by first | assumption | exact sup_same) (by with_unfolding_all rfl) (by (first | exact True.intro | exact szl | (with_reducible assumption) | decide | (simp only [List.length_cons, List.length_nil]; first | exact szl | omega) | omega)) ?_ | with_reducible refine p_freeze (by with_unfolding_all rfl) (by first | assumption | exact sup_same) ?_ | with_reducible refine p_dispE (by assumption) (by with_unfolding_all rfl) ?_ | with_reducible refine p_getI (by with_unfolding_all rfl) ?_ | with_reducible refine p_getS (by with_unfolding_all rfl) (by with_unfolding_all rfl) (by first | with_unfolding_all rfl | with_unfolding_all assumption) ?_ | with_reducible refine p_getN (by with_unfolding_all rfl) (by with_unfolding_all rfl) (by first | with_unfolding_all rfl | with_unfolding_all assumption) ?_ | with_reducible refine p_r (by with_unfolding_all rfl) (by (first | exact True.intro | exact szl | (with_reducible assumption) | decide | (simp only [List.length_cons, List.length_nil]; first | exact szl | omega) | omega)) ?_ | with_reducible refine p_rc (by with_unfolding_all rfl) (by (first | exact True.intro | exact szl | (with_reducible assumption) | decide | (simp only [List.length_cons, List.length_nil]; first | exact szl | omega) | omega)) ?_ | with_reducible refine p_ixS (by first | assumption | exact sup_same) (by with_unfolding_all rfl) ?_ | with_reducible refine p_set (by first | assumption | exact sup_same) (by with_unfolding_all rfl) ?_ | with_reducible refine p_onE (by with_unfolding_all rfl) (by (first | exact True.intro | exact szl | (with_reducible assumption) | decide | (simp only [List.length_cons, List.length_nil]; first | exact szl | omega) | omega)) ?_ | with_reducible refine p_kgetS (by first | with_unfolding_all rfl | with_unfolding_all assumption) ?_ | with_reducible refine p_kinT (by first | with_unfolding_all rfl | with_unfolding_all assumption) ?_ | with_reducible refine p_kinF (by first | with_unfolding_all rfl | with_unfolding_all assumption) ?_ | with_reducible refine p_nkinT (by first | with_unfolding_all rfl | with_unfolding_all assumption) ?_ | with_reducible refine p_nkinF (by first | with_unfolding_all rfl | with_unfolding_all assumption) ?_ | with_reducible refine p_T (by with_unfolding_all rfl) ?_ | with_reducible refine p_F (by with_unfolding_all rfl) ?_ | with_reducible refine And.intro (a := List.length _ ≤ sizeLine) szl ?_ | with_reducible refine And.intro (a := List.length _ = _) (by with_unfolding_all rfl) ?_))
    exact to_bl (by with_unfolding_all rfl) q
  | qdiv x g u t =>
    unfold RV.d
    (repeat' (first | with_reducible refine p_seq ?_ | with_reducible refine p_next ?_ | with_reducible refine p_var (by with_unfolding_all rfl) ?_ | with_reducible refine p_c ?_ | with_reducible refine p_op ?_ | with_reducible refine p_cb ?_ | with_reducible refine p_call ?_ | with_reducible refine p_cons ?_ | with_reducible refine p_nil ?_ | with_reducible refine p_tup ?_ | with_reducible refine p_lst ?_ | with_reducible refine p_b ?_ | with_reducible refine p_qb ?_ | with_reducible refine p_and ?_ | with_reducible refine p_or ?_ | with_reducible refine p_not ?_ | with_reducible refine p_andV ?_ | with_reducible refine p_orV ?_ | with_reducible refine p_notV ?_ | with_reducible refine p_if ?_ | with_reducible refine p_ifS ?_ | with_reducible refine p_un ?_ | with_reducible refine p_neg ?_ | with_reducible refine p_ret ?_ | with_reducible refine p_retN ?_ | with_reducible refine p_drop ?_ | with_reducible refine p_asg' ?_ | with_reducible refine p_par ?_ | with_reducible refine p_setI ?_ | with_reducible refine p_sl ?_ | with_reducible refine p_noPart ?_ | with_reducible refine p_part ?_ | with_reducible refine p_partI ?_ | with_reducible refine p_kin ?_ | with_reducible refine p_kget ?_ | with_reducible refine p_lm ?_ | with_reducible refine p_for ?_ | with_reducible refine p_seqI ?_ | with_reducible refine p_seqL ?_ | with_reducible refine p_seqT ?_ | with_reducible refine p_rng1 ?_ | with_reducible refine p_rng1I (by unfold rng1; first | decide | (constructor <;> omega)) ?_ | with_reducible refine p_yes ?_ | with_reducible refine p_chain ?_ | with_reducible refine p_callK ?_ | with_reducible refine p_lc ?_ | with_reducible refine p_disp fun _ hp0 => ?_ | with_reducible refine p_get2 ?_ | with_reducible refine p_bindM (by with_unfolding_all rfl) ?_ | with_reducible refine p_mulI (by first | decide | omega) (by first | decide | omega) ?_ | with_reducible refine p_mod (by first | decide | omega | assumption) ?_ | with_reducible refine p_sub ?_ | with_reducible refine p_min ?_ | with_reducible refine p_max ?_ | with_reducible refine p_ix0 ?_ | with_reducible refine p_ix0L ?_ | with_reducible refine p_inT (by first | decide +kernel | exact ⟨rfl, rfl⟩ | (simp [flD]; done)) ?_ | with_reducible refine p_notInT (by first | decide +kernel | exact ⟨rfl, rfl⟩ | (simp [flD]; done)) ?_ | with_reducible refine p_fdiv (by first | assumption | decide) ?_ | with_reducible refine p_pow (by unfold CPow; decide) ?_ | with_reducible refine p_lt ?_ | with_reducible refine p_le ?_ | with_reducible refine p_gt ?_ | with_reducible refine p_ge ?_ | with_reducible refine p_eqI ?_ | with_reducible refine p_neI ?_ | with_reducible refine p_eqL (by first | decide +kernel | assumption) (by first | decide +kernel | assumption) ?_ | with_reducible refine p_neL (by first | decide +kernel | assumption) (by first | decide +kernel | assumption) ?_ | with_reducible refine p_eqT (by first | decide +kernel | assumption) (by first | decide +kernel | assumption) ?_ | with_reducible refine p_neT (by first | decide +kernel | assumption) (by first | decide +kernel | assumption) ?_ | with_reducible refine p_eqS (by first | decide +kernel | assumption) (by first | decide +kernel | assumption) ?_ | with_reducible refine p_neS (by first | decide +kernel | assumption) (by first | decide +kernel | assumption) ?_ | with_reducible refine p_isi (by with_unfolding_all rfl) (by decide) ?_ | with_reducible refine p_lmO (by first | assumption | exact sup_same) ?_ | with_reducible refine p_lmE (by first | assumption | exact sup_same) (by with_unfolding_all rfl) (by (first | exact True.intro | exact szl | (with_reducible assumption) | decide | (simp only [List.length_cons, List.length_nil]; first | exact szl | omega) | omega)) ?_ | with_reducible refine p_freeze (by with_unfolding_all rfl) (by first | assumption | exact sup_same) ?_ | with_reducible refine p_dispE (by assumption) (by with_unfolding_all rfl) ?_ | with_reducible refine p_getI (by with_unfolding_all rfl) ?_ | with_reducible refine p_getS (by with_unfolding_all rfl) (by with_unfolding_all rfl) (by first | with_unfolding_all rfl | with_unfolding_all assumption) ?_ | with_reducible refine p_getN (by with_unfolding_all rfl) (by with_unfolding_all rfl) (by first | with_unfolding_all rfl | with_unfolding_all assumption) ?_ | with_reducible refine p_r (by with_unfolding_all rfl) (by (first | exact True.intro | exact szl | (with_reducible assumption) | decide | (simp only [List.length_cons, List.length_nil]; first | exact szl | omega) | omega)) ?_ | with_reducible refine p_rc (by with_unfolding_all rfl) (by (first | exact True.intro | exact szl | (with_reducible assumption) | decide | (simp only [List.length_cons, List.length_nil]; first | exact szl | omega) | omega)) ?_ | with_reducible refine p_ixS (by first | assumption | exact sup_same) (by with_unfolding_all rfl) ?_ | with_reducible refine p_set (by first | assumption | exact sup_same) (by with_unfolding_all rfl) ?_ | with_reducible refine p_onE (by with_unfolding_all rfl) (by (first | exact True.intro | exact szl | (with_reducible assumption) | decide | (simp only [List.length_cons, List.length_nil]; first | exact szl | omega) | omega)) ?_ | with_reducible refine p_kgetS (by first | with_unfolding_all rfl | with_unfolding_all assumption) ?_ | with_reducible refine p_kinT (by first | with_unfolding_all rfl | with_unfolding_all assumption) ?_ | with_reducible refine p_kinF (by first | with_unfolding_all rfl | with_unfolding_all assumption) ?_ | with_reducible refine p_nkinT (by first | with_unfolding_all rfl | with_unfolding_all assumption) ?_ | with_reducible refine p_nkinF (by first | with_unfolding_all rfl | with_unfolding_all assumption) ?_ | with_reducible refine p_T (by with_unfolding_all rfl) ?_ | with_reducible refine p_F (by with_unfolding_all rfl) ?_ | with_reducible refine And.intro (a := List.length _ ≤ sizeLine) szl ?_ | with_reducible refine And.intro (a := List.length _ = _) (by with_unfolding_all rfl) ?_))
    exact to_bl (by with_unfolding_all rfl) q
  | check g m =>
    unfold RV.d
    (repeat' (first | with_reducible refine p_seq ?_ | with_reducible refine p_next ?_ | with_reducible refine p_var (by with_unfolding_all rfl) ?_ | with_reducible refine p_c ?_ | with_reducible refine p_op ?_ | with_reducible refine p_cb ?_ | with_reducible refine p_call ?_ | with_reducible refine p_cons ?_ | with_reducible refine p_nil ?_ | with_reducible refine p_tup ?_ | with_reducible refine p_lst ?_ | with_reducible refine p_b ?_ | with_reducible refine p_qb ?_ | with_reducible refine p_and ?_ | with_reducible refine p_or ?_ | with_reducible refine p_not ?_ | with_reducible refine p_andV ?_ | with_reducible refine p_orV ?_ | with_reducible refine p_notV ?_ | with_reducible refine p_if ?_ | with_reducible refine p_ifS ?_ | with_reducible refine p_un ?_ | with_reducible refine p_neg ?_ | with_reducible refine p_ret ?_ | with_reducible refine p_retN ?_ | with_reducible refine p_drop ?_ | with_reducible refine p_asg' ?_ | with_reducible refine p_par ?_ | with_reducible refine p_setI ?_ | with_reducible refine p_sl ?_ | with_reducible refine p_noPart ?_ | with_reducible refine p_part ?_ | with_reducible refine p_partI ?_ | with_reducible refine p_kin ?_ | with_reducible refine p_kget ?_ | with_reducible refine p_lm ?_ | with_reducible refine p_for ?_ | with_reducible refine p_seqI ?_ | with_reducible refine p_seqL ?_ | with_reducible refine p_seqT ?_ | with_reducible refine p_rng1 ?_ | with_reducible refine p_rng1I (by unfold rng1; first | decide | (constructor <;> omega)) ?_ | with_reducible refine p_yes ?_ | with_reducible refine p_chain ?_ | with_reducible refine p_callK ?_ | with_reducible refine p_lc ?_ | with_reducible refine p_disp fun _ hp0 => ?_ | with_reducible refine p_get2 ?_ | with_reducible refine p_bindM (by with_unfolding_all rfl) ?_ | with_reducible refine p_mulI (by first | decide | omega) (by first | decide | omega) ?_ | with_reducible refine p_mod (by first | decide | omega | assumption) ?_ | with_reducible refine p_sub ?_ | with_reducible refine p_min ?_ | with_reducible refine p_max ?_ | with_reducible refine p_ix0 ?_ | with_reducible refine p_ix0L ?_ | with_reducible refine p_inT (by first | decide +kernel | exact ⟨rfl, rfl⟩ | (simp [flD]; done)) ?_ | with_reducible refine p_notInT (by first | decide +kernel | exact ⟨rfl, rfl⟩ | (simp [flD]; done)) ?_ | with_reducible refine p_fdiv (by first | assumption | decide) ?_ | with_reducible refine p_pow (by unfold CPow; decide) ?_ | with_reducible refine p_lt ?_ | with_reducible refine p_le ?_ | with_reducible refine p_gt ?_ | with_reducible refine p_ge ?_ | with_reducible refine p_eqI ?_ | with_reducible refine p_neI ?_ | with_reducible refine p_eqL (by first | decide +kernel | assumption) (by first | decide +kernel | assumption) ?_ | with_reducible refine p_neL (by first | decide +kernel | assumption) (by first | decide +kernel | assumption) ?_ | with_reducible refine p_eqT (by first | decide +kernel | assumption) (by first | decide +kernel | assumption) ?_ | with_reducible refine p_neT (by first | decide +kernel | assumption) (by first | decide +kernel | assumption) ?_ | with_reducible refine p_eqS (by first | decide +kernel | assumption) (by first | decide +kernel | assumption) ?_ | with_reducible refine p_neS (by first | decide +kernel | assumption) (by first | decide +kernel | assumption) ?_ | with_reducible refine p_isi (by with_unfolding_all rfl) (by decide) ?_ | with_reducible refine p_lmO (by first | assumption | exact sup_same) ?_ | with_reducible refine p_lmE (by first | assumption | exact sup_same) (by with_unfolding_all rfl) (by (first | exact True.intro | exact szl | (with_reducible assumption) | decide | (simp only [List.length_cons, List.length_nil]; first | exact szl | omega) | omega)) ?_ | with_reducible refine p_freeze (by with_unfolding_all rfl) (by first | assumption | exact sup_same) ?_ | with_reducible refine p_dispE (by assumption) (by with_unfolding_all rfl) ?_ | with_reducible refine p_getI (by with_unfolding_all rfl) ?_ | with_reducible refine p_getS (by with_unfolding_all rfl) (by with_unfolding_all rfl) (by first | with_unfolding_all rfl | with_unfolding_all assumption) ?_ | with_reducible refine p_getN (by with_unfolding_all rfl) (by with_unfolding_all rfl) (by first | with_unfolding_all rfl | with_unfolding_all assumption) ?_ | with_reducible refine p_r (by with_unfolding_all rfl) (by (first | exact True.intro | exact szl | (with_reducible assumption) | decide | (simp only [List.length_cons, List.length_nil]; first | exact szl | omega) | omega)) ?_ | with_reducible refine p_rc (by with_unfolding_all rfl) (by (first | exact True.intro | exact szl | (with_reducible assumption) | decide | (simp only [List.length_cons, List.length_nil]; first | exact szl | omega) | omega)) ?_ | with_reducible refine p_ixS (by first | assumption | exact sup_same) (by with_unfolding_all rfl) ?_ | with_reducible refine p_set (by first | assumption | exact sup_same) (by with_unfolding_all rfl) ?_ | with_reducible refine p_onE (by with_unfolding_all rfl) (by (first | exact True.intro | exact szl | (with_reducible assumption) | decide | (simp only [List.length_cons, List.length_nil]; first | exact szl | omega) | omega)) ?_ | with_reducible refine p_kgetS (by first | with_unfolding_all rfl | with_unfolding_all assumption) ?_ | with_reducible refine p_kinT (by first | with_unfolding_all rfl | with_unfolding_all assumption) ?_ | with_reducible refine p_kinF (by first | with_unfolding_all rfl | with_unfolding_all assumption) ?_ | with_reducible refine p_nkinT (by first | with_unfolding_all rfl | with_unfolding_all assumption) ?_ | with_reducible refine p_nkinF (by first | with_unfolding_all rfl | with_unfolding_all assumption) ?_ | with_reducible refine p_T (by with_unfolding_all rfl) ?_ | with_reducible refine p_F (by with_unfolding_all rfl) ?_ | with_reducible refine And.intro (a := List.length _ ≤ sizeLine) szl ?_ | with_reducible refine And.intro (a := List.length _ = _) (by with_unfolding_all rfl) ?_))
    exact to_bl (by with_unfolding_all rfl) q
end Lk55

namespace Lk55
open PySem PySem.Spec PyProof.Rows L2 PL LSh

theorem seen_p {z : Int} {bl : D} {r : RV} {S : Sto} {Q : QD} (h : EvOk r) (q : Q (.bl (seenF z r)) S) : d__law_is_seen [.tup [.int z, bl], r.d] S Q := by
  refine mkSp_of rfl ?_
  show r__law_is_seen ⟨_, _, _, _⟩ [some (.tup [.int z, bl]), some r.d, none, none] S
  unfold r__law_is_seen
  have key : ∀ (i o : Int) (Q : QD), Q (.bl (!baseB (.int i) o z)) S → (0 ≤ i + o → i + o < z → Q (.bl false) S) ∧ (0 ≤ i + o → ¬ i + o < z → Q (.bl true) S) ∧ (¬ 0 ≤ i + o → Q (.bl true) S) := fun i o Q q => by
    have e : baseB (.int i) o z = (decide (0 ≤ i + o) && decide (i + o < z)) := rfl
    rw [e] at q
    refine ⟨fun h1 h2 => ?_, fun h1 h2 => ?_, fun h1 => ?_⟩
    · rw [decide_eq_true h1, decide_eq_true h2] at q; exact q
    · rw [decide_eq_true h1, decide_eq_false h2] at q; exact q
    · rw [decide_eq_false h1] at q; exact q
  cases r with
  | load x b o m =>
    obtain ⟨h1, ⟨h2, h3⟩, h4, h5⟩ := h
    have e : RV.d (.load x b o m) = .tup [.str "load", x, b, .int o, m] := rfl
    obtain ⟨i, rfl⟩ | ⟨w, rfl⟩ := h3
    · obtain ⟨k1, k2, k3⟩ := key i o Q q
      rw [e]
      (repeat' (first | with_reducible refine p_seq ?_ | with_reducible refine p_next ?_ | with_reducible refine p_var (by with_unfolding_all rfl) ?_ | with_reducible refine p_c ?_ | with_reducible refine p_op ?_ | with_reducible refine p_cb ?_ | with_reducible refine p_call ?_ | with_reducible refine p_cons ?_ | with_reducible refine p_nil ?_ | with_reducible refine p_tup ?_ | with_reducible refine p_lst ?_ | with_reducible refine p_b ?_ | with_reducible refine p_qb ?_ | with_reducible refine p_and ?_ | with_reducible refine p_or ?_ | with_reducible refine p_not ?_ | with_reducible refine p_andV ?_ | with_reducible refine p_orV ?_ | with_reducible refine p_notV ?_ | with_reducible refine p_if ?_ | with_reducible refine p_ifS ?_ | with_reducible refine p_un ?_ | with_reducible refine p_neg ?_ | with_reducible refine p_ret ?_ | with_reducible refine p_retN ?_ | with_reducible refine p_drop ?_ | with_reducible refine p_asg' ?_ | with_reducible refine p_par ?_ | with_reducible refine p_setI ?_ | with_reducible refine p_sl ?_ | with_reducible refine p_noPart ?_ | with_reducible refine p_part ?_ | with_reducible refine p_partI ?_ | with_reducible refine p_kin ?_ | with_reducible refine p_kget ?_ | with_reducible refine p_lm ?_ | with_reducible refine p_for ?_ | with_reducible refine p_seqI ?_ | with_reducible refine p_seqL ?_ | with_reducible refine p_seqT ?_ | with_reducible refine p_rng1 ?_ | with_reducible refine p_rng1I (by unfold rng1; first | decide | (constructor <;> omega)) ?_ | with_reducible refine p_yes ?_ | with_reducible refine p_chain ?_ | with_reducible refine p_callK ?_ | with_reducible refine p_lc ?_ | with_reducible refine p_disp fun _ hp0 => ?_ | with_reducible refine p_get2 ?_ | with_reducible refine p_bindM (by with_unfolding_all rfl) ?_ | with_reducible refine p_mulI (by first | decide | omega) (by first | decide | omega) ?_ | with_reducible refine p_mod (by first | decide | omega | assumption) ?_ | with_reducible refine p_sub ?_ | with_reducible refine p_min ?_ | with_reducible refine p_max ?_ | with_reducible refine p_ix0 ?_ | with_reducible refine p_ix0L ?_ | with_reducible refine p_inT (by first | decide +kernel | exact ⟨rfl, rfl⟩ | (simp [flD]; done)) ?_ | with_reducible refine p_notInT (by first | decide +kernel | exact ⟨rfl, rfl⟩ | (simp [flD]; done)) ?_ | with_reducible refine p_fdiv (by first | assumption | decide) ?_ | with_reducible refine p_pow (by unfold CPow; decide) ?_ | with_reducible refine p_lt ?_ | with_reducible refine p_le ?_ | with_reducible refine p_gt ?_ | with_reducible refine p_ge ?_ | with_reducible refine p_eqI ?_ | with_reducible refine p_neI ?_ | with_reducible refine p_eqL (by first | decide +kernel | assumption) (by first | decide +kernel | assumption) ?_ | with_reducible refine p_neL (by first | decide +kernel | assumption) (by first | decide +kernel | assumption) ?_ | with_reducible refine p_eqT (by first | decide +kernel | assumption) (by first | decide +kernel | assumption) ?_ | with_reducible refine p_neT (by first | decide +kernel | assumption) (by first | decide +kernel | assumption) ?_ | with_reducible refine p_eqS (by first | decide +kernel | assumption) (by first | decide +kernel | assumption) ?_ | with_reducible refine p_neS (by first | decide +kernel | assumption) (by first | decide +kernel | assumption) ?_ | with_reducible refine p_isi (by with_unfolding_all rfl) (by decide) ?_ | with_reducible refine p_lmO (by first | assumption | exact sup_same) ?_ | with_reducible refine p_lmE (by first | assumption | exact sup_same) (by with_unfolding_all rfl) (by (first | exact True.intro | exact szl | (with_reducible assumption) | decide | (simp only [List.length_cons, List.length_nil]; first | exact szl | omega) | omega)) ?_ | with_reducible refine p_freeze (by with_unfolding_all rfl) (by first | assumption | exact sup_same) ?_ | with_reducible refine p_dispE (by assumption) (by with_unfolding_all rfl) ?_ | with_reducible refine p_getI (by with_unfolding_all rfl) ?_ | with_reducible refine p_getS (by with_unfolding_all rfl) (by with_unfolding_all rfl) (by first | with_unfolding_all rfl | with_unfolding_all assumption) ?_ | with_reducible refine p_getN (by with_unfolding_all rfl) (by with_unfolding_all rfl) (by first | with_unfolding_all rfl | with_unfolding_all assumption) ?_ | with_reducible refine p_r (by with_unfolding_all rfl) (by (first | exact True.intro | exact szl | (with_reducible assumption) | decide | (simp only [List.length_cons, List.length_nil]; first | exact szl | omega) | omega)) ?_ | with_reducible refine p_rc (by with_unfolding_all rfl) (by (first | exact True.intro | exact szl | (with_reducible assumption) | decide | (simp only [List.length_cons, List.length_nil]; first | exact szl | omega) | omega)) ?_ | with_reducible refine p_ixS (by first | assumption | exact sup_same) (by with_unfolding_all rfl) ?_ | with_reducible refine p_set (by first | assumption | exact sup_same) (by with_unfolding_all rfl) ?_ | with_reducible refine p_onE (by with_unfolding_all rfl) (by (first | exact True.intro | exact szl | (with_reducible assumption) | decide | (simp only [List.length_cons, List.length_nil]; first | exact szl | omega) | omega)) ?_ | with_reducible refine p_kgetS (by first | with_unfolding_all rfl | with_unfolding_all assumption) ?_ | with_reducible refine p_kinT (by first | with_unfolding_all rfl | with_unfolding_all assumption) ?_ | with_reducible refine p_kinF (by first | with_unfolding_all rfl | with_unfolding_all assumption) ?_ | with_reducible refine p_nkinT (by first | with_unfolding_all rfl | with_unfolding_all assumption) ?_ | with_reducible refine p_nkinF (by first | with_unfolding_all rfl | with_unfolding_all assumption) ?_ | with_reducible refine p_T (by with_unfolding_all rfl) ?_ | with_reducible refine p_F (by with_unfolding_all rfl) ?_ | with_reducible refine And.intro (a := List.length _ ≤ sizeLine) szl ?_ | with_reducible refine And.intro (a := List.length _ = _) (by with_unfolding_all rfl) ?_ | refine (law_spot_p ?_).1))
      refine p_iteD (fun a1 => ?_) (fun a1 => ?_)
      · (repeat' (first | with_reducible refine p_seq ?_ | with_reducible refine p_next ?_ | with_reducible refine p_var (by with_unfolding_all rfl) ?_ | with_reducible refine p_c ?_ | with_reducible refine p_op ?_ | with_reducible refine p_cb ?_ | with_reducible refine p_call ?_ | with_reducible refine p_cons ?_ | with_reducible refine p_nil ?_ | with_reducible refine p_tup ?_ | with_reducible refine p_lst ?_ | with_reducible refine p_b ?_ | with_reducible refine p_qb ?_ | with_reducible refine p_and ?_ | with_reducible refine p_or ?_ | with_reducible refine p_not ?_ | with_reducible refine p_andV ?_ | with_reducible refine p_orV ?_ | with_reducible refine p_notV ?_ | with_reducible refine p_if ?_ | with_reducible refine p_ifS ?_ | with_reducible refine p_un ?_ | with_reducible refine p_neg ?_ | with_reducible refine p_ret ?_ | with_reducible refine p_retN ?_ | with_reducible refine p_drop ?_ | with_reducible refine p_asg' ?_ | with_reducible refine p_par ?_ | with_reducible refine p_setI ?_ | with_reducible refine p_sl ?_ | with_reducible refine p_noPart ?_ | with_reducible refine p_part ?_ | with_reducible refine p_partI ?_ | with_reducible refine p_kin ?_ | with_reducible refine p_kget ?_ | with_reducible refine p_lm ?_ | with_reducible refine p_for ?_ | with_reducible refine p_seqI ?_ | with_reducible refine p_seqL ?_ | with_reducible refine p_seqT ?_ | with_reducible refine p_rng1 ?_ | with_reducible refine p_rng1I (by unfold rng1; first | decide | (constructor <;> omega)) ?_ | with_reducible refine p_yes ?_ | with_reducible refine p_chain ?_ | with_reducible refine p_callK ?_ | with_reducible refine p_lc ?_ | with_reducible refine p_disp fun _ hp0 => ?_ | with_reducible refine p_get2 ?_ | with_reducible refine p_bindM (by with_unfolding_all rfl) ?_ | with_reducible refine p_mulI (by first | decide | omega) (by first | decide | omega) ?_ | with_reducible refine p_mod (by first | decide | omega | assumption) ?_ | with_reducible refine p_sub ?_ | with_reducible refine p_min ?_ | with_reducible refine p_max ?_ | with_reducible refine p_ix0 ?_ | with_reducible refine p_ix0L ?_ | with_reducible refine p_inT (by first | decide +kernel | exact ⟨rfl, rfl⟩ | (simp [flD]; done)) ?_ | with_reducible refine p_notInT (by first | decide +kernel | exact ⟨rfl, rfl⟩ | (simp [flD]; done)) ?_ | with_reducible refine p_fdiv (by first | assumption | decide) ?_ | with_reducible refine p_pow (by unfold CPow; decide) ?_ | with_reducible refine p_lt ?_ | with_reducible refine p_le ?_ | with_reducible refine p_gt ?_ | with_reducible refine p_ge ?_ | with_reducible refine p_eqI ?_ | with_reducible refine p_neI ?_ | with_reducible refine p_eqL (by first | decide +kernel | assumption) (by first | decide +kernel | assumption) ?_ | with_reducible refine p_neL (by first | decide +kernel | assumption) (by first | decide +kernel | assumption) ?_ | with_reducible refine p_eqT (by first | decide +kernel | assumption) (by first | decide +kernel | assumption) ?_ | with_reducible refine p_neT (by first | decide +kernel | assumption) (by first | decide +kernel | assumption) ?_ | with_reducible refine p_eqS (by first | decide +kernel | assumption) (by first | decide +kernel | assumption) ?_ | with_reducible refine p_neS (by first | decide +kernel | assumption) (by first | decide +kernel | assumption) ?_ | with_reducible refine p_isi (by with_unfolding_all rfl) (by decide) ?_ | with_reducible refine p_lmO (by first | assumption | exact sup_same) ?_ | with_reducible refine p_lmE (by first | assumption | exact sup_same) (by with_unfolding_all rfl) (by (first | exact True.intro | exact szl | (with_reducible assumption) | decide | (simp only [List.length_cons, List.length_nil]; first | exact szl | omega) | omega)) ?_ | with_reducible refine p_freeze (by with_unfolding_all rfl) (by first | assumption | exact sup_same) ?_ | with_reducible refine p_dispE (by assumption) (by with_unfolding_all rfl) ?_ | with_reducible refine p_getI (by with_unfolding_all rfl) ?_ | with_reducible refine p_getS (by with_unfolding_all rfl) (by with_unfolding_all rfl) (by first | with_unfolding_all rfl | with_unfolding_all assumption) ?_ | with_reducible refine p_getN (by with_unfolding_all rfl) (by with_unfolding_all rfl) (by first | with_unfolding_all rfl | with_unfolding_all assumption) ?_ | with_reducible refine p_r (by with_unfolding_all rfl) (by (first | exact True.intro | exact szl | (with_reducible assumption) | decide | (simp only [List.length_cons, List.length_nil]; first | exact szl | omega) | omega)) ?_ | with_reducible refine p_rc (by with_unfolding_all rfl) (by (first | exact True.intro | exact szl | (with_reducible assumption) | decide | (simp only [List.length_cons, List.length_nil]; first | exact szl | omega) | omega)) ?_ | with_reducible refine p_ixS (by first | assumption | exact sup_same) (by with_unfolding_all rfl) ?_ | with_reducible refine p_set (by first | assumption | exact sup_same) (by with_unfolding_all rfl) ?_ | with_reducible refine p_onE (by with_unfolding_all rfl) (by (first | exact True.intro | exact szl | (with_reducible assumption) | decide | (simp only [List.length_cons, List.length_nil]; first | exact szl | omega) | omega)) ?_ | with_reducible refine p_kgetS (by first | with_unfolding_all rfl | with_unfolding_all assumption) ?_ | with_reducible refine p_kinT (by first | with_unfolding_all rfl | with_unfolding_all assumption) ?_ | with_reducible refine p_kinF (by first | with_unfolding_all rfl | with_unfolding_all assumption) ?_ | with_reducible refine p_nkinT (by first | with_unfolding_all rfl | with_unfolding_all assumption) ?_ | with_reducible refine p_nkinF (by first | with_unfolding_all rfl | with_unfolding_all assumption) ?_ | with_reducible refine p_T (by with_unfolding_all rfl) ?_ | with_reducible refine p_F (by with_unfolding_all rfl) ?_ | with_reducible refine And.intro (a := List.length _ ≤ sizeLine) szl ?_ | with_reducible refine And.intro (a := List.length _ = _) (by with_unfolding_all rfl) ?_))
        refine to_bl (c := !decide (i + o < z)) rfl ?_
        by_cases a2 : i + o < z
        · rw [decide_eq_true a2]; exact k1 a1 a2
        · rw [decide_eq_false a2]; exact k2 a1 a2
      · exact k3 a1
    · rw [e]
      (repeat' (first | with_reducible refine p_seq ?_ | with_reducible refine p_next ?_ | with_reducible refine p_var (by with_unfolding_all rfl) ?_ | with_reducible refine p_c ?_ | with_reducible refine p_op ?_ | with_reducible refine p_cb ?_ | with_reducible refine p_call ?_ | with_reducible refine p_cons ?_ | with_reducible refine p_nil ?_ | with_reducible refine p_tup ?_ | with_reducible refine p_lst ?_ | with_reducible refine p_b ?_ | with_reducible refine p_qb ?_ | with_reducible refine p_and ?_ | with_reducible refine p_or ?_ | with_reducible refine p_not ?_ | with_reducible refine p_andV ?_ | with_reducible refine p_orV ?_ | with_reducible refine p_notV ?_ | with_reducible refine p_if ?_ | with_reducible refine p_ifS ?_ | with_reducible refine p_un ?_ | with_reducible refine p_neg ?_ | with_reducible refine p_ret ?_ | with_reducible refine p_retN ?_ | with_reducible refine p_drop ?_ | with_reducible refine p_asg' ?_ | with_reducible refine p_par ?_ | with_reducible refine p_setI ?_ | with_reducible refine p_sl ?_ | with_reducible refine p_noPart ?_ | with_reducible refine p_part ?_ | with_reducible refine p_partI ?_ | with_reducible refine p_kin ?_ | with_reducible refine p_kget ?_ | with_reducible refine p_lm ?_ | with_reducible refine p_for ?_ | with_reducible refine p_seqI ?_ | with_reducible refine p_seqL ?_ | with_reducible refine p_seqT ?_ | with_reducible refine p_rng1 ?_ | with_reducible refine p_rng1I (by unfold rng1; first | decide | (constructor <;> omega)) ?_ | with_reducible refine p_yes ?_ | with_reducible refine p_chain ?_ | with_reducible refine p_callK ?_ | with_reducible refine p_lc ?_ | with_reducible refine p_disp fun _ hp0 => ?_ | with_reducible refine p_get2 ?_ | with_reducible refine p_bindM (by with_unfolding_all rfl) ?_ | with_reducible refine p_mulI (by first | decide | omega) (by first | decide | omega) ?_ | with_reducible refine p_mod (by first | decide | omega | assumption) ?_ | with_reducible refine p_sub ?_ | with_reducible refine p_min ?_ | with_reducible refine p_max ?_ | with_reducible refine p_ix0 ?_ | with_reducible refine p_ix0L ?_ | with_reducible refine p_inT (by first | decide +kernel | exact ⟨rfl, rfl⟩ | (simp [flD]; done)) ?_ | with_reducible refine p_notInT (by first | decide +kernel | exact ⟨rfl, rfl⟩ | (simp [flD]; done)) ?_ | with_reducible refine p_fdiv (by first | assumption | decide) ?_ | with_reducible refine p_pow (by unfold CPow; decide) ?_ | with_reducible refine p_lt ?_ | with_reducible refine p_le ?_ | with_reducible refine p_gt ?_ | with_reducible refine p_ge ?_ | with_reducible refine p_eqI ?_ | with_reducible refine p_neI ?_ | with_reducible refine p_eqL (by first | decide +kernel | assumption) (by first | decide +kernel | assumption) ?_ | with_reducible refine p_neL (by first | decide +kernel | assumption) (by first | decide +kernel | assumption) ?_ | with_reducible refine p_eqT (by first | decide +kernel | assumption) (by first | decide +kernel | assumption) ?_ | with_reducible refine p_neT (by first | decide +kernel | assumption) (by first | decide +kernel | assumption) ?_ | with_reducible refine p_eqS (by first | decide +kernel | assumption) (by first | decide +kernel | assumption) ?_ | with_reducible refine p_neS (by first | decide +kernel | assumption) (by first | decide +kernel | assumption) ?_ | with_reducible refine p_isi (by with_unfolding_all rfl) (by decide) ?_ | with_reducible refine p_lmO (by first | assumption | exact sup_same) ?_ | with_reducible refine p_lmE (by first | assumption | exact sup_same) (by with_unfolding_all rfl) (by (first | exact True.intro | exact szl | (with_reducible assumption) | decide | (simp only [List.length_cons, List.length_nil]; first | exact szl | omega) | omega)) ?_ | with_reducible refine p_freeze (by with_unfolding_all rfl) (by first | assumption | exact sup_same) ?_ | with_reducible refine p_dispE (by assumption) (by with_unfolding_all rfl) ?_ | with_reducible refine p_getI (by with_unfolding_all rfl) ?_ | with_reducible refine p_getS (by with_unfolding_all rfl) (by with_unfolding_all rfl) (by first | with_unfolding_all rfl | with_unfolding_all assumption) ?_ | with_reducible refine p_getN (by with_unfolding_all rfl) (by with_unfolding_all rfl) (by first | with_unfolding_all rfl | with_unfolding_all assumption) ?_ | with_reducible refine p_r (by with_unfolding_all rfl) (by (first | exact True.intro | exact szl | (with_reducible assumption) | decide | (simp only [List.length_cons, List.length_nil]; first | exact szl | omega) | omega)) ?_ | with_reducible refine p_rc (by with_unfolding_all rfl) (by (first | exact True.intro | exact szl | (with_reducible assumption) | decide | (simp only [List.length_cons, List.length_nil]; first | exact szl | omega) | omega)) ?_ | with_reducible refine p_ixS (by first | assumption | exact sup_same) (by with_unfolding_all rfl) ?_ | with_reducible refine p_set (by first | assumption | exact sup_same) (by with_unfolding_all rfl) ?_ | with_reducible refine p_onE (by with_unfolding_all rfl) (by (first | exact True.intro | exact szl | (with_reducible assumption) | decide | (simp only [List.length_cons, List.length_nil]; first | exact szl | omega) | omega)) ?_ | with_reducible refine p_kgetS (by first | with_unfolding_all rfl | with_unfolding_all assumption) ?_ | with_reducible refine p_kinT (by first | with_unfolding_all rfl | with_unfolding_all assumption) ?_ | with_reducible refine p_kinF (by first | with_unfolding_all rfl | with_unfolding_all assumption) ?_ | with_reducible refine p_nkinT (by first | with_unfolding_all rfl | with_unfolding_all assumption) ?_ | with_reducible refine p_nkinF (by first | with_unfolding_all rfl | with_unfolding_all assumption) ?_ | with_reducible refine p_T (by with_unfolding_all rfl) ?_ | with_reducible refine p_F (by with_unfolding_all rfl) ?_ | with_reducible refine And.intro (a := List.length _ ≤ sizeLine) szl ?_ | with_reducible refine And.intro (a := List.length _ = _) (by with_unfolding_all rfl) ?_ | refine (law_spot_p ?_).1))
      exact q
  | store b o u m =>
    obtain ⟨⟨h2, h3⟩, h4, h5, h6⟩ := h
    have e : RV.d (.store b o u m) = .tup [.str "store", b, .int o, u, m] := rfl
    obtain ⟨i, rfl⟩ | ⟨w, rfl⟩ := h3
    · obtain ⟨k1, k2, k3⟩ := key i o Q q
      rw [e]
      (repeat' (first | with_reducible refine p_seq ?_ | with_reducible refine p_next ?_ | with_reducible refine p_var (by with_unfolding_all rfl) ?_ | with_reducible refine p_c ?_ | with_reducible refine p_op ?_ | with_reducible refine p_cb ?_ | with_reducible refine p_call ?_ | with_reducible refine p_cons ?_ | with_reducible refine p_nil ?_ | with_reducible refine p_tup ?_ | with_reducible refine p_lst ?_ | with_reducible refine p_b ?_ | with_reducible refine p_qb ?_ | with_reducible refine p_and ?_ | with_reducible refine p_or ?_ | with_reducible refine p_not ?_ | with_reducible refine p_andV ?_ | with_reducible refine p_orV ?_ | with_reducible refine p_notV ?_ | with_reducible refine p_if ?_ | with_reducible refine p_ifS ?_ | with_reducible refine p_un ?_ | with_reducible refine p_neg ?_ | with_reducible refine p_ret ?_ | with_reducible refine p_retN ?_ | with_reducible refine p_drop ?_ | with_reducible refine p_asg' ?_ | with_reducible refine p_par ?_ | with_reducible refine p_setI ?_ | with_reducible refine p_sl ?_ | with_reducible refine p_noPart ?_ | with_reducible refine p_part ?_ | with_reducible refine p_partI ?_ | with_reducible refine p_kin ?_ | with_reducible refine p_kget ?_ | with_reducible refine p_lm ?_ | with_reducible refine p_for ?_ | with_reducible refine p_seqI ?_ | with_reducible refine p_seqL ?_ | with_reducible refine p_seqT ?_ | with_reducible refine p_rng1 ?_ | with_reducible refine p_rng1I (by unfold rng1; first | decide | (constructor <;> omega)) ?_ | with_reducible refine p_yes ?_ | with_reducible refine p_chain ?_ | with_reducible refine p_callK ?_ | with_reducible refine p_lc ?_ | with_reducible refine p_disp fun _ hp0 => ?_ | with_reducible refine p_get2 ?_ | with_reducible refine p_bindM (by with_unfolding_all rfl) ?_ | with_reducible refine p_mulI (by first | decide | omega) (by first | decide | omega) ?_ | with_reducible refine p_mod (by first | decide | omega | assumption) ?_ | with_reducible refine p_sub ?_ | with_reducible refine p_min ?_ | with_reducible refine p_max ?_ | with_reducible refine p_ix0 ?_ | with_reducible refine p_ix0L ?_ | with_reducible refine p_inT (by first | decide +kernel | exact ⟨rfl, rfl⟩ | (simp [flD]; done)) ?_ | with_reducible refine p_notInT (by first | decide +kernel | exact ⟨rfl, rfl⟩ | (simp [flD]; done)) ?_ | with_reducible refine p_fdiv (by first | assumption | decide) ?_ | with_reducible refine p_pow (by unfold CPow; decide) ?_ | with_reducible refine p_lt ?_ | with_reducible refine p_le ?_ | with_reducible refine p_gt ?_ | with_reducible refine p_ge ?_ | with_reducible refine p_eqI ?_ | with_reducible refine p_neI ?_ | with_reducible refine p_eqL (by first | decide +kernel | assumption) (by first | decide +kernel | assumption) ?_ | with_reducible refine p_neL (by first | decide +kernel | assumption) (by first | decide +kernel | assumption) ?_ | with_reducible refine p_eqT (by first | decide +kernel | assumption) (by first | decide +kernel | assumption) ?_ | with_reducible refine p_neT (by first | decide +kernel | assumption) (by first | decide +kernel | assumption) ?_ | with_reducible refine p_eqS (by first | decide +kernel | assumption) (by first | decide +kernel | assumption) ?_ | with_reducible refine p_neS (by first | decide +kernel | assumption) (by first | decide +kernel | assumption) ?_ | with_reducible refine p_isi (by with_unfolding_all rfl) (by decide) ?_ | with_reducible refine p_lmO (by first | assumption | exact sup_same) ?_ | with_reducible refine p_lmE (by first | assumption | exact sup_same) (by with_unfolding_all rfl) (by (first | exact True.intro | exact szl | (with_reducible assumption) | decide | (simp only [List.length_cons, List.length_nil]; first | exact szl | omega) | omega)) ?_ | with_reducible refine p_freeze (by with_unfolding_all rfl) (by first | assumption | exact sup_same) ?_ | with_reducible refine p_dispE (by assumption) (by with_unfolding_all rfl) ?_ | with_reducible refine p_getI (by with_unfolding_all rfl) ?_ | with_reducible refine p_getS (by with_unfolding_all rfl) (by with_unfolding_all rfl) (by first | with_unfolding_all rfl | with_unfolding_all assumption) ?_ | with_reducible refine p_getN (by with_unfolding_all rfl) (by with_unfolding_all rfl) (by first | with_unfolding_all rfl | with_unfolding_all assumption) ?_ | with_reducible refine p_r (by with_unfolding_all rfl) (by (first | exact True.intro | exact szl | (with_reducible assumption) | decide | (simp only [List.length_cons, List.length_nil]; first | exact szl | omega) | omega)) ?_ | with_reducible refine p_rc (by with_unfolding_all rfl) (by (first | exact True.intro | exact szl | (with_reducible assumption) | decide | (simp only [List.length_cons, List.length_nil]; first | exact szl | omega) | omega)) ?_ | with_reducible refine p_ixS (by first | assumption | exact sup_same) (by with_unfolding_all rfl) ?_ | with_reducible refine p_set (by first | assumption | exact sup_same) (by with_unfolding_all rfl) ?_ | with_reducible refine p_onE (by with_unfolding_all rfl) (by (first | exact True.intro | exact szl | (with_reducible assumption) | decide | (simp only [List.length_cons, List.length_nil]; first | exact szl | omega) | omega)) ?_ | with_reducible refine p_kgetS (by first | with_unfolding_all rfl | with_unfolding_all assumption) ?_ | with_reducible refine p_kinT (by first | with_unfolding_all rfl | with_unfolding_all assumption) ?_ | with_reducible refine p_kinF (by first | with_unfolding_all rfl | with_unfolding_all assumption) ?_ | with_reducible refine p_nkinT (by first | with_unfolding_all rfl | with_unfolding_all assumption) ?_ | with_reducible refine p_nkinF (by first | with_unfolding_all rfl | with_unfolding_all assumption) ?_ | with_reducible refine p_T (by with_unfolding_all rfl) ?_ | with_reducible refine p_F (by with_unfolding_all rfl) ?_ | with_reducible refine And.intro (a := List.length _ ≤ sizeLine) szl ?_ | with_reducible refine And.intro (a := List.length _ = _) (by with_unfolding_all rfl) ?_ | refine (law_spot_p ?_).2))
      refine p_iteD (fun a1 => ?_) (fun a1 => ?_)
      · (repeat' (first | with_reducible refine p_seq ?_ | with_reducible refine p_next ?_ | with_reducible refine p_var (by with_unfolding_all rfl) ?_ | with_reducible refine p_c ?_ | with_reducible refine p_op ?_ | with_reducible refine p_cb ?_ | with_reducible refine p_call ?_ | with_reducible refine p_cons ?_ | with_reducible refine p_nil ?_ | with_reducible refine p_tup ?_ | with_reducible refine p_lst ?_ | with_reducible refine p_b ?_ | with_reducible refine p_qb ?_ | with_reducible refine p_and ?_ | with_reducible refine p_or ?_ | with_reducible refine p_not ?_ | with_reducible refine p_andV ?_ | with_reducible refine p_orV ?_ | with_reducible refine p_notV ?_ | with_reducible refine p_if ?_ | with_reducible refine p_ifS ?_ | with_reducible refine p_un ?_ | with_reducible refine p_neg ?_ | with_reducible refine p_ret ?_ | with_reducible refine p_retN ?_ | with_reducible refine p_drop ?_ | with_reducible refine p_asg' ?_ | with_reducible refine p_par ?_ | with_reducible refine p_setI ?_ | with_reducible refine p_sl ?_ | with_reducible refine p_noPart ?_ | with_reducible refine p_part ?_ | with_reducible refine p_partI ?_ | with_reducible refine p_kin ?_ | with_reducible refine p_kget ?_ | with_reducible refine p_lm ?_ | with_reducible refine p_for ?_ | with_reducible refine p_seqI ?_ | with_reducible refine p_seqL ?_ | with_reducible refine p_seqT ?_ | with_reducible refine p_rng1 ?_ | with_reducible refine p_rng1I (by unfold rng1; first | decide | (constructor <;> omega)) ?_ | with_reducible refine p_yes ?_ | with_reducible refine p_chain ?_ | with_reducible refine p_callK ?_ | with_reducible refine p_lc ?_ | with_reducible refine p_disp fun _ hp0 => ?_ | with_reducible refine p_get2 ?_ | with_reducible refine p_bindM (by with_unfolding_all rfl) ?_ | with_reducible refine p_mulI (by first | decide | omega) (by first | decide | omega) ?_ | with_reducible refine p_mod (by first | decide | omega | assumption) ?_ | with_reducible refine p_sub ?_ | with_reducible refine p_min ?_ | with_reducible refine p_max ?_ | with_reducible refine p_ix0 ?_ | with_reducible refine p_ix0L ?_ | with_reducible refine p_inT (by first | decide +kernel | exact ⟨rfl, rfl⟩ | (simp [flD]; done)) ?_ | with_reducible refine p_notInT (by first | decide +kernel | exact ⟨rfl, rfl⟩ | (simp [flD]; done)) ?_ | with_reducible refine p_fdiv (by first | assumption | decide) ?_ | with_reducible refine p_pow (by unfold CPow; decide) ?_ | with_reducible refine p_lt ?_ | with_reducible refine p_le ?_ | with_reducible refine p_gt ?_ | with_reducible refine p_ge ?_ | with_reducible refine p_eqI ?_ | with_reducible refine p_neI ?_ | with_reducible refine p_eqL (by first | decide +kernel | assumption) (by first | decide +kernel | assumption) ?_ | with_reducible refine p_neL (by first | decide +kernel | assumption) (by first | decide +kernel | assumption) ?_ | with_reducible refine p_eqT (by first | decide +kernel | assumption) (by first | decide +kernel | assumption) ?_ | with_reducible refine p_neT (by first | decide +kernel | assumption) (by first | decide +kernel | assumption) ?_ | with_reducible refine p_eqS (by first | decide +kernel | assumption) (by first | decide +kernel | assumption) ?_ | with_reducible refine p_neS (by first | decide +kernel | assumption) (by first | decide +kernel | assumption) ?_ | with_reducible refine p_isi (by with_unfolding_all rfl) (by decide) ?_ | with_reducible refine p_lmO (by first | assumption | exact sup_same) ?_ | with_reducible refine p_lmE (by first | assumption | exact sup_same) (by with_unfolding_all rfl) (by (first | exact True.intro | exact szl | (with_reducible assumption) | decide | (simp only [List.length_cons, List.length_nil]; first | exact szl | omega) | omega)) ?_ | with_reducible refine p_freeze (by with_unfolding_all rfl) (by first | assumption | exact sup_same) ?_ | with_reducible refine p_dispE (by assumption) (by with_unfolding_all rfl) ?_ | with_reducible refine p_getI (by with_unfolding_all rfl) ?_ | with_reducible refine p_getS (by with_unfolding_all rfl) (by with_unfolding_all rfl) (by first | with_unfolding_all rfl | with_unfolding_all assumption) ?_ | with_reducible refine p_getN (by with_unfolding_all rfl) (by with_unfolding_all rfl) (by first | with_unfolding_all rfl | with_unfolding_all assumption) ?_ | with_reducible refine p_r (by with_unfolding_all rfl) (by (first | exact True.intro | exact szl | (with_reducible assumption) | decide | (simp only [List.length_cons, List.length_nil]; first | exact szl | omega) | omega)) ?_ | with_reducible refine p_rc (by with_unfolding_all rfl) (by (first | exact True.intro | exact szl | (with_reducible assumption) | decide | (simp only [List.length_cons, List.length_nil]; first | exact szl | omega) | omega)) ?_ | with_reducible refine p_ixS (by first | assumption | exact sup_same) (by with_unfolding_all rfl) ?_ | with_reducible refine p_set (by first | assumption | exact sup_same) (by with_unfolding_all rfl) ?_ | with_reducible refine p_onE (by with_unfolding_all rfl) (by (first | exact True.intro | exact szl | (with_reducible assumption) | decide | (simp only [List.length_cons, List.length_nil]; first | exact szl | omega) | omega)) ?_ | with_reducible refine p_kgetS (by first | with_unfolding_all rfl | with_unfolding_all assumption) ?_ | with_reducible refine p_kinT (by first | with_unfolding_all rfl | with_unfolding_all assumption) ?_ | with_reducible refine p_kinF (by first | with_unfolding_all rfl | with_unfolding_all assumption) ?_ | with_reducible refine p_nkinT (by first | with_unfolding_all rfl | with_unfolding_all assumption) ?_ | with_reducible refine p_nkinF (by first | with_unfolding_all rfl | with_unfolding_all assumption) ?_ | with_reducible refine p_T (by with_unfolding_all rfl) ?_ | with_reducible refine p_F (by with_unfolding_all rfl) ?_ | with_reducible refine And.intro (a := List.length _ ≤ sizeLine) szl ?_ | with_reducible refine And.intro (a := List.length _ = _) (by with_unfolding_all rfl) ?_))
        refine to_bl (c := !decide (i + o < z)) rfl ?_
        by_cases a2 : i + o < z
        · rw [decide_eq_true a2]; exact k1 a1 a2
        · rw [decide_eq_false a2]; exact k2 a1 a2
      · exact k3 a1
    · rw [e]
      (repeat' (first | with_reducible refine p_seq ?_ | with_reducible refine p_next ?_ | with_reducible refine p_var (by with_unfolding_all rfl) ?_ | with_reducible refine p_c ?_ | with_reducible refine p_op ?_ | with_reducible refine p_cb ?_ | with_reducible refine p_call ?_ | with_reducible refine p_cons ?_ | with_reducible refine p_nil ?_ | with_reducible refine p_tup ?_ | with_reducible refine p_lst ?_ | with_reducible refine p_b ?_ | with_reducible refine p_qb ?_ | with_reducible refine p_and ?_ | with_reducible refine p_or ?_ | with_reducible refine p_not ?_ | with_reducible refine p_andV ?_ | with_reducible refine p_orV ?_ | with_reducible refine p_notV ?_ | with_reducible refine p_if ?_ | with_reducible refine p_ifS ?_ | with_reducible refine p_un ?_ | with_reducible refine p_neg ?_ | with_reducible refine p_ret ?_ | with_reducible refine p_retN ?_ | with_reducible refine p_drop ?_ | with_reducible refine p_asg' ?_ | with_reducible refine p_par ?_ | with_reducible refine p_setI ?_ | with_reducible refine p_sl ?_ | with_reducible refine p_noPart ?_ | with_reducible refine p_part ?_ | with_reducible refine p_partI ?_ | with_reducible refine p_kin ?_ | with_reducible refine p_kget ?_ | with_reducible refine p_lm ?_ | with_reducible refine p_for ?_ | with_reducible refine p_seqI ?_ | with_reducible refine p_seqL ?_ | with_reducible refine p_seqT ?_ | with_reducible refine p_rng1 ?_ | with_reducible refine p_rng1I (by unfold rng1; first | decide | (constructor <;> omega)) ?_ | with_reducible refine p_yes ?_ | with_reducible refine p_chain ?_ | with_reducible refine p_callK ?_ | with_reducible refine p_lc ?_ | with_reducible refine p_disp fun _ hp0 => ?_ | with_reducible refine p_get2 ?_ | with_reducible refine p_bindM (by with_unfolding_all rfl) ?_ | with_reducible refine p_mulI (by first | decide | omega) (by first | decide | omega) ?_ | with_reducible refine p_mod (by first | decide | omega | assumption) ?_ | with_reducible refine p_sub ?_ | with_reducible refine p_min ?_ | with_reducible refine p_max ?_ | with_reducible refine p_ix0 ?_ | with_reducible refine p_ix0L ?_ | with_reducible refine p_inT (by first | decide +kernel | exact ⟨rfl, rfl⟩ | (simp [flD]; done)) ?_ | with_reducible refine p_notInT (by first | decide +kernel | exact ⟨rfl, rfl⟩ | (simp [flD]; done)) ?_ | with_reducible refine p_fdiv (by first | assumption | decide) ?_ | with_reducible refine p_pow (by unfold CPow; decide) ?_ | with_reducible refine p_lt ?_ | with_reducible refine p_le ?_ | with_reducible refine p_gt ?_ | with_reducible refine p_ge ?_ | with_reducible refine p_eqI ?_ | with_reducible refine p_neI ?_ | with_reducible refine p_eqL (by first | decide +kernel | assumption) (by first | decide +kernel | assumption) ?_ | with_reducible refine p_neL (by first | decide +kernel | assumption) (by first | decide +kernel | assumption) ?_ | with_reducible refine p_eqT (by first | decide +kernel | assumption) (by first | decide +kernel | assumption) ?_ | with_reducible refine p_neT (by first | decide +kernel | assumption) (by first | decide +kernel | assumption) ?_ | with_reducible refine p_eqS (by first | decide +kernel | assumption) (by first | decide +kernel | assumption) ?_ | with_reducible refine p_neS (by first | decide +kernel | assumption) (by first | decide +kernel | assumption) ?_ | with_reducible refine p_isi (by with_unfolding_all rfl) (by decide) ?_ | with_reducible refine p_lmO (by first | assumption | exact sup_same) ?_ | with_reducible refine p_lmE (by first | assumption | exact sup_same) (by with_unfolding_all rfl) (by (first | exact True.intro | exact szl | (with_reducible assumption) | decide | (simp only [List.length_cons, List.length_nil]; first | exact szl | omega) | omega)) ?_ | with_reducible refine p_freeze (by with_unfolding_all rfl) (by first | assumption | exact sup_same) ?_ | with_reducible refine p_dispE (by assumption) (by with_unfolding_all rfl) ?_ | with_reducible refine p_getI (by with_unfolding_all rfl) ?_ | with_reducible refine p_getS (by with_unfolding_all rfl) (by with_unfolding_all rfl) (by first | with_unfolding_all rfl | with_unfolding_all assumption) ?_ | with_reducible refine p_getN (by with_unfolding_all rfl) (by with_unfolding_all rfl) (by first | with_unfolding_all rfl | with_unfolding_all assumption) ?_ | with_reducible refine p_r (by with_unfolding_all rfl) (by (first | exact True.intro | exact szl | (with_reducible assumption) | decide | (simp only [List.length_cons, List.length_nil]; first | exact szl | omega) | omega)) ?_ | with_reducible refine p_rc (by with_unfolding_all rfl) (by (first | exact True.intro | exact szl | (with_reducible assumption) | decide | (simp only [List.length_cons, List.length_nil]; first | exact szl | omega) | omega)) ?_ | with_reducible refine p_ixS (by first | assumption | exact sup_same) (by with_unfolding_all rfl) ?_ | with_reducible refine p_set (by first | assumption | exact sup_same) (by with_unfolding_all rfl) ?_ | with_reducible refine p_onE (by with_unfolding_all rfl) (by (first | exact True.intro | exact szl | (with_reducible assumption) | decide | (simp only [List.length_cons, List.length_nil]; first | exact szl | omega) | omega)) ?_ | with_reducible refine p_kgetS (by first | with_unfolding_all rfl | with_unfolding_all assumption) ?_ | with_reducible refine p_kinT (by first | with_unfolding_all rfl | with_unfolding_all assumption) ?_ | with_reducible refine p_kinF (by first | with_unfolding_all rfl | with_unfolding_all assumption) ?_ | with_reducible refine p_nkinT (by first | with_unfolding_all rfl | with_unfolding_all assumption) ?_ | with_reducible refine p_nkinF (by first | with_unfolding_all rfl | with_unfolding_all assumption) ?_ | with_reducible refine p_T (by with_unfolding_all rfl) ?_ | with_reducible refine p_F (by with_unfolding_all rfl) ?_ | with_reducible refine And.intro (a := List.length _ ≤ sizeLine) szl ?_ | with_reducible refine And.intro (a := List.length _ = _) (by with_unfolding_all rfl) ?_ | refine (law_spot_p ?_).2))
      exact q
  | div x u t m =>
    obtain ⟨h1, h2, ⟨h3, h4⟩, h5⟩ := h
    unfold RV.d
    obtain ⟨i, rfl⟩ | ⟨w, rfl⟩ := h4
    · (repeat' (first | with_reducible refine p_seq ?_ | with_reducible refine p_next ?_ | with_reducible refine p_var (by with_unfolding_all rfl) ?_ | with_reducible refine p_c ?_ | with_reducible refine p_op ?_ | with_reducible refine p_cb ?_ | with_reducible refine p_call ?_ | with_reducible refine p_cons ?_ | with_reducible refine p_nil ?_ | with_reducible refine p_tup ?_ | with_reducible refine p_lst ?_ | with_reducible refine p_b ?_ | with_reducible refine p_qb ?_ | with_reducible refine p_and ?_ | with_reducible refine p_or ?_ | with_reducible refine p_not ?_ | with_reducible refine p_andV ?_ | with_reducible refine p_orV ?_ | with_reducible refine p_notV ?_ | with_reducible refine p_if ?_ | with_reducible refine p_ifS ?_ | with_reducible refine p_un ?_ | with_reducible refine p_neg ?_ | with_reducible refine p_ret ?_ | with_reducible refine p_retN ?_ | with_reducible refine p_drop ?_ | with_reducible refine p_asg' ?_ | with_reducible refine p_par ?_ | with_reducible refine p_setI ?_ | with_reducible refine p_sl ?_ | with_reducible refine p_noPart ?_ | with_reducible refine p_part ?_ | with_reducible refine p_partI ?_ | with_reducible refine p_kin ?_ | with_reducible refine p_kget ?_ | with_reducible refine p_lm ?_ | with_reducible refine p_for ?_ | with_reducible refine p_seqI ?_ | with_reducible refine p_seqL ?_ | with_reducible refine p_seqT ?_ | with_reducible refine p_rng1 ?_ | with_reducible refine p_rng1I (by unfold rng1; first | decide | (constructor <;> omega)) ?_ | with_reducible refine p_yes ?_ | with_reducible refine p_chain ?_ | with_reducible refine p_callK ?_ | with_reducible refine p_lc ?_ | with_reducible refine p_disp fun _ hp0 => ?_ | with_reducible refine p_get2 ?_ | with_reducible refine p_bindM (by with_unfolding_all rfl) ?_ | with_reducible refine p_mulI (by first | decide | omega) (by first | decide | omega) ?_ | with_reducible refine p_mod (by first | decide | omega | assumption) ?_ | with_reducible refine p_sub ?_ | with_reducible refine p_min ?_ | with_reducible refine p_max ?_ | with_reducible refine p_ix0 ?_ | with_reducible refine p_ix0L ?_ | with_reducible refine p_inT (by first | decide +kernel | exact ⟨rfl, rfl⟩ | (simp [flD]; done)) ?_ | with_reducible refine p_notInT (by first | decide +kernel | exact ⟨rfl, rfl⟩ | (simp [flD]; done)) ?_ | with_reducible refine p_fdiv (by first | assumption | decide) ?_ | with_reducible refine p_pow (by unfold CPow; decide) ?_ | with_reducible refine p_lt ?_ | with_reducible refine p_le ?_ | with_reducible refine p_gt ?_ | with_reducible refine p_ge ?_ | with_reducible refine p_eqI ?_ | with_reducible refine p_neI ?_ | with_reducible refine p_eqL (by first | decide +kernel | assumption) (by first | decide +kernel | assumption) ?_ | with_reducible refine p_neL (by first | decide +kernel | assumption) (by first | decide +kernel | assumption) ?_ | with_reducible refine p_eqT (by first | decide +kernel | assumption) (by first | decide +kernel | assumption) ?_ | with_reducible refine p_neT (by first | decide +kernel | assumption) (by first | decide +kernel | assumption) ?_ | with_reducible refine p_eqS (by first | decide +kernel | assumption) (by first | decide +kernel | assumption) ?_ | with_reducible refine p_neS (by first | decide +kernel | assumption) (by first | decide +kernel | assumption) ?_ | with_reducible refine p_isi (by with_unfolding_all rfl) (by decide) ?_ | with_reducible refine p_lmO (by first | assumption | exact sup_same) ?_ | with_reducible refine p_lmE (by first | assumption | exact sup_same) (by with_unfolding_all rfl) (by (first | exact True.intro | exact szl | (with_reducible assumption) | decide | (simp only [List.length_cons, List.length_nil]; first | exact szl | omega) | omega)) ?_ | with_reducible refine p_freeze (by with_unfolding_all rfl) (by first | assumption | exact sup_same) ?_ | with_reducible refine p_dispE (by assumption) (by with_unfolding_all rfl) ?_ | with_reducible refine p_getI (by with_unfolding_all rfl) ?_ | with_reducible refine p_getS (by with_unfolding_all rfl) (by with_unfolding_all rfl) (by first | with_unfolding_all rfl | with_unfolding_all assumption) ?_ | with_reducible refine p_getN (by with_unfolding_all rfl) (by with_unfolding_all rfl) (by first | with_unfolding_all rfl | with_unfolding_all assumption) ?_ | with_reducible refine p_r (by with_unfolding_all rfl) (by (first | exact True.intro | exact szl | (with_reducible assumption) | decide | (simp only [List.length_cons, List.length_nil]; first | exact szl | omega) | omega)) ?_ | with_reducible refine p_rc (by with_unfolding_all rfl) (by (first | exact True.intro | exact szl | (with_reducible assumption) | decide | (simp only [List.length_cons, List.length_nil]; first | exact szl | omega) | omega)) ?_ | with_reducible refine p_ixS (by first | assumption | exact sup_same) (by with_unfolding_all rfl) ?_ | with_reducible refine p_set (by first | assumption | exact sup_same) (by with_unfolding_all rfl) ?_ | with_reducible refine p_onE (by with_unfolding_all rfl) (by (first | exact True.intro | exact szl | (with_reducible assumption) | decide | (simp only [List.length_cons, List.length_nil]; first | exact szl | omega) | omega)) ?_ | with_reducible refine p_kgetS (by first | with_unfolding_all rfl | with_unfolding_all assumption) ?_ | with_reducible refine p_kinT (by first | with_unfolding_all rfl | with_unfolding_all assumption) ?_ | with_reducible refine p_kinF (by first | with_unfolding_all rfl | with_unfolding_all assumption) ?_ | with_reducible refine p_nkinT (by first | with_unfolding_all rfl | with_unfolding_all assumption) ?_ | with_reducible refine p_nkinF (by first | with_unfolding_all rfl | with_unfolding_all assumption) ?_ | with_reducible refine p_T (by with_unfolding_all rfl) ?_ | with_reducible refine p_F (by with_unfolding_all rfl) ?_ | with_reducible refine And.intro (a := List.length _ ≤ sizeLine) szl ?_ | with_reducible refine And.intro (a := List.length _ = _) (by with_unfolding_all rfl) ?_))
      exact q
    · (repeat' (first | with_reducible refine p_seq ?_ | with_reducible refine p_next ?_ | with_reducible refine p_var (by with_unfolding_all rfl) ?_ | with_reducible refine p_c ?_ | with_reducible refine p_op ?_ | with_reducible refine p_cb ?_ | with_reducible refine p_call ?_ | with_reducible refine p_cons ?_ | with_reducible refine p_nil ?_ | with_reducible refine p_tup ?_ | with_reducible refine p_lst ?_ | with_reducible refine p_b ?_ | with_reducible refine p_qb ?_ | with_reducible refine p_and ?_ | with_reducible refine p_or ?_ | with_reducible refine p_not ?_ | with_reducible refine p_andV ?_ | with_reducible refine p_orV ?_ | with_reducible refine p_notV ?_ | with_reducible refine p_if ?_ | with_reducible refine p_ifS ?_ | with_reducible refine p_un ?_ | with_reducible refine p_neg ?_ | with_reducible refine p_ret ?_ | with_reducible refine p_retN ?_ | with_reducible refine p_drop ?_ | with_reducible refine p_asg' ?_ | with_reducible refine p_par ?_ | with_reducible refine p_setI ?_ | with_reducible refine p_sl ?_ | with_reducible refine p_noPart ?_ | with_reducible refine p_part ?_ | with_reducible refine p_partI ?_ | with_reducible refine p_kin ?_ | with_reducible refine p_kget ?_ | with_reducible refine p_lm ?_ | with_reducible refine p_for ?_ | with_reducible refine p_seqI ?_ | with_reducible refine p_seqL ?_ | with_reducible refine p_seqT ?_ | with_reducible refine p_rng1 ?_ | with_reducible refine p_rng1I (by unfold rng1; first | decide | (constructor <;> omega)) ?_ | with_reducible refine p_yes ?_ | with_reducible refine p_chain ?_ | with_reducible refine p_callK ?_ | with_reducible refine p_lc ?_ | with_reducible refine p_disp fun _ hp0 => ?_ | with_reducible refine p_get2 ?_ | with_reducible refine p_bindM (by with_unfolding_all rfl) ?_ | with_reducible refine p_mulI (by first | decide | omega) (by first | decide | omega) ?_ | with_reducible refine p_mod (by first | decide | omega | assumption) ?_ | with_reducible refine p_sub ?_ | with_reducible refine p_min ?_ | with_reducible refine p_max ?_ | with_reducible refine p_ix0 ?_ | with_reducible refine p_ix0L ?_ | with_reducible refine p_inT (by first | decide +kernel | exact ⟨rfl, rfl⟩ | (simp [flD]; done)) ?_ | with_reducible refine p_notInT (by first | decide +kernel | exact ⟨rfl, rfl⟩ | (simp [flD]; done)) ?_ | with_reducible refine p_fdiv (by first | assumption | decide) ?_ | with_reducible refine p_pow (by unfold CPow; decide) ?_ | with_reducible refine p_lt ?_ | with_reducible refine p_le ?_ | with_reducible refine p_gt ?_ | with_reducible refine p_ge ?_ | with_reducible refine p_eqI ?_ | with_reducible refine p_neI ?_ | with_reducible refine p_eqL (by first | decide +kernel | assumption) (by first | decide +kernel | assumption) ?_ | with_reducible refine p_neL (by first | decide +kernel | assumption) (by first | decide +kernel | assumption) ?_ | with_reducible refine p_eqT (by first | decide +kernel | assumption) (by first | decide +kernel | assumption) ?_ | with_reducible refine p_neT (by first | decide +kernel | assumption) (by first | decide +kernel | assumption) ?_ | with_reducible refine p_eqS (by first | decide +kernel | assumption) (by first | decide +kernel | assumption) ?_ | with_reducible refine p_neS (by first | decide +kernel | assumption) (by first | decide +kernel | assumption) ?_ | with_reducible refine p_isi (by with_unfolding_all rfl) (by decide) ?_ | with_reducible refine p_lmO (by first | assumption | exact sup_same) ?_ | with_reducible refine p_lmE (by first | assumption | exact sup_same) (by with_unfolding_all rfl) (by (first | exact True.intro | exact szl | (with_reducible assumption) | decide | (simp only [List.length_cons, List.length_nil]; first | exact szl | omega) | omega)) ?_ | with_reducible refine p_freeze (by with_unfolding_all rfl) (by first | assumption | exact sup_same) ?_ | with_reducible refine p_dispE (by assumption) (by with_unfolding_all rfl) ?_ | with_reducible refine p_getI (by with_unfolding_all rfl) ?_ | with_reducible refine p_getS (by with_unfolding_all rfl) (by with_unfolding_all rfl) (by first | with_unfolding_all rfl | with_unfolding_all assumption) ?_ | with_reducible refine p_getN (by with_unfolding_all rfl) (by with_unfolding_all rfl) (by first | with_unfolding_all rfl | with_unfolding_all assumption) ?_ | with_reducible refine p_r (by with_unfolding_all rfl) (by (first | exact True.intro | exact szl | (with_reducible assumption) | decide | (simp only [List.length_cons, List.length_nil]; first | exact szl | omega) | omega)) ?_ | with_reducible refine p_rc (by with_unfolding_all rfl) (by (first | exact True.intro | exact szl | (with_reducible assumption) | decide | (simp only [List.length_cons, List.length_nil]; first | exact szl | omega) | omega)) ?_ | with_reducible refine p_ixS (by first | assumption | exact sup_same) (by with_unfolding_all rfl) ?_ | with_reducible refine p_set (by first | assumption | exact sup_same) (by with_unfolding_all rfl) ?_ | with_reducible refine p_onE (by with_unfolding_all rfl) (by (first | exact True.intro | exact szl | (with_reducible assumption) | decide | (simp only [List.length_cons, List.length_nil]; first | exact szl | omega) | omega)) ?_ | with_reducible refine p_kgetS (by first | with_unfolding_all rfl | with_unfolding_all assumption) ?_ | with_reducible refine p_kinT (by first | with_unfolding_all rfl | with_unfolding_all assumption) ?_ | with_reducible refine p_kinF (by first | with_unfolding_all rfl | with_unfolding_all assumption) ?_ | with_reducible refine p_nkinT (by first | with_unfolding_all rfl | with_unfolding_all assumption) ?_ | with_reducible refine p_nkinF (by first | with_unfolding_all rfl | with_unfolding_all assumption) ?_ | with_reducible refine p_T (by with_unfolding_all rfl) ?_ | with_reducible refine p_F (by with_unfolding_all rfl) ?_ | with_reducible refine And.intro (a := List.length _ ≤ sizeLine) szl ?_ | with_reducible refine And.intro (a := List.length _ = _) (by with_unfolding_all rfl) ?_))
      exact q
  | set x s u t =>
    unfold RV.d
    (repeat' (first | with_reducible refine p_seq ?_ | with_reducible refine p_next ?_ | with_reducible refine p_var (by with_unfolding_all rfl) ?_ | with_reducible refine p_c ?_ | with_reducible refine p_op ?_ | with_reducible refine p_cb ?_ | with_reducible refine p_call ?_ | with_reducible refine p_cons ?_ | with_reducible refine p_nil ?_ | with_reducible refine p_tup ?_ | with_reducible refine p_lst ?_ | with_reducible refine p_b ?_ | with_reducible refine p_qb ?_ | with_reducible refine p_and ?_ | with_reducible refine p_or ?_ | with_reducible refine p_not ?_ | with_reducible refine p_andV ?_ | with_reducible refine p_orV ?_ | with_reducible refine p_notV ?_ | with_reducible refine p_if ?_ | with_reducible refine p_ifS ?_ | with_reducible refine p_un ?_ | with_reducible refine p_neg ?_ | with_reducible refine p_ret ?_ | with_reducible refine p_retN ?_ | with_reducible refine p_drop ?_ | with_reducible refine p_asg' ?_ | with_reducible refine p_par ?_ | with_reducible refine p_setI ?_ | with_reducible refine p_sl ?_ | with_reducible refine p_noPart ?_ | with_reducible refine p_part ?_ | with_reducible refine p_partI ?_ | with_reducible refine p_kin ?_ | with_reducible refine p_kget ?_ | with_reducible refine p_lm ?_ | with_reducible refine p_for ?_ | with_reducible refine p_seqI ?_ | with_reducible refine p_seqL ?_ | with_reducible refine p_seqT ?_ | with_reducible refine p_rng1 ?_ | with_reducible refine p_rng1I (by unfold rng1; first | decide | (constructor <;> omega)) ?_ | with_reducible refine p_yes ?_ | with_reducible refine p_chain ?_ | with_reducible refine p_callK ?_ | with_reducible refine p_lc ?_ | with_reducible refine p_disp fun _ hp0 => ?_ | with_reducible refine p_get2 ?_ | with_reducible refine p_bindM (by with_unfolding_all rfl) ?_ | with_reducible refine p_mulI (by first | decide | omega) (by first | decide | omega) ?_ | with_reducible refine p_mod (by first | decide | omega | assumption) ?_ | with_reducible refine p_sub ?_ | with_reducible refine p_min ?_ | with_reducible refine p_max ?_ | with_reducible refine p_ix0 ?_ | with_reducible refine p_ix0L ?_ | with_reducible refine p_inT (by first | decide +kernel | exact ⟨rfl, rfl⟩ | (simp [flD]; done)) ?_ | with_reducible refine p_notInT (by first | decide +kernel | exact ⟨rfl, rfl⟩ | (simp [flD]; done)) ?_ | with_reducible refine p_fdiv (by first | assumption | decide) ?_ | with_reducible refine p_pow (by unfold CPow; decide) ?_ | with_reducible refine p_lt ?_ | with_reducible refine p_le ?_ | with_reducible refine p_gt ?_ | with_reducible refine p_ge ?_ | with_reducible refine p_eqI ?_ | with_reducible refine p_neI ?_ | with_reducible refine p_eqL (by first | decide +kernel | assumption) (by first | decide +kernel | assumption) ?_ | with_reducible refine p_neL (by first | decide +kernel | assumption) (by first | decide +kernel | assumption) ?_ | with_reducible refine p_eqT (by first | decide +kernel | assumption) (by first | decide +kernel | assumption) ?_ | with_reducible refine p_neT (by first | decide +kernel | assumption) (by first | decide +kernel | assumption) ?_ | with_reducible refine p_eqS (by first | decide +kernel | assumption) (by first | decide +kernel | assumption) ?_ | with_reducible refine p_neS (by first | decide +kernel | assumption) (by first | decide +kernel | assumption) ?_ | with_reducible refine p_isi (by with_unfolding_all rfl) (by decide) ?_ | with_reducible refine p_lmO (by first | assumption | exact sup_same) ?_ | with_reducible refine p_lmE (by first | assumption | exact sup_same) (by with_unfolding_all rfl) (by (first | exact True.intro | exact szl | (with_reducible assumption) | decide | (simp only [List.length_cons, List.length_nil]; first | exact szl | omega) | omega)) ?_ | with_reducible refine p_freeze (by with_unfolding_all rfl) (by first | assumption | exact sup_same) ?_ | with_reducible refine p_dispE (by assumption) (by with_unfolding_all rfl) ?_ | with_reducible refine p_getI (by with_unfolding_all rfl) ?_ | with_reducible refine p_getS (by with_unfolding_all rfl) (by with_unfolding_all rfl) (by first | with_unfolding_all rfl | with_unfolding_all assumption) ?_ | with_reducible refine p_getN (by with_unfolding_all rfl) (by with_unfolding_all rfl) (by first | with_unfolding_all rfl | with_unfolding_all assumption) ?_ | with_reducible refine p_r (by with_unfolding_all rfl) (by (first | exact True.intro | exact szl | (with_reducible assumption) | decide | (simp only [List.length_cons, List.length_nil]; first | exact szl | omega) | omega)) ?_ | with_reducible refine p_rc (by with_unfolding_all rfl) (by (first | exact True.intro | exact szl | (with_reducible assumption) | decide | (simp only [List.length_cons, List.length_nil]; first | exact szl | omega) | omega)) ?_ | with_reducible refine p_ixS (by first | assumption | exact sup_same) (by with_unfolding_all rfl) ?_ | with_reducible refine p_set (by first | assumption | exact sup_same) (by with_unfolding_all rfl) ?_ | with_reducible refine p_onE (by with_unfolding_all rfl) (by (first | exact True.intro | exact szl | (with_reducible assumption) | decide | (simp only [List.length_cons, List.length_nil]; first | exact szl | omega) | omega)) ?_ | with_reducible refine p_kgetS (by first | with_unfolding_all rfl | with_unfolding_all assumption) ?_ | with_reducible refine p_kinT (by first | with_unfolding_all rfl | with_unfolding_all assumption) ?_ | with_reducible refine p_kinF (by first | with_unfolding_all rfl | with_unfolding_all assumption) ?_ | with_reducible refine p_nkinT (by first | with_unfolding_all rfl | with_unfolding_all assumption) ?_ | with_reducible refine p_nkinF (by first | with_unfolding_all rfl | with_unfolding_all assumption) ?_ | with_reducible refine p_T (by with_unfolding_all rfl) ?_ | with_reducible refine p_F (by with_unfolding_all rfl) ?_ | with_reducible refine And.intro (a := List.length _ ≤ sizeLine) szl ?_ | with_reducible refine And.intro (a := List.length _ = _) (by with_unfolding_all rfl) ?_))
    exact to_bl (by with_unfolding_all rfl) q
  | out u =>
    unfold RV.d
    (repeat' (first | with_reducible refine p_seq ?_ | with_reducible refine p_next ?_ | with_reducible refine p_var (by with_unfolding_all rfl) ?_ | with_reducible refine p_c ?_ | with_reducible refine p_op ?_ | with_reducible refine p_cb ?_ | with_reducible refine p_call ?_ | with_reducible refine p_cons ?_ | with_reducible refine p_nil ?_ | with_reducible refine p_tup ?_ | with_reducible refine p_lst ?_ | with_reducible refine p_b ?_ | with_reducible refine p_qb ?_ | with_reducible refine p_and ?_ | with_reducible refine p_or ?_ | with_reducible refine p_not ?_ | with_reducible refine p_andV ?_ | with_reducible refine p_orV ?_ | with_reducible refine p_notV ?_ | with_reducible refine p_if ?_ | with_reducible refine p_ifS ?_ | with_reducible refine p_un ?_ | with_reducible refine p_neg ?_ | with_reducible refine p_ret ?_ | with_reducible refine p_retN ?_ | with_reducible refine p_drop ?_ | with_reducible refine p_asg' ?_ | with_reducible refine p_par ?_ | with_reducible refine p_setI ?_ | with_reducible refine p_sl ?_ | with_reducible refine p_noPart ?_ | with_reducible refine p_part ?_ | with_reducible refine p_partI ?_ | with_reducible refine p_kin ?_ | with_reducible refine p_kget ?_ | with_reducible refine p_lm ?_ | with_reducible refine p_for ?_ | with_reducible refine p_seqI ?_ | with_reducible refine p_seqL ?_ | with_reducible refine p_seqT ?_ | with_reducible refine p_rng1 ?_ | with_reducible refine p_rng1I (by unfold rng1; first | decide | (constructor <;> omega)) ?_ | with_reducible refine p_yes ?_ | with_reducible refine p_chain ?_ | with_reducible refine p_callK ?_ | with_reducible refine p_lc ?_ | with_reducible refine p_disp fun _ hp0 => ?_ | with_reducible refine p_get2 ?_ | with_reducible refine p_bindM (by with_unfolding_all rfl) ?_ | with_reducible refine p_mulI (by first | decide | omega) (by first | decide | omega) ?_ | with_reducible refine p_mod (by first | decide | omega | assumption) ?_ | with_reducible refine p_sub ?_ | with_reducible refine p_min ?_ | with_reducible refine p_max ?_ | with_reducible refine p_ix0 ?_ | with_reducible refine p_ix0L ?_ | with_reducible refine p_inT (by first | decide +kernel | exact ⟨rfl, rfl⟩ | (simp [flD]; done)) ?_ | with_reducible refine p_notInT (by first | decide +kernel | exact ⟨rfl, rfl⟩ | (simp [flD]; done)) ?_ | with_reducible refine p_fdiv (by first | assumption | decide) ?_ | with_reducible refine p_pow (by unfold CPow; decide) ?_ | with_reducible refine p_lt ?_ | with_reducible refine p_le ?_ | with_reducible refine p_gt ?_ | with_reducible refine p_ge ?_ | with_reducible refine p_eqI ?_ | with_reducible refine p_neI ?_ | with_reducible refine p_eqL (by first | decide +kernel | assumption) (by first | decide +kernel | assumption) ?_ | with_reducible refine p_neL (by first | decide +kernel | assumption) (by first | decide +kernel | assumption) ?_ | with_reducible refine p_eqT (by first | decide +kernel | assumption) (by first | decide +kernel | assumption) ?_ | with_reducible refine p_neT (by first | decide +kernel | assumption) (by first | decide +kernel | assumption) ?_ | with_reducible refine p_eqS (by first | decide +kernel | assumption) (by first | decide +kernel | assumption) ?_ | with_reducible refine p_neS (by first | decide +kernel | assumption) (by first | decide +kernel | assumption) ?_ | with_reducible refine p_isi (by with_unfolding_all rfl) (by decide) ?_ | with_reducible refine p_lmO (by first | assumption | exact sup_same) ?_ | with_reducible refine p_lmE (by first | assumption | exact sup_same) (by with_unfolding_all rfl) (by (first | exact True.intro | exact szl | (with_reducible assumption) | decide | (simp only [List.length_cons, List.length_nil]; first | exact szl | omega) | omega)) ?_ | with_reducible refine p_freeze (by with_unfolding_all rfl) (by first | assumption | exact sup_same) ?_ | with_reducible refine p_dispE (by assumption) (by with_unfolding_all rfl) ?_ | with_reducible refine p_getI (by with_unfolding_all rfl) ?_ | with_reducible refine p_getS (by with_unfolding_all rfl) (by with_unfolding_all rfl) (by first | with_unfolding_all rfl | with_unfolding_all assumption) ?_ | with_reducible refine p_getN (by with_unfolding_all rfl) (by with_unfolding_all rfl) (by first | with_unfolding_all rfl | with_unfolding_all assumption) ?_ | with_reducible refine p_r (by with_unfolding_all rfl) (by (first | exact True.intro | exact szl | (with_reducible assumption) | decide | (simp only [List.length_cons, List.length_nil]; first | exact szl | omega) | omega)) ?_ | with_reducible refine p_rc (by with_unfolding_all rfl) (by (first | exact True.intro | exact szl | (with_reducible assumption) | decide | (simp only [List.length_cons, List.length_nil]; first | exact szl | omega) | omega)) ?_ | with_reducible refine p_ixS (by first | assumption | exact sup_same) (by with_unfolding_all rfl) ?_ | with_reducible refine p_set (by first | assumption | exact sup_same) (by with_unfolding_all rfl) ?_ | with_reducible refine p_onE (by with_unfolding_all rfl) (by (first | exact True.intro | exact szl | (with_reducible assumption) | decide | (simp only [List.length_cons, List.length_nil]; first | exact szl | omega) | omega)) ?_ | with_reducible refine p_kgetS (by first | with_unfolding_all rfl | with_unfolding_all assumption) ?_ | with_reducible refine p_kinT (by first | with_unfolding_all rfl | with_unfolding_all assumption) ?_ | with_reducible refine p_kinF (by first | with_unfolding_all rfl | with_unfolding_all assumption) ?_ | with_reducible refine p_nkinT (by first | with_unfolding_all rfl | with_unfolding_all assumption) ?_ | with_reducible refine p_nkinF (by first | with_unfolding_all rfl | with_unfolding_all assumption) ?_ | with_reducible refine p_T (by with_unfolding_all rfl) ?_ | with_reducible refine p_F (by with_unfolding_all rfl) ?_ | with_reducible refine And.intro (a := List.length _ ≤ sizeLine) szl ?_ | with_reducible refine And.intro (a := List.length _ = _) (by with_unfolding_all rfl) ?_))
    exact to_bl (by with_unfolding_all rfl) q
  | leave u k =>
    unfold RV.d
    (repeat' (first | with_reducible refine p_seq ?_ | with_reducible refine p_next ?_ | with_reducible refine p_var (by with_unfolding_all rfl) ?_ | with_reducible refine p_c ?_ | with_reducible refine p_op ?_ | with_reducible refine p_cb ?_ | with_reducible refine p_call ?_ | with_reducible refine p_cons ?_ | with_reducible refine p_nil ?_ | with_reducible refine p_tup ?_ | with_reducible refine p_lst ?_ | with_reducible refine p_b ?_ | with_reducible refine p_qb ?_ | with_reducible refine p_and ?_ | with_reducible refine p_or ?_ | with_reducible refine p_not ?_ | with_reducible refine p_andV ?_ | with_reducible refine p_orV ?_ | with_reducible refine p_notV ?_ | with_reducible refine p_if ?_ | with_reducible refine p_ifS ?_ | with_reducible refine p_un ?_ | with_reducible refine p_neg ?_ | with_reducible refine p_ret ?_ | with_reducible refine p_retN ?_ | with_reducible refine p_drop ?_ | with_reducible refine p_asg' ?_ | with_reducible refine p_par ?_ | with_reducible refine p_setI ?_ | with_reducible refine p_sl ?_ | with_reducible refine p_noPart ?_ | with_reducible refine p_part ?_ | with_reducible refine p_partI ?_ | with_reducible refine p_kin ?_ | with_reducible refine p_kget ?_ | with_reducible refine p_lm ?_ | with_reducible refine p_for ?_ | with_reducible refine p_seqI ?_ | with_reducible refine p_seqL ?_ | with_reducible refine p_seqT ?_ | with_reducible refine p_rng1 ?_ | with_reducible refine p_rng1I (by unfold rng1; first | decide | (constructor <;> omega)) ?_ | with_reducible refine p_yes ?_ | with_reducible refine p_chain ?_ | with_reducible refine p_callK ?_ | with_reducible refine p_lc ?_ | with_reducible refine p_disp fun _ hp0 => ?_ | with_reducible refine p_get2 ?_ | with_reducible refine p_bindM (by with_unfolding_all rfl) ?_ | with_reducible refine p_mulI (by first | decide | omega) (by first | decide | omega) ?_ | with_reducible refine p_mod (by first | decide | omega | assumption) ?_ | with_reducible refine p_sub ?_ | with_reducible refine p_min ?_ | with_reducible refine p_max ?_ | with_reducible refine p_ix0 ?_ | with_reducible refine p_ix0L ?_ | with_reducible refine p_inT (by first | decide +kernel | exact ⟨rfl, rfl⟩ | (simp [flD]; done)) ?_ | with_reducible refine p_notInT (by first | decide +kernel | exact ⟨rfl, rfl⟩ | (simp [flD]; done)) ?_ | with_reducible refine p_fdiv (by first | assumption | decide) ?_ | with_reducible refine p_pow (by unfold CPow; decide) ?_ | with_reducible refine p_lt ?_ | with_reducible refine p_le ?_ | with_reducible refine p_gt ?_ | with_reducible refine p_ge ?_ | with_reducible refine p_eqI ?_ | with_reducible refine p_neI ?_ | with_reducible refine p_eqL (by first | decide +kernel | assumption) (by first | decide +kernel | assumption) ?_ | with_reducible refine p_neL (by first | decide +kernel | assumption) (by first | decide +kernel | assumption) ?_ | with_reducible refine p_eqT (by first | decide +kernel | assumption) (by first | decide +kernel | assumption) ?_ | with_reducible refine p_neT (by first | decide +kernel | assumption) (by first | decide +kernel | assumption) ?_ | with_reducible refine p_eqS (by first | decide +kernel | assumption) (by first | decide +kernel | assumption) ?_ | with_reducible refine p_neS (by first | decide +kernel | assumption) (by first | decide +kernel | assumption) ?_ | with_reducible refine p_isi (by with_unfolding_all rfl) (by decide) ?_ | with_reducible refine p_lmO (by first | assumption | exact sup_same) ?_ | with_reducible refine p_lmE (by first | assumption | exact sup_same) (by with_unfolding_all rfl) (by (first | exact True.intro | exact szl | (with_reducible assumption) | decide | (simp only [List.length_cons, List.length_nil]; first | exact szl | omega) | omega)) ?_ | with_reducible refine p_freeze (by with_unfolding_all rfl) (by first | assumption | exact sup_same) ?_ | with_reducible refine p_dispE (by assumption) (by with_unfolding_all rfl) ?_ | with_reducible refine p_getI (by with_unfolding_all rfl) ?_ | with_reducible refine p_getS (by with_unfolding_all rfl) (by with_unfolding_all rfl) (by first | with_unfolding_all rfl | with_unfolding_all assumption) ?_ | with_reducible refine p_getN (by with_unfolding_all rfl) (by with_unfolding_all rfl) (by first | with_unfolding_all rfl | with_unfolding_all assumption) ?_ | with_reducible refine p_r (by with_unfolding_all rfl) (by (first | exact True.intro | exact szl | (with_reducible assumption) | decide | (simp only [List.length_cons, List.length_nil]; first | exact szl | omega) | omega)) ?_ | with_reducible refine p_rc (by with_unfolding_all rfl) (by (first | exact True.intro | exact szl | (with_reducible assumption) | decide | (simp only [List.length_cons, List.length_nil]; first | exact szl | omega) | omega)) ?_ | with_reducible refine p_ixS (by first | assumption | exact sup_same) (by with_unfolding_all rfl) ?_ | with_reducible refine p_set (by first | assumption | exact sup_same) (by with_unfolding_all rfl) ?_ | with_reducible refine p_onE (by with_unfolding_all rfl) (by (first | exact True.intro | exact szl | (with_reducible assumption) | decide | (simp only [List.length_cons, List.length_nil]; first | exact szl | omega) | omega)) ?_ | with_reducible refine p_kgetS (by first | with_unfolding_all rfl | with_unfolding_all assumption) ?_ | with_reducible refine p_kinT (by first | with_unfolding_all rfl | with_unfolding_all assumption) ?_ | with_reducible refine p_kinF (by first | with_unfolding_all rfl | with_unfolding_all assumption) ?_ | with_reducible refine p_nkinT (by first | with_unfolding_all rfl | with_unfolding_all assumption) ?_ | with_reducible refine p_nkinF (by first | with_unfolding_all rfl | with_unfolding_all assumption) ?_ | with_reducible refine p_T (by with_unfolding_all rfl) ?_ | with_reducible refine p_F (by with_unfolding_all rfl) ?_ | with_reducible refine And.intro (a := List.length _ ≤ sizeLine) szl ?_ | with_reducible refine And.intro (a := List.length _ = _) (by with_unfolding_all rfl) ?_))
    exact to_bl (by with_unfolding_all rfl) q
  | unl u k =>
    unfold RV.d
    (repeat' (first | with_reducible refine p_seq ?_ | with_reducible refine p_next ?_ | with_reducible refine p_var (by with_unfolding_all rfl) ?_ | with_reducible refine p_c ?_ | with_reducible refine p_op ?_ | with_reducible refine p_cb ?_ | with_reducible refine p_call ?_ | with_reducible refine p_cons ?_ | with_reducible refine p_nil ?_ | with_reducible refine p_tup ?_ | with_reducible refine p_lst ?_ | with_reducible refine p_b ?_ | with_reducible refine p_qb ?_ | with_reducible refine p_and ?_ | with_reducible refine p_or ?_ | with_reducible refine p_not ?_ | with_reducible refine p_andV ?_ | with_reducible refine p_orV ?_ | with_reducible refine p_notV ?_ | with_reducible refine p_if ?_ | with_reducible refine p_ifS ?_ | with_reducible refine p_un ?_ | with_reducible refine p_neg ?_ | with_reducible refine p_ret ?_ | with_reducible refine p_retN ?_ | with_reducible refine p_drop ?_ | with_reducible refine p_asg' ?_ | with_reducible refine p_par ?_ | with_reducible refine p_setI ?_ | with_reducible refine p_sl ?_ | with_reducible refine p_noPart ?_ | with_reducible refine p_part ?_ | with_reducible refine p_partI ?_ | with_reducible refine p_kin ?_ | with_reducible refine p_kget ?_ | with_reducible refine p_lm ?_ | with_reducible refine p_for ?_ | with_reducible refine p_seqI ?_ | with_reducible refine p_seqL ?_ | with_reducible refine p_seqT ?_ | with_reducible refine p_rng1 ?_ | with_reducible refine p_rng1I (by unfold rng1; first | decide | (constructor <;> omega)) ?_ | with_reducible refine p_yes ?_ | with_reducible refine p_chain ?_ | with_reducible refine p_callK ?_ | with_reducible refine p_lc ?_ | with_reducible refine p_disp fun _ hp0 => ?_ | with_reducible refine p_get2 ?_ | with_reducible refine p_bindM (by with_unfolding_all rfl) ?_ | with_reducible refine p_mulI (by first | decide | omega) (by first | decide | omega) ?_ | with_reducible refine p_mod (by first | decide | omega | assumption) ?_ | with_reducible refine p_sub ?_ | with_reducible refine p_min ?_ | with_reducible refine p_max ?_ | with_reducible refine p_ix0 ?_ | with_reducible refine p_ix0L ?_ | with_reducible refine p_inT (by first | decide +kernel | exact ⟨rfl, rfl⟩ | (simp [flD]; done)) ?_ | with_reducible refine p_notInT (by first | decide +kernel | exact ⟨rfl, rfl⟩ | (simp [flD]; done)) ?_ | with_reducible refine p_fdiv (by first | assumption | decide) ?_ | with_reducible refine p_pow (by unfold CPow; decide) ?_ | with_reducible refine p_lt ?_ | with_reducible refine p_le ?_ | with_reducible refine p_gt ?_ | with_reducible refine p_ge ?_ | with_reducible refine p_eqI ?_ | with_reducible refine p_neI ?_ | with_reducible refine p_eqL (by first | decide +kernel | assumption) (by first | decide +kernel | assumption) ?_ | with_reducible refine p_neL (by first | decide +kernel | assumption) (by first | decide +kernel | assumption) ?_ | with_reducible refine p_eqT (by first | decide +kernel | assumption) (by first | decide +kernel | assumption) ?_ | with_reducible refine p_neT (by first | decide +kernel | assumption) (by first | decide +kernel | assumption) ?_ | with_reducible refine p_eqS (by first | decide +kernel | assumption) (by first | decide +kernel | assumption) ?_ | with_reducible refine p_neS (by first | decide +kernel | assumption) (by first | decide +kernel | assumption) ?_ | with_reducible refine p_isi (by with_unfolding_all rfl) (by decide) ?_ | with_reducible refine p_lmO (by first | assumption | exact sup_same) ?_ | with_reducible refine p_lmE (by first | assumption | exact sup_same) (by with_unfolding_all rfl) (by (first | exact True.intro | exact szl | (with_reducible assumption) | decide | (simp only [List.length_cons, List.length_nil]; first | exact szl | omega) | omega)) ?_ | with_reducible refine p_freeze (by with_unfolding_all rfl) (by first | assumption | exact sup_same) ?_ | with_reducible refine p_dispE (by assumption) (by with_unfolding_all rfl) ?_ | with_reducible refine p_getI (by with_unfolding_all rfl) ?_ | with_reducible refine p_getS (by with_unfolding_all rfl) (by with_unfolding_all rfl) (by first | with_unfolding_all rfl | with_unfolding_all assumption) ?_ | with_reducible refine p_getN (by with_unfolding_all rfl) (by with_unfolding_all rfl) (by first | with_unfolding_all rfl | with_unfolding_all assumption) ?_ | with_reducible refine p_r (by with_unfolding_all rfl) (by (first | exact True.intro | exact szl | (with_reducible assumption) | decide | (simp only [List.length_cons, List.length_nil]; first | exact szl | omega) | omega)) ?_ | with_reducible refine p_rc (by with_unfolding_all rfl) (by (first | exact True.intro | exact szl | (with_reducible assumption) | decide | (simp only [List.length_cons, List.length_nil]; first | exact szl | omega) | omega)) ?_ | with_reducible refine p_ixS (by first | assumption | exact sup_same) (by with_unfolding_all rfl) ?_ | with_reducible refine p_set (by first | assumption | exact sup_same) (by with_unfolding_all rfl) ?_ | with_reducible refine p_onE (by with_unfolding_all rfl) (by (first | exact True.intro | exact szl | (with_reducible assumption) | decide | (simp only [List.length_cons, List.length_nil]; first | exact szl | omega) | omega)) ?_ | with_reducible refine p_kgetS (by first | with_unfolding_all rfl | with_unfolding_all assumption) ?_ | with_reducible refine p_kinT (by first | with_unfolding_all rfl | with_unfolding_all assumption) ?_ | with_reducible refine p_kinF (by first | with_unfolding_all rfl | with_unfolding_all assumption) ?_ | with_reducible refine p_nkinT (by first | with_unfolding_all rfl | with_unfolding_all assumption) ?_ | with_reducible refine p_nkinF (by first | with_unfolding_all rfl | with_unfolding_all assumption) ?_ | with_reducible refine p_T (by with_unfolding_all rfl) ?_ | with_reducible refine p_F (by with_unfolding_all rfl) ?_ | with_reducible refine And.intro (a := List.length _ ≤ sizeLine) szl ?_ | with_reducible refine And.intro (a := List.length _ = _) (by with_unfolding_all rfl) ?_))
    exact to_bl (by with_unfolding_all rfl) q
  | qload x g b o =>
    unfold RV.d
    (repeat' (first | with_reducible refine p_seq ?_ | with_reducible refine p_next ?_ | with_reducible refine p_var (by with_unfolding_all rfl) ?_ | with_reducible refine p_c ?_ | with_reducible refine p_op ?_ | with_reducible refine p_cb ?_ | with_reducible refine p_call ?_ | with_reducible refine p_cons ?_ | with_reducible refine p_nil ?_ | with_reducible refine p_tup ?_ | with_reducible refine p_lst ?_ | with_reducible refine p_b ?_ | with_reducible refine p_qb ?_ | with_reducible refine p_and ?_ | with_reducible refine p_or ?_ | with_reducible refine p_not ?_ | with_reducible refine p_andV ?_ | with_reducible refine p_orV ?_ | with_reducible refine p_notV ?_ | with_reducible refine p_if ?_ | with_reducible refine p_ifS ?_ | with_reducible refine p_un ?_ | with_reducible refine p_neg ?_ | with_reducible refine p_ret ?_ | with_reducible refine p_retN ?_ | with_reducible refine p_drop ?_ | with_reducible refine p_asg' ?_ | with_reducible refine p_par ?_ | with_reducible refine p_setI ?_ | with_reducible refine p_sl ?_ | with_reducible refine p_noPart ?_ | with_reducible refine p_part ?_ | with_reducible refine p_partI ?_ | with_reducible refine p_kin ?_ | with_reducible refine p_kget ?_ | with_reducible refine p_lm ?_ | with_reducible refine p_for ?_ | with_reducible refine p_seqI ?_ | with_reducible refine p_seqL ?_ | with_reducible refine p_seqT ?_ | with_reducible refine p_rng1 ?_ | with_reducible refine p_rng1I (by unfold rng1; first | decide | (constructor <;> omega)) ?_ | with_reducible refine p_yes ?_ | with_reducible refine p_chain ?_ | with_reducible refine p_callK ?_ | with_reducible refine p_lc ?_ | with_reducible refine p_disp fun _ hp0 => ?_ | with_reducible refine p_get2 ?_ | with_reducible refine p_bindM (by with_unfolding_all rfl) ?_ | with_reducible refine p_mulI (by first | decide | omega) (by first | decide | omega) ?_ | with_reducible refine p_mod (by first | decide | omega | assumption) ?_ | with_reducible refine p_sub ?_ | with_reducible refine p_min ?_ | with_reducible refine p_max ?_ | with_reducible refine p_ix0 ?_ | with_reducible refine p_ix0L ?_ | with_reducible refine p_inT (by first | decide +kernel | exact ⟨rfl, rfl⟩ | (simp [flD]; done)) ?_ | with_reducible refine p_notInT (by first | decide +kernel | exact ⟨rfl, rfl⟩ | (simp [flD]; done)) ?_ | with_reducible refine p_fdiv (by first | assumption | decide) ?_ | with_reducible refine p_pow (by unfold CPow; decide) ?_ | with_reducible refine p_lt ?_ | with_reducible refine p_le ?_ | with_reducible refine p_gt ?_ | with_reducible refine p_ge ?_ | with_reducible refine p_eqI ?_ | with_reducible refine p_neI ?_ | with_reducible refine p_eqL (by first | decide +kernel | assumption) (by first | decide +kernel | assumption) ?_ | with_reducible refine p_neL (by first | decide +kernel | assumption) (by first | decide +kernel | assumption) ?_ | with_reducible refine p_eqT (by first | decide +kernel | assumption) (by first | decide +kernel | assumption) ?_ | with_reducible refine p_neT (by first | decide +kernel | assumption) (by first | decide +kernel | assumption) ?_ | with_reducible refine p_eqS (by first | decide +kernel | assumption) (by first | decide +kernel | assumption) ?_ | with_reducible refine p_neS (by first | decide +kernel | assumption) (by first | decide +kernel | assumption) ?_ | with_reducible refine p_isi (by with_unfolding_all rfl) (by decide) ?_ | with_reducible refine p_lmO (by first | assumption | exact sup_same) ?_ | with_reducible refine p_lmE (by first | assumption | exact sup_same) (by with_unfolding_all rfl) (by (first | exact True.intro | exact szl | (with_reducible assumption) | decide | (simp only [List.length_cons, List.length_nil]; first | exact szl | omega) | omega)) ?_ | with_reducible refine p_freeze (by with_unfolding_all rfl) (by first | assumption | exact sup_same) ?_ | with_reducible refine p_dispE (by assumption) (by with_unfolding_all rfl) ?_ | with_reducible refine p_getI (by with_unfolding_all rfl) ?_ | with_reducible refine p_getS (by with_unfolding_all rfl) (by with_unfolding_all rfl) (by first | with_unfolding_all rfl | with_unfolding_all assumption) ?_ | with_reducible refine p_getN (by with_unfolding_all rfl) (by with_unfolding_all rfl) (by first | with_unfolding_all rfl | with_unfolding_all assumption) ?_ | with_reducible refine p_r (by with_unfolding_all rfl) (by (first | exact True.intro | exact szl | (with_reducible assumption) | decide | (simp only [List.length_cons, List.length_nil]; first | exact szl | omega) | omega)) ?_ | with_reducible refine p_rc (by with_unfolding_all rfl) (by (first | exact True.intro | exact szl | (with_reducible assumption) | decide | (simp only [List.length_cons, List.length_nil]; first | exact szl | omega) | omega)) ?_ | with_reducible refine p_ixS (by first | assumption | exact sup_same) (by with_unfolding_all rfl) ?_ | with_reducible refine p_set (by first | assumption | exact sup_same) (by with_unfolding_all rfl) ?_ | with_reducible refine p_onE (by with_unfolding_all rfl) (by (first | exact True.intro | exact szl | (with_reducible assumption) | decide | (simp only [List.length_cons, List.length_nil]; first | exact szl | omega) | omega)) ?_ | with_reducible refine p_kgetS (by first | with_unfolding_all rfl | with_unfolding_all assumption) ?_ | with_reducible refine p_kinT (by first | with_unfolding_all rfl | with_unfolding_all assumption) ?_ | with_reducible refine p_kinF (by first | with_unfolding_all rfl | with_unfolding_all assumption) ?_ | with_reducible refine p_nkinT (by first | with_unfolding_all rfl | with_unfolding_all assumption) ?_ | with_reducible refine p_nkinF (by first | with_unfolding_all rfl | with_unfolding_all assumption) ?_ | with_reducible refine p_T (by with_unfolding_all rfl) ?_ | with_reducible refine p_F (by with_unfolding_all rfl) ?_ | with_reducible refine And.intro (a := List.length _ ≤ sizeLine) szl ?_ | with_reducible refine And.intro (a := List.length _ = _) (by with_unfolding_all rfl) ?_))
    exact to_bl (by with_unfolding_all rfl) q
  | qdiv x g u t =>
    unfold RV.d
    (repeat' (first | with_reducible refine p_seq ?_ | with_reducible refine p_next ?_ | with_reducible refine p_var (by with_unfolding_all rfl) ?_ | with_reducible refine p_c ?_ | with_reducible refine p_op ?_ | with_reducible refine p_cb ?_ | with_reducible refine p_call ?_ | with_reducible refine p_cons ?_ | with_reducible refine p_nil ?_ | with_reducible refine p_tup ?_ | with_reducible refine p_lst ?_ | with_reducible refine p_b ?_ | with_reducible refine p_qb ?_ | with_reducible refine p_and ?_ | with_reducible refine p_or ?_ | with_reducible refine p_not ?_ | with_reducible refine p_andV ?_ | with_reducible refine p_orV ?_ | with_reducible refine p_notV ?_ | with_reducible refine p_if ?_ | with_reducible refine p_ifS ?_ | with_reducible refine p_un ?_ | with_reducible refine p_neg ?_ | with_reducible refine p_ret ?_ | with_reducible refine p_retN ?_ | with_reducible refine p_drop ?_ | with_reducible refine p_asg' ?_ | with_reducible refine p_par ?_ | with_reducible refine p_setI ?_ | with_reducible refine p_sl ?_ | with_reducible refine p_noPart ?_ | with_reducible refine p_part ?_ | with_reducible refine p_partI ?_ | with_reducible refine p_kin ?_ | with_reducible refine p_kget ?_ | with_reducible refine p_lm ?_ | with_reducible refine p_for ?_ | with_reducible refine p_seqI ?_ | with_reducible refine p_seqL ?_ | with_reducible refine p_seqT ?_ | with_reducible refine p_rng1 ?_ | with_reducible refine p_rng1I (by unfold rng1; first | decide | (constructor <;> omega)) ?_ | with_reducible refine p_yes ?_ | with_reducible refine p_chain ?_ | with_reducible refine p_callK ?_ | with_reducible refine p_lc ?_ | with_reducible refine p_disp fun _ hp0 => ?_ | with_reducible refine p_get2 ?_ | with_reducible refine p_bindM (by with_unfolding_all rfl) ?_ | with_reducible refine p_mulI (by first | decide | omega) (by first | decide | omega) ?_ | with_reducible refine p_mod (by first | decide | omega | assumption) ?_ | with_reducible refine p_sub ?_ | with_reducible refine p_min ?_ | with_reducible refine p_max ?_ | with_reducible refine p_ix0 ?_ | with_reducible refine p_ix0L ?_ | with_reducible refine p_inT (by first | decide +kernel | exact ⟨rfl, rfl⟩ | (simp [flD]; done)) ?_ | with_reducible refine p_notInT (by first | decide +kernel | exact ⟨rfl, rfl⟩ | (simp [flD]; done)) ?_ | with_reducible refine p_fdiv (by first | assumption | decide) ?_ | with_reducible refine p_pow (by unfold CPow; decide) ?_ | with_reducible refine p_lt ?_ | with_reducible refine p_le ?_ | with_reducible refine p_gt ?_ | with_reducible refine p_ge ?_ | with_reducible refine p_eqI ?_ | with_reducible refine p_neI ?_ | with_reducible refine p_eqL (by first | decide +kernel | assumption) (by first | decide +kernel | assumption) ?_ | with_reducible refine p_neL (by first | decide +kernel | assumption) (by first | decide +kernel | assumption) ?_ | with_reducible refine p_eqT (by first | decide +kernel | assumption) (by first | decide +kernel | assumption) ?_ | with_reducible refine p_neT (by first | decide +kernel | assumption) (by first | decide +kernel | assumption) ?_ | with_reducible refine p_eqS (by first | decide +kernel | assumption) (by first | decide +kernel | assumption) ?_ | with_reducible refine p_neS (by first | decide +kernel | assumption) (by first | decide +kernel | assumption) ?_ | with_reducible refine p_isi (by with_unfolding_all rfl) (by decide) ?_ | with_reducible refine p_lmO (by first | assumption | exact sup_same) ?_ | with_reducible refine p_lmE (by first | assumption | exact sup_same) (by with_unfolding_all rfl) (by (first | exact True.intro | exact szl | (with_reducible assumption) | decide | (simp only [List.length_cons, List.length_nil]; first | exact szl | omega) | omega)) ?_ | with_reducible refine p_freeze (by with_unfolding_all rfl) (by first | assumption | exact sup_same) ?_ | with_reducible refine p_dispE (by assumption) (by with_unfolding_all rfl) ?_ | with_reducible refine p_getI (by with_unfolding_all rfl) ?_ | with_reducible refine p_getS (by with_unfolding_all rfl) (by with_unfolding_all rfl) (by first | with_unfolding_all rfl | with_unfolding_all assumption) ?_ | with_reducible refine p_getN (by with_unfolding_all rfl) (by with_unfolding_all rfl) (by first | with_unfolding_all rfl | with_unfolding_all assumption) ?_ | with_reducible refine p_r (by with_unfolding_all rfl) (by (first | exact True.intro | exact szl | (with_reducible assumption) | decide | (simp only [List.length_cons, List.length_nil]; first | exact szl | omega) | omega)) ?_ | with_reducible refine p_rc (by with_unfolding_all rfl) (by (first | exact True.intro | exact szl | (with_reducible assumption) | decide | (simp only [List.length_cons, List.length_nil]; first | exact szl | omega) | omega)) ?_ | with_reducible refine p_ixS (by first | assumption | exact sup_same) (by with_unfolding_all rfl) ?_ | with_reducible refine p_set (by first | assumption | exact sup_same) (by with_unfolding_all rfl) ?_ | with_reducible refine p_onE (by with_unfolding_all rfl) (by (first | exact True.intro | exact szl | (with_reducible assumption) | decide | (simp only [List.length_cons, List.length_nil]; first | exact szl | omega) | omega)) ?_ | with_reducible refine p_kgetS (by first | with_unfolding_all rfl | with_unfolding_all assumption) ?_ | with_reducible refine p_kinT (by first | with_unfolding_all rfl | with_unfolding_all assumption) ?_ | with_reducible refine p_kinF (by first | with_unfolding_all rfl | with_unfolding_all assumption) ?_ | with_reducible refine p_nkinT (by first | with_unfolding_all rfl | with_unfolding_all assumption) ?_ | with_reducible refine p_nkinF (by first | with_unfolding_all rfl | with_unfolding_all assumption) ?_ | with_reducible refine p_T (by with_unfolding_all rfl) ?_ | with_reducible refine p_F (by with_unfolding_all rfl) ?_ | with_reducible refine And.intro (a := List.length _ ≤ sizeLine) szl ?_ | with_reducible refine And.intro (a := List.length _ = _) (by with_unfolding_all rfl) ?_))
    exact to_bl (by with_unfolding_all rfl) q
  | check g m =>
    unfold RV.d
    (repeat' (first | with_reducible refine p_seq ?_ | with_reducible refine p_next ?_ | with_reducible refine p_var (by with_unfolding_all rfl) ?_ | with_reducible refine p_c ?_ | with_reducible refine p_op ?_ | with_reducible refine p_cb ?_ | with_reducible refine p_call ?_ | with_reducible refine p_cons ?_ | with_reducible refine p_nil ?_ | with_reducible refine p_tup ?_ | with_reducible refine p_lst ?_ | with_reducible refine p_b ?_ | with_reducible refine p_qb ?_ | with_reducible refine p_and ?_ | with_reducible refine p_or ?_ | with_reducible refine p_not ?_ | with_reducible refine p_andV ?_ | with_reducible refine p_orV ?_ | with_reducible refine p_notV ?_ | with_reducible refine p_if ?_ | with_reducible refine p_ifS ?_ | with_reducible refine p_un ?_ | with_reducible refine p_neg ?_ | with_reducible refine p_ret ?_ | with_reducible refine p_retN ?_ | with_reducible refine p_drop ?_ | with_reducible refine p_asg' ?_ | with_reducible refine p_par ?_ | with_reducible refine p_setI ?_ | with_reducible refine p_sl ?_ | with_reducible refine p_noPart ?_ | with_reducible refine p_part ?_ | with_reducible refine p_partI ?_ | with_reducible refine p_kin ?_ | with_reducible refine p_kget ?_ | with_reducible refine p_lm ?_ | with_reducible refine p_for ?_ | with_reducible refine p_seqI ?_ | with_reducible refine p_seqL ?_ | with_reducible refine p_seqT ?_ | with_reducible refine p_rng1 ?_ | with_reducible refine p_rng1I (by unfold rng1; first | decide | (constructor <;> omega)) ?_ | with_reducible refine p_yes ?_ | with_reducible refine p_chain ?_ | with_reducible refine p_callK ?_ | with_reducible refine p_lc ?_ | with_reducible refine p_disp fun _ hp0 => ?_ | with_reducible refine p_get2 ?_ | with_reducible refine p_bindM (by with_unfolding_all rfl) ?_ | with_reducible refine p_mulI (by first | decide | omega) (by first | decide | omega) ?_ | with_reducible refine p_mod (by first | decide | omega | assumption) ?_ | with_reducible refine p_sub ?_ | with_reducible refine p_min ?_ | with_reducible refine p_max ?_ | with_reducible refine p_ix0 ?_ | with_reducible refine p_ix0L ?_ | with_reducible refine p_inT (by first | decide +kernel | exact ⟨rfl, rfl⟩ | (simp [flD]; done)) ?_ | with_reducible refine p_notInT (by first | decide +kernel | exact ⟨rfl, rfl⟩ | (simp [flD]; done)) ?_ | with_reducible refine p_fdiv (by first | assumption | decide) ?_ | with_reducible refine p_pow (by unfold CPow; decide) ?_ | with_reducible refine p_lt ?_ | with_reducible refine p_le ?_ | with_reducible refine p_gt ?_ | with_reducible refine p_ge ?_ | with_reducible refine p_eqI ?_ | with_reducible refine p_neI ?_ | with_reducible refine p_eqL (by first | decide +kernel | assumption) (by first | decide +kernel | assumption) ?_ | with_reducible refine p_neL (by first | decide +kernel | assumption) (by first | decide +kernel | assumption) ?_ | with_reducible refine p_eqT (by first | decide +kernel | assumption) (by first | decide +kernel | assumption) ?_ | with_reducible refine p_neT (by first | decide +kernel | assumption) (by first | decide +kernel | assumption) ?_ | with_reducible refine p_eqS (by first | decide +kernel | assumption) (by first | decide +kernel | assumption) ?_ | with_reducible refine p_neS (by first | decide +kernel | assumption) (by first | decide +kernel | assumption) ?_ | with_reducible refine p_isi (by with_unfolding_all rfl) (by decide) ?_ | with_reducible refine p_lmO (by first | assumption | exact sup_same) ?_ | with_reducible refine p_lmE (by first | assumption | exact sup_same) (by with_unfolding_all rfl) (by (first | exact True.intro | exact szl | (with_reducible assumption) | decide | (simp only [List.length_cons, List.length_nil]; first | exact szl | omega) | omega)) ?_ | with_reducible refine p_freeze (by with_unfolding_all rfl) (by first | assumption | exact sup_same) ?_ | with_reducible refine p_dispE (by assumption) (by with_unfolding_all rfl) ?_ | with_reducible refine p_getI (by with_unfolding_all rfl) ?_ | with_reducible refine p_getS (by with_unfolding_all rfl) (by with_unfolding_all rfl) (by first | with_unfolding_all rfl | with_unfolding_all assumption) ?_ | with_reducible refine p_getN (by with_unfolding_all rfl) (by with_unfolding_all rfl) (by first | with_unfolding_all rfl | with_unfolding_all assumption) ?_ | with_reducible refine p_r (by with_unfolding_all rfl) (by (first | exact True.intro | exact szl | (with_reducible assumption) | decide | (simp only [List.length_cons, List.length_nil]; first | exact szl | omega) | omega)) ?_ | with_reducible refine p_rc (by with_unfolding_all rfl) (by (first | exact True.intro | exact szl | (with_reducible assumption) | decide | (simp only [List.length_cons, List.length_nil]; first | exact szl | omega) | omega)) ?_ | with_reducible refine p_ixS (by first | assumption | exact sup_same) (by with_unfolding_all rfl) ?_ | with_reducible refine p_set (by first | assumption | exact sup_same) (by with_unfolding_all rfl) ?_ | with_reducible refine p_onE (by with_unfolding_all rfl) (by (first | exact True.intro | exact szl | (with_reducible assumption) | decide | (simp only [List.length_cons, List.length_nil]; first | exact szl | omega) | omega)) ?_ | with_reducible refine p_kgetS (by first | with_unfolding_all rfl | with_unfolding_all assumption) ?_ | with_reducible refine p_kinT (by first | with_unfolding_all rfl | with_unfolding_all assumption) ?_ | with_reducible refine p_kinF (by first | with_unfolding_all rfl | with_unfolding_all assumption) ?_ | with_reducible refine p_nkinT (by first | with_unfolding_all rfl | with_unfolding_all assumption) ?_ | with_reducible refine p_nkinF (by first | with_unfolding_all rfl | with_unfolding_all assumption) ?_ | with_reducible refine p_T (by with_unfolding_all rfl) ?_ | with_reducible refine p_F (by with_unfolding_all rfl) ?_ | with_reducible refine And.intro (a := List.length _ ≤ sizeLine) szl ?_ | with_reducible refine And.intro (a := List.length _ = _) (by with_unfolding_all rfl) ?_))
    exact to_bl (by with_unfolding_all rfl) q
theorem EvOk.okd {r : RV} (h : EvOk r) : Okd r.d 1 168 := by
  cases r <;> (unfold RV.d; refine okd_tup (k := 0) (w := 31) (n := 5) (fun d hd => okB_okd ?_) (by simp))
  all_goals (simp only [List.mem_cons, List.not_mem_nil, or_false] at hd; simp only [EvOk] at h)
  · obtain ⟨h1, h2, h3, h4⟩ := h; rcases hd with rfl | rfl | rfl | rfl | rfl <;> first | assumption | decide +kernel
  · obtain ⟨h1, ⟨h2, _⟩, h3, h4⟩ := h; rcases hd with rfl | rfl | rfl | rfl | rfl <;> first | assumption | decide +kernel
  · obtain ⟨⟨h1, _⟩, h2, h3, h4⟩ := h; rcases hd with rfl | rfl | rfl | rfl | rfl <;> first | assumption | decide +kernel
  · obtain ⟨h1, h2, ⟨h3, _⟩, h4⟩ := h; rcases hd with rfl | rfl | rfl | rfl | rfl <;> first | assumption | decide +kernel
  · rcases hd with rfl | rfl <;> first | assumption | decide +kernel
  · obtain ⟨h1, h2⟩ := h; rcases hd with rfl | rfl | rfl <;> first | assumption | decide +kernel
  · obtain ⟨h1, h2⟩ := h; rcases hd with rfl | rfl | rfl <;> first | assumption | decide +kernel
  · obtain ⟨h1, h2, h3, h4⟩ := h; rcases hd with rfl | rfl | rfl | rfl | rfl <;> first | assumption | decide +kernel
  · obtain ⟨h1, h2, h3, h4⟩ := h; rcases hd with rfl | rfl | rfl | rfl | rfl <;> first | assumption | decide +kernel
  · obtain ⟨h1, h2⟩ := h; rcases hd with rfl | rfl | rfl <;> first | assumption | decide +kernel
theorem isd_ops : ∀ d ∈ opsD, ISD d := fun d h => by
  simp only [List.mem_cons, List.not_mem_nil, or_false] at h
  rcases h with rfl | rfl | rfl | rfl | rfl | rfl | rfl | rfl <;> first | exact .inl ⟨_, rfl⟩ | exact .inr ⟨_, rfl⟩
theorem isd_bases : ∀ d ∈ bases3, ISD d := fun d h => by
  simp only [List.mem_cons, List.not_mem_nil, or_false] at h
  rcases h with rfl | rfl | rfl | rfl <;> first | exact .inl ⟨_, rfl⟩ | exact .inr ⟨_, rfl⟩
theorem gen_ev {z n : Int} {r : RV} (hz : z ≤ 1000) (hn : n ≤ 1000) (h : GenRow z n r) : EvOk r := by
  have kn : ∀ d ∈ namesD, okB d = true := by decide +kernel
  have ks : ∀ d ∈ signsD, okB d = true := by decide +kernel
  have ko : ∀ d ∈ opsD, okB d = true := by decide +kernel
  have kb : ∀ d ∈ bases3, okB d = true := by decide +kernel
  have kg : ∀ d ∈ guardsD, okB d = true := by decide +kernel
  have km : ∀ d, Mk d → okB d = true := fun d ⟨k, e, h0, h1⟩ => by rw [e]; exact okB_int (by omega) (by omega)
  have kf : ∀ o, Offs z o → okB (.int o) = true := fun o ⟨h0, h1⟩ => okB_int (by omega) (by omega)
  cases r <;> simp only [GenRow] at h <;> simp only [EvOk]
  · obtain ⟨h1, h2, h3, h4⟩ := h
    refine ⟨kn _ h1, ks _ h2, ko _ h3, ?_⟩
    rcases h4 with h4 | ⟨k, rfl, a, b⟩
    · exact ko _ h4
    · exact okB_int (by omega) (by omega)
  · exact ⟨kn _ h.1, ⟨kb _ h.2.1, isd_bases _ h.2.1⟩, kf _ h.2.2.1, km _ h.2.2.2⟩
  · exact ⟨⟨kb _ h.1, isd_bases _ h.1⟩, kf _ h.2.1, ko _ h.2.2.1, km _ h.2.2.2⟩
  · exact ⟨kn _ h.1, ko _ h.2.1, ⟨ko _ h.2.2.1, isd_ops _ h.2.2.1⟩, km _ h.2.2.2⟩
  · exact ko _ h
  · exact ⟨ko _ h.1, okB_int (by omega) (by omega)⟩
  · exact ⟨ko _ h.1, okB_int (by omega) (by omega)⟩
  · exact ⟨kn _ h.1, kg _ h.2.1, kb _ h.2.2.1, kf _ h.2.2.2⟩
  · exact ⟨kn _ h.1, kg _ h.2.1, ko _ h.2.2.1, ko _ h.2.2.2⟩
  · exact ⟨kg _ h.1, km _ h.2⟩
theorem blk_okd {z n : Int} {b : List RV × WV} (hz : z ≤ 1000) (hn : n ≤ 1000) (h : GenBlk z n b) : Okd (blkD b) 3 1713 := by
  obtain ⟨h1, h2, h3⟩ := h
  refine okd_tup (k := 2) (w := 853) (n := 2) (fun d hd => ?_) (by simp)
  simp only [List.mem_cons, List.not_mem_nil, or_false] at hd
  rcases hd with rfl | rfl
  · refine okd_tup (k := 1) (w := 168) (n := 5) (fun d hd => ?_) (by simp; omega)
    obtain ⟨r, hr, rfl⟩ := List.mem_map.mp hd
    exact (gen_ev hz hn (h2 r hr)).okd
  · have : Okd b.2.d 1 69 := by
      cases e : b.2 with
      | go k =>
        rw [e] at h3
        refine okd_tup (k := 0) (w := 31) (n := 2) (fun d hd => okB_okd ?_) (by simp)
        simp only [List.mem_cons, List.not_mem_nil, or_false] at hd
        rcases hd with rfl | rfl
        · decide +kernel
        · exact okB_int (by have := h3.1; omega) (by have := h3.2; omega)
      | stop =>
        refine okd_tup (k := 0) (w := 31) (n := 2) (fun d hd => okB_okd ?_) (by simp)
        simp only [List.mem_cons, List.not_mem_nil, or_false] at hd
        subst hd
        decide +kernel
    exact this.mono
end Lk55

namespace Lk55
open PySem PySem.Spec PyProof.Rows L2 PL LSh

theorem yarn {ns : List Int} {S : Sto} {Q : QD} (hns : ns.length ≤ 63) (q : ∀ y S', S y = none → Yn ns y 0 S' → Only y S S' → Q (.ref y) S') : d__law_yarn [.scr (ns.map D.int)] S Q := yarn_y hns q
theorem prog' {ns : List Int} {y : Addr} {B : Nat} {S : Sto} {Q : QD} (hns : ns.length ≤ 63) (h : Yn ns y B S) (hB : B ≤ 800000000)
    (q : ∀ z n (bs : List (List RV × WV)) S', 1 ≤ z ∧ z ≤ 4 → 1 ≤ n ∧ n ≤ 4 → bs.length = n.toNat → (∀ b ∈ bs, GenBlk z n b) → Yn ns y (B + 300) S' → Keep y S S' → Q (.tup [.int z, .tup (bs.map blkD)]) S') : d__law_prog [.ref y] S Q := LSh.prog hns h hB q
theorem p_addL {xs ys : List D} {S : Sto} {Q : QD} (h : xs.length + ys.length ≤ 10000) (q : Q (.lst (xs ++ ys)) S) : rdP addD (.lst xs) (.lst ys) S Q := p_r rfl (szl h) q
theorem law_true (ns : List Int) (hns : ns.length ≤ 63) : d_law [.scr (ns.map D.int)] emptyS fun d _ => d = .bl true := by
  refine mkSp_of rfl ?_
  show r_law ⟨_, _, _, _⟩ [some (.scr (ns.map D.int)), none, none, none, none, none, none, none, none, none, none] emptyS
  unfold r_law
  (repeat' (first | with_reducible refine p_seq ?_ | with_reducible refine p_next ?_ | with_reducible refine p_var (by with_unfolding_all rfl) ?_ | with_reducible refine p_c ?_ | with_reducible refine p_op ?_ | with_reducible refine p_cb ?_ | with_reducible refine p_call ?_ | with_reducible refine p_cons ?_ | with_reducible refine p_nil ?_ | with_reducible refine p_tup ?_ | with_reducible refine p_lst ?_ | with_reducible refine p_b ?_ | with_reducible refine p_qb ?_ | with_reducible refine p_and ?_ | with_reducible refine p_or ?_ | with_reducible refine p_not ?_ | with_reducible refine p_andV ?_ | with_reducible refine p_orV ?_ | with_reducible refine p_notV ?_ | with_reducible refine p_if ?_ | with_reducible refine p_ifS ?_ | with_reducible refine p_un ?_ | with_reducible refine p_neg ?_ | with_reducible refine p_ret ?_ | with_reducible refine p_retN ?_ | with_reducible refine p_drop ?_ | with_reducible refine p_asg' ?_ | with_reducible refine p_par ?_ | with_reducible refine p_setI ?_ | with_reducible refine p_sl ?_ | with_reducible refine p_noPart ?_ | with_reducible refine p_part ?_ | with_reducible refine p_partI ?_ | with_reducible refine p_kin ?_ | with_reducible refine p_kget ?_ | with_reducible refine p_lm ?_ | with_reducible refine p_for ?_ | with_reducible refine p_seqI ?_ | with_reducible refine p_seqL ?_ | with_reducible refine p_seqT ?_ | with_reducible refine p_rng1 ?_ | with_reducible refine p_rng1I (by unfold rng1; first | decide | (constructor <;> omega)) ?_ | with_reducible refine p_yes ?_ | with_reducible refine p_chain ?_ | with_reducible refine p_callK ?_ | with_reducible refine p_lc ?_ | with_reducible refine p_disp fun _ hp0 => ?_ | with_reducible refine p_get2 ?_ | with_reducible refine p_bindM (by with_unfolding_all rfl) ?_ | with_reducible refine p_mulI (by first | decide | omega) (by first | decide | omega) ?_ | with_reducible refine p_mod (by first | decide | omega | assumption) ?_ | with_reducible refine p_sub ?_ | with_reducible refine p_min ?_ | with_reducible refine p_max ?_ | with_reducible refine p_ix0 ?_ | with_reducible refine p_ix0L ?_ | with_reducible refine p_inT (by first | decide +kernel | exact ⟨rfl, rfl⟩ | (simp [flD]; done)) ?_ | with_reducible refine p_notInT (by first | decide +kernel | exact ⟨rfl, rfl⟩ | (simp [flD]; done)) ?_ | with_reducible refine p_fdiv (by first | assumption | decide) ?_ | with_reducible refine p_pow (by unfold CPow; decide) ?_ | with_reducible refine p_lt ?_ | with_reducible refine p_le ?_ | with_reducible refine p_gt ?_ | with_reducible refine p_ge ?_ | with_reducible refine p_eqI ?_ | with_reducible refine p_neI ?_ | with_reducible refine p_eqL (by first | decide +kernel | assumption) (by first | decide +kernel | assumption) ?_ | with_reducible refine p_neL (by first | decide +kernel | assumption) (by first | decide +kernel | assumption) ?_ | with_reducible refine p_eqT (by first | decide +kernel | assumption) (by first | decide +kernel | assumption) ?_ | with_reducible refine p_neT (by first | decide +kernel | assumption) (by first | decide +kernel | assumption) ?_ | with_reducible refine p_eqS (by first | decide +kernel | assumption) (by first | decide +kernel | assumption) ?_ | with_reducible refine p_neS (by first | decide +kernel | assumption) (by first | decide +kernel | assumption) ?_ | with_reducible refine p_isi (by with_unfolding_all rfl) (by decide) ?_ | with_reducible refine p_lmO (by first | assumption | exact sup_same) ?_ | with_reducible refine p_lmE (by first | assumption | exact sup_same) (by with_unfolding_all rfl) (by (first | exact True.intro | exact szl | (with_reducible assumption) | decide | (simp only [List.length_cons, List.length_nil]; first | exact szl | omega) | omega)) ?_ | with_reducible refine p_freeze (by with_unfolding_all rfl) (by first | assumption | exact sup_same) ?_ | with_reducible refine p_dispE (by assumption) (by with_unfolding_all rfl) ?_ | with_reducible refine p_getI (by with_unfolding_all rfl) ?_ | with_reducible refine p_getS (by with_unfolding_all rfl) (by with_unfolding_all rfl) (by first | with_unfolding_all rfl | with_unfolding_all assumption) ?_ | with_reducible refine p_getN (by with_unfolding_all rfl) (by with_unfolding_all rfl) (by first | with_unfolding_all rfl | with_unfolding_all assumption) ?_ | with_reducible refine p_r (by with_unfolding_all rfl) (by (first | exact True.intro | exact szl | (with_reducible assumption) | decide | (simp only [List.length_cons, List.length_nil]; first | exact szl | omega) | omega)) ?_ | with_reducible refine p_rc (by with_unfolding_all rfl) (by (first | exact True.intro | exact szl | (with_reducible assumption) | decide | (simp only [List.length_cons, List.length_nil]; first | exact szl | omega) | omega)) ?_ | with_reducible refine p_ixS (by first | assumption | exact sup_same) (by with_unfolding_all rfl) ?_ | with_reducible refine p_set (by first | assumption | exact sup_same) (by with_unfolding_all rfl) ?_ | with_reducible refine p_onE (by with_unfolding_all rfl) (by (first | exact True.intro | exact szl | (with_reducible assumption) | decide | (simp only [List.length_cons, List.length_nil]; first | exact szl | omega) | omega)) ?_ | with_reducible refine p_kgetS (by first | with_unfolding_all rfl | with_unfolding_all assumption) ?_ | with_reducible refine p_kinT (by first | with_unfolding_all rfl | with_unfolding_all assumption) ?_ | with_reducible refine p_kinF (by first | with_unfolding_all rfl | with_unfolding_all assumption) ?_ | with_reducible refine p_nkinT (by first | with_unfolding_all rfl | with_unfolding_all assumption) ?_ | with_reducible refine p_nkinF (by first | with_unfolding_all rfl | with_unfolding_all assumption) ?_ | with_reducible refine p_T (by with_unfolding_all rfl) ?_ | with_reducible refine p_F (by with_unfolding_all rfl) ?_ | with_reducible refine And.intro (a := List.length _ ≤ sizeLine) szl ?_ | with_reducible refine And.intro (a := List.length _ = _) (by with_unfolding_all rfl) ?_ | refine yarn hns fun y S1 hy0 hY hO => ?_))
  refine for_inv (fun i env S => ∃ e2 e3 e4 e5 e6 e7 e8 e9 e10, env = [some (.scr (ns.map D.int)), some (.ref y), e2, e3, e4, e5, e6, e7, e8, e9, e10] ∧ Yn ns y (300 * i) S) ⟨_, _, _, _, _, _, _, _, _, rfl, hY⟩ (fun i d env S nx hd ⟨e2, e3, e4, e5, e6, e7, e8, e9, e10, he, hY⟩ hk => ?_) (fun env S ⟨e2, e3, e4, e5, e6, e7, e8, e9, e10, he, hY⟩ => ?_)
  · obtain ⟨hi, rfl⟩ := upto_get hd
    have hi : i < 3 := hi
    subst he
    refine ⟨_, rfl, ?_⟩
    (repeat' (first | with_reducible refine p_seq ?_ | with_reducible refine p_next ?_ | with_reducible refine p_var (by with_unfolding_all rfl) ?_ | with_reducible refine p_c ?_ | with_reducible refine p_op ?_ | with_reducible refine p_cb ?_ | with_reducible refine p_call ?_ | with_reducible refine p_cons ?_ | with_reducible refine p_nil ?_ | with_reducible refine p_tup ?_ | with_reducible refine p_lst ?_ | with_reducible refine p_b ?_ | with_reducible refine p_qb ?_ | with_reducible refine p_and ?_ | with_reducible refine p_or ?_ | with_reducible refine p_not ?_ | with_reducible refine p_andV ?_ | with_reducible refine p_orV ?_ | with_reducible refine p_notV ?_ | with_reducible refine p_if ?_ | with_reducible refine p_ifS ?_ | with_reducible refine p_un ?_ | with_reducible refine p_neg ?_ | with_reducible refine p_ret ?_ | with_reducible refine p_retN ?_ | with_reducible refine p_drop ?_ | with_reducible refine p_asg' ?_ | with_reducible refine p_par ?_ | with_reducible refine p_setI ?_ | with_reducible refine p_sl ?_ | with_reducible refine p_noPart ?_ | with_reducible refine p_part ?_ | with_reducible refine p_partI ?_ | with_reducible refine p_kin ?_ | with_reducible refine p_kget ?_ | with_reducible refine p_lm ?_ | with_reducible refine p_for ?_ | with_reducible refine p_seqI ?_ | with_reducible refine p_seqL ?_ | with_reducible refine p_seqT ?_ | with_reducible refine p_rng1 ?_ | with_reducible refine p_rng1I (by unfold rng1; first | decide | (constructor <;> omega)) ?_ | with_reducible refine p_yes ?_ | with_reducible refine p_chain ?_ | with_reducible refine p_callK ?_ | with_reducible refine p_lc ?_ | with_reducible refine p_disp fun _ hp0 => ?_ | with_reducible refine p_get2 ?_ | with_reducible refine p_bindM (by with_unfolding_all rfl) ?_ | with_reducible refine p_mulI (by first | decide | omega) (by first | decide | omega) ?_ | with_reducible refine p_mod (by first | decide | omega | assumption) ?_ | with_reducible refine p_sub ?_ | with_reducible refine p_min ?_ | with_reducible refine p_max ?_ | with_reducible refine p_ix0 ?_ | with_reducible refine p_ix0L ?_ | with_reducible refine p_inT (by first | decide +kernel | exact ⟨rfl, rfl⟩ | (simp [flD]; done)) ?_ | with_reducible refine p_notInT (by first | decide +kernel | exact ⟨rfl, rfl⟩ | (simp [flD]; done)) ?_ | with_reducible refine p_fdiv (by first | assumption | decide) ?_ | with_reducible refine p_pow (by unfold CPow; decide) ?_ | with_reducible refine p_lt ?_ | with_reducible refine p_le ?_ | with_reducible refine p_gt ?_ | with_reducible refine p_ge ?_ | with_reducible refine p_eqI ?_ | with_reducible refine p_neI ?_ | with_reducible refine p_eqL (by first | decide +kernel | assumption) (by first | decide +kernel | assumption) ?_ | with_reducible refine p_neL (by first | decide +kernel | assumption) (by first | decide +kernel | assumption) ?_ | with_reducible refine p_eqT (by first | decide +kernel | assumption) (by first | decide +kernel | assumption) ?_ | with_reducible refine p_neT (by first | decide +kernel | assumption) (by first | decide +kernel | assumption) ?_ | with_reducible refine p_eqS (by first | decide +kernel | assumption) (by first | decide +kernel | assumption) ?_ | with_reducible refine p_neS (by first | decide +kernel | assumption) (by first | decide +kernel | assumption) ?_ | with_reducible refine p_isi (by with_unfolding_all rfl) (by decide) ?_ | with_reducible refine p_lmO (by first | assumption | exact sup_same) ?_ | with_reducible refine p_lmE (by first | assumption | exact sup_same) (by with_unfolding_all rfl) (by (first | exact True.intro | exact szl | (with_reducible assumption) | decide | (simp only [List.length_cons, List.length_nil]; first | exact szl | omega) | omega)) ?_ | with_reducible refine p_freeze (by with_unfolding_all rfl) (by first | assumption | exact sup_same) ?_ | with_reducible refine p_dispE (by assumption) (by with_unfolding_all rfl) ?_ | with_reducible refine p_getI (by with_unfolding_all rfl) ?_ | with_reducible refine p_getS (by with_unfolding_all rfl) (by with_unfolding_all rfl) (by first | with_unfolding_all rfl | with_unfolding_all assumption) ?_ | with_reducible refine p_getN (by with_unfolding_all rfl) (by with_unfolding_all rfl) (by first | with_unfolding_all rfl | with_unfolding_all assumption) ?_ | with_reducible refine p_r (by with_unfolding_all rfl) (by (first | exact True.intro | exact szl | (with_reducible assumption) | decide | (simp only [List.length_cons, List.length_nil]; first | exact szl | omega) | omega)) ?_ | with_reducible refine p_rc (by with_unfolding_all rfl) (by (first | exact True.intro | exact szl | (with_reducible assumption) | decide | (simp only [List.length_cons, List.length_nil]; first | exact szl | omega) | omega)) ?_ | with_reducible refine p_ixS (by first | assumption | exact sup_same) (by with_unfolding_all rfl) ?_ | with_reducible refine p_set (by first | assumption | exact sup_same) (by with_unfolding_all rfl) ?_ | with_reducible refine p_onE (by with_unfolding_all rfl) (by (first | exact True.intro | exact szl | (with_reducible assumption) | decide | (simp only [List.length_cons, List.length_nil]; first | exact szl | omega) | omega)) ?_ | with_reducible refine p_kgetS (by first | with_unfolding_all rfl | with_unfolding_all assumption) ?_ | with_reducible refine p_kinT (by first | with_unfolding_all rfl | with_unfolding_all assumption) ?_ | with_reducible refine p_kinF (by first | with_unfolding_all rfl | with_unfolding_all assumption) ?_ | with_reducible refine p_nkinT (by first | with_unfolding_all rfl | with_unfolding_all assumption) ?_ | with_reducible refine p_nkinF (by first | with_unfolding_all rfl | with_unfolding_all assumption) ?_ | with_reducible refine p_T (by with_unfolding_all rfl) ?_ | with_reducible refine p_F (by with_unfolding_all rfl) ?_ | with_reducible refine And.intro (a := List.length _ ≤ sizeLine) szl ?_ | with_reducible refine And.intro (a := List.length _ = _) (by with_unfolding_all rfl) ?_ | refine prog' hns hY (by omega) fun z n bs S4 hz hn hl hb hY4 hK => ?_))
    refine for_inv (fun j env S => ∃ (rs : List RV) (e6 : Option D), env = [some (.scr (ns.map D.int)), some (.ref y), some (.int i), some (.tup [.int z, .tup (bs.map blkD)]), some (.int z), some (.lst (rs.map RV.d)), e6, e7, e8, e9, e10] ∧ (∀ r ∈ rs, EvOk r) ∧ rs.length ≤ 5 * j ∧ Yn ns y (300 * (i + 1)) S) ⟨[], e6, rfl, by simp, by simp, hY4.up (by omega)⟩ (fun j d env S nx' hd ⟨rs, e6, he, h1, h2, hY⟩ hk' => ?_) (fun env S ⟨rs, e6, he, h1, h2, hY⟩ => ?_)
    · obtain ⟨b, hb1, rfl⟩ := List.mem_map.mp (List.mem_of_getElem? hd)
      have hj : j < 4 := by
        have := (List.getElem?_eq_some_iff.mp hd).1
        rw [List.length_map, hl] at this
        omega
      obtain ⟨g1, g2, g3⟩ := hb b hb1
      subst he
      refine ⟨_, rfl, ?_⟩
      have e : blkD b = .tup [.tup (b.1.map RV.d), b.2.d] := rfl
      rw [e]
      (repeat' (first | refine p_addL (by rw [List.length_map, List.length_map]; omega) ?_ | with_reducible refine p_seq ?_ | with_reducible refine p_next ?_ | with_reducible refine p_var (by with_unfolding_all rfl) ?_ | with_reducible refine p_c ?_ | with_reducible refine p_op ?_ | with_reducible refine p_cb ?_ | with_reducible refine p_call ?_ | with_reducible refine p_cons ?_ | with_reducible refine p_nil ?_ | with_reducible refine p_tup ?_ | with_reducible refine p_lst ?_ | with_reducible refine p_b ?_ | with_reducible refine p_qb ?_ | with_reducible refine p_and ?_ | with_reducible refine p_or ?_ | with_reducible refine p_not ?_ | with_reducible refine p_andV ?_ | with_reducible refine p_orV ?_ | with_reducible refine p_notV ?_ | with_reducible refine p_if ?_ | with_reducible refine p_ifS ?_ | with_reducible refine p_un ?_ | with_reducible refine p_neg ?_ | with_reducible refine p_ret ?_ | with_reducible refine p_retN ?_ | with_reducible refine p_drop ?_ | with_reducible refine p_asg' ?_ | with_reducible refine p_par ?_ | with_reducible refine p_setI ?_ | with_reducible refine p_sl ?_ | with_reducible refine p_noPart ?_ | with_reducible refine p_part ?_ | with_reducible refine p_partI ?_ | with_reducible refine p_kin ?_ | with_reducible refine p_kget ?_ | with_reducible refine p_lm ?_ | with_reducible refine p_for ?_ | with_reducible refine p_seqI ?_ | with_reducible refine p_seqL ?_ | with_reducible refine p_seqT ?_ | with_reducible refine p_rng1 ?_ | with_reducible refine p_rng1I (by unfold rng1; first | decide | (constructor <;> omega)) ?_ | with_reducible refine p_yes ?_ | with_reducible refine p_chain ?_ | with_reducible refine p_callK ?_ | with_reducible refine p_lc ?_ | with_reducible refine p_disp fun _ hp0 => ?_ | with_reducible refine p_get2 ?_ | with_reducible refine p_bindM (by with_unfolding_all rfl) ?_ | with_reducible refine p_mulI (by first | decide | omega) (by first | decide | omega) ?_ | with_reducible refine p_mod (by first | decide | omega | assumption) ?_ | with_reducible refine p_sub ?_ | with_reducible refine p_min ?_ | with_reducible refine p_max ?_ | with_reducible refine p_ix0 ?_ | with_reducible refine p_ix0L ?_ | with_reducible refine p_inT (by first | decide +kernel | exact ⟨rfl, rfl⟩ | (simp [flD]; done)) ?_ | with_reducible refine p_notInT (by first | decide +kernel | exact ⟨rfl, rfl⟩ | (simp [flD]; done)) ?_ | with_reducible refine p_fdiv (by first | assumption | decide) ?_ | with_reducible refine p_pow (by unfold CPow; decide) ?_ | with_reducible refine p_lt ?_ | with_reducible refine p_le ?_ | with_reducible refine p_gt ?_ | with_reducible refine p_ge ?_ | with_reducible refine p_eqI ?_ | with_reducible refine p_neI ?_ | with_reducible refine p_eqL (by first | decide +kernel | assumption) (by first | decide +kernel | assumption) ?_ | with_reducible refine p_neL (by first | decide +kernel | assumption) (by first | decide +kernel | assumption) ?_ | with_reducible refine p_eqT (by first | decide +kernel | assumption) (by first | decide +kernel | assumption) ?_ | with_reducible refine p_neT (by first | decide +kernel | assumption) (by first | decide +kernel | assumption) ?_ | with_reducible refine p_eqS (by first | decide +kernel | assumption) (by first | decide +kernel | assumption) ?_ | with_reducible refine p_neS (by first | decide +kernel | assumption) (by first | decide +kernel | assumption) ?_ | with_reducible refine p_isi (by with_unfolding_all rfl) (by decide) ?_ | with_reducible refine p_lmO (by first | assumption | exact sup_same) ?_ | with_reducible refine p_lmE (by first | assumption | exact sup_same) (by with_unfolding_all rfl) (by (first | exact True.intro | exact szl | (with_reducible assumption) | decide | (simp only [List.length_cons, List.length_nil]; first | exact szl | omega) | omega)) ?_ | with_reducible refine p_freeze (by with_unfolding_all rfl) (by first | assumption | exact sup_same) ?_ | with_reducible refine p_dispE (by assumption) (by with_unfolding_all rfl) ?_ | with_reducible refine p_getI (by with_unfolding_all rfl) ?_ | with_reducible refine p_getS (by with_unfolding_all rfl) (by with_unfolding_all rfl) (by first | with_unfolding_all rfl | with_unfolding_all assumption) ?_ | with_reducible refine p_getN (by with_unfolding_all rfl) (by with_unfolding_all rfl) (by first | with_unfolding_all rfl | with_unfolding_all assumption) ?_ | with_reducible refine p_r (by with_unfolding_all rfl) (by (first | exact True.intro | exact szl | (with_reducible assumption) | decide | (simp only [List.length_cons, List.length_nil]; first | exact szl | omega) | omega)) ?_ | with_reducible refine p_rc (by with_unfolding_all rfl) (by (first | exact True.intro | exact szl | (with_reducible assumption) | decide | (simp only [List.length_cons, List.length_nil]; first | exact szl | omega) | omega)) ?_ | with_reducible refine p_ixS (by first | assumption | exact sup_same) (by with_unfolding_all rfl) ?_ | with_reducible refine p_set (by first | assumption | exact sup_same) (by with_unfolding_all rfl) ?_ | with_reducible refine p_onE (by with_unfolding_all rfl) (by (first | exact True.intro | exact szl | (with_reducible assumption) | decide | (simp only [List.length_cons, List.length_nil]; first | exact szl | omega) | omega)) ?_ | with_reducible refine p_kgetS (by first | with_unfolding_all rfl | with_unfolding_all assumption) ?_ | with_reducible refine p_kinT (by first | with_unfolding_all rfl | with_unfolding_all assumption) ?_ | with_reducible refine p_kinF (by first | with_unfolding_all rfl | with_unfolding_all assumption) ?_ | with_reducible refine p_nkinT (by first | with_unfolding_all rfl | with_unfolding_all assumption) ?_ | with_reducible refine p_nkinF (by first | with_unfolding_all rfl | with_unfolding_all assumption) ?_ | with_reducible refine p_T (by with_unfolding_all rfl) ?_ | with_reducible refine p_F (by with_unfolding_all rfl) ?_ | with_reducible refine And.intro (a := List.length _ ≤ sizeLine) szl ?_ | with_reducible refine And.intro (a := List.length _ = _) (by with_unfolding_all rfl) ?_))
      refine hk' _ _ ⟨rs ++ b.1, _, by rw [List.map_append]; rfl, fun r hr => ?_, by rw [List.length_append]; omega, hY⟩
      rcases List.mem_append.mp hr with h | h
      · exact h1 r h
      · exact gen_ev (by omega) (by omega) (g2 r h)
    · subst he
      have hl4 : (bs.map blkD).length ≤ 4 := by rw [List.length_map, hl]; omega
      have h2 : rs.length ≤ 20 := by omega
      (repeat' (first | with_reducible refine p_seq ?_ | with_reducible refine p_next ?_ | with_reducible refine p_var (by with_unfolding_all rfl) ?_ | with_reducible refine p_c ?_ | with_reducible refine p_op ?_ | with_reducible refine p_cb ?_ | with_reducible refine p_call ?_ | with_reducible refine p_cons ?_ | with_reducible refine p_nil ?_ | with_reducible refine p_tup ?_ | with_reducible refine p_lst ?_ | with_reducible refine p_b ?_ | with_reducible refine p_qb ?_ | with_reducible refine p_and ?_ | with_reducible refine p_or ?_ | with_reducible refine p_not ?_ | with_reducible refine p_andV ?_ | with_reducible refine p_orV ?_ | with_reducible refine p_notV ?_ | with_reducible refine p_if ?_ | with_reducible refine p_ifS ?_ | with_reducible refine p_un ?_ | with_reducible refine p_neg ?_ | with_reducible refine p_ret ?_ | with_reducible refine p_retN ?_ | with_reducible refine p_drop ?_ | with_reducible refine p_asg' ?_ | with_reducible refine p_par ?_ | with_reducible refine p_setI ?_ | with_reducible refine p_sl ?_ | with_reducible refine p_noPart ?_ | with_reducible refine p_part ?_ | with_reducible refine p_partI ?_ | with_reducible refine p_kin ?_ | with_reducible refine p_kget ?_ | with_reducible refine p_lm ?_ | with_reducible refine p_for ?_ | with_reducible refine p_seqI ?_ | with_reducible refine p_seqL ?_ | with_reducible refine p_seqT ?_ | with_reducible refine p_rng1 ?_ | with_reducible refine p_rng1I (by unfold rng1; first | decide | (constructor <;> omega)) ?_ | with_reducible refine p_yes ?_ | with_reducible refine p_chain ?_ | with_reducible refine p_callK ?_ | with_reducible refine p_lc ?_ | with_reducible refine p_disp fun _ hp0 => ?_ | with_reducible refine p_get2 ?_ | with_reducible refine p_bindM (by with_unfolding_all rfl) ?_ | with_reducible refine p_mulI (by first | decide | omega) (by first | decide | omega) ?_ | with_reducible refine p_mod (by first | decide | omega | assumption) ?_ | with_reducible refine p_sub ?_ | with_reducible refine p_min ?_ | with_reducible refine p_max ?_ | with_reducible refine p_ix0 ?_ | with_reducible refine p_ix0L ?_ | with_reducible refine p_inT (by first | decide +kernel | exact ⟨rfl, rfl⟩ | (simp [flD]; done)) ?_ | with_reducible refine p_notInT (by first | decide +kernel | exact ⟨rfl, rfl⟩ | (simp [flD]; done)) ?_ | with_reducible refine p_fdiv (by first | assumption | decide) ?_ | with_reducible refine p_pow (by unfold CPow; decide) ?_ | with_reducible refine p_lt ?_ | with_reducible refine p_le ?_ | with_reducible refine p_gt ?_ | with_reducible refine p_ge ?_ | with_reducible refine p_eqI ?_ | with_reducible refine p_neI ?_ | with_reducible refine p_eqL (by first | decide +kernel | assumption) (by first | decide +kernel | assumption) ?_ | with_reducible refine p_neL (by first | decide +kernel | assumption) (by first | decide +kernel | assumption) ?_ | with_reducible refine p_eqT (by first | decide +kernel | assumption) (by first | decide +kernel | assumption) ?_ | with_reducible refine p_neT (by first | decide +kernel | assumption) (by first | decide +kernel | assumption) ?_ | with_reducible refine p_eqS (by first | decide +kernel | assumption) (by first | decide +kernel | assumption) ?_ | with_reducible refine p_neS (by first | decide +kernel | assumption) (by first | decide +kernel | assumption) ?_ | with_reducible refine p_isi (by with_unfolding_all rfl) (by decide) ?_ | with_reducible refine p_lmO (by first | assumption | exact sup_same) ?_ | with_reducible refine p_lmE (by first | assumption | exact sup_same) (by with_unfolding_all rfl) (by (first | exact True.intro | exact szl | (with_reducible assumption) | decide | (simp only [List.length_cons, List.length_nil]; first | exact szl | omega) | omega)) ?_ | with_reducible refine p_freeze (by with_unfolding_all rfl) (by first | assumption | exact sup_same) ?_ | with_reducible refine p_dispE (by assumption) (by with_unfolding_all rfl) ?_ | with_reducible refine p_getI (by with_unfolding_all rfl) ?_ | with_reducible refine p_getS (by with_unfolding_all rfl) (by with_unfolding_all rfl) (by first | with_unfolding_all rfl | with_unfolding_all assumption) ?_ | with_reducible refine p_getN (by with_unfolding_all rfl) (by with_unfolding_all rfl) (by first | with_unfolding_all rfl | with_unfolding_all assumption) ?_ | with_reducible refine p_r (by with_unfolding_all rfl) (by (first | exact True.intro | exact szl | (with_reducible assumption) | decide | (simp only [List.length_cons, List.length_nil]; first | exact szl | omega) | omega)) ?_ | with_reducible refine p_rc (by with_unfolding_all rfl) (by (first | exact True.intro | exact szl | (with_reducible assumption) | decide | (simp only [List.length_cons, List.length_nil]; first | exact szl | omega) | omega)) ?_ | with_reducible refine p_ixS (by first | assumption | exact sup_same) (by with_unfolding_all rfl) ?_ | with_reducible refine p_set (by first | assumption | exact sup_same) (by with_unfolding_all rfl) ?_ | with_reducible refine p_onE (by with_unfolding_all rfl) (by (first | exact True.intro | exact szl | (with_reducible assumption) | decide | (simp only [List.length_cons, List.length_nil]; first | exact szl | omega) | omega)) ?_ | with_reducible refine p_kgetS (by first | with_unfolding_all rfl | with_unfolding_all assumption) ?_ | with_reducible refine p_kinT (by first | with_unfolding_all rfl | with_unfolding_all assumption) ?_ | with_reducible refine p_kinF (by first | with_unfolding_all rfl | with_unfolding_all assumption) ?_ | with_reducible refine p_nkinT (by first | with_unfolding_all rfl | with_unfolding_all assumption) ?_ | with_reducible refine p_nkinF (by first | with_unfolding_all rfl | with_unfolding_all assumption) ?_ | with_reducible refine p_T (by with_unfolding_all rfl) ?_ | with_reducible refine p_F (by with_unfolding_all rfl) ?_ | with_reducible refine And.intro (a := List.length _ ≤ sizeLine) szl ?_ | with_reducible refine And.intro (a := List.length _ = _) (by with_unfolding_all rfl) ?_))
      refine for_inv (fun j env S => ∃ (rs : List RV) (e7 : Option D), env = [some (.scr (ns.map D.int)), some (.ref y), some (.int i), some (.tup [.int z, .tup (bs.map blkD)]), some (.int z), some (.lst (rs.map RV.d)), e6, e7, e8, e9, e10] ∧ (∀ r ∈ rs, EvOk r) ∧ rs.length ≤ 20 + 8 * j ∧ Yn ns y (300 * (i + 1)) S) ⟨rs, e7, rfl, h1, h2, hY⟩ (fun j d env S nx' hd ⟨rs, e7, he, h1, h2, hY⟩ hk' => ?_) (fun env S ⟨rs, e7, he, h1, h2, hY⟩ => ?_)
      · have hj : j < 5 := (List.getElem?_eq_some_iff.mp hd).1
        have hd2 : ∃ k : Int, d = .int k ∧ -1 ≤ k ∧ k ≤ 5 := by
          have := List.mem_of_getElem? hd
          simp only [List.mem_cons, List.not_mem_nil, or_false] at this
          rcases this with rfl | rfl | rfl | rfl | rfl <;> exact ⟨_, rfl, by omega, by omega⟩
        obtain ⟨k, rfl, k0, k1⟩ := hd2
        have kk : okB (.int k) = true := okB_int (by omega) (by omega)
        subst he
        refine ⟨_, rfl, ?_⟩
        (repeat' (first | refine p_addL (by simp; omega) ?_ | with_reducible refine p_seq ?_ | with_reducible refine p_next ?_ | with_reducible refine p_var (by with_unfolding_all rfl) ?_ | with_reducible refine p_c ?_ | with_reducible refine p_op ?_ | with_reducible refine p_cb ?_ | with_reducible refine p_call ?_ | with_reducible refine p_cons ?_ | with_reducible refine p_nil ?_ | with_reducible refine p_tup ?_ | with_reducible refine p_lst ?_ | with_reducible refine p_b ?_ | with_reducible refine p_qb ?_ | with_reducible refine p_and ?_ | with_reducible refine p_or ?_ | with_reducible refine p_not ?_ | with_reducible refine p_andV ?_ | with_reducible refine p_orV ?_ | with_reducible refine p_notV ?_ | with_reducible refine p_if ?_ | with_reducible refine p_ifS ?_ | with_reducible refine p_un ?_ | with_reducible refine p_neg ?_ | with_reducible refine p_ret ?_ | with_reducible refine p_retN ?_ | with_reducible refine p_drop ?_ | with_reducible refine p_asg' ?_ | with_reducible refine p_par ?_ | with_reducible refine p_setI ?_ | with_reducible refine p_sl ?_ | with_reducible refine p_noPart ?_ | with_reducible refine p_part ?_ | with_reducible refine p_partI ?_ | with_reducible refine p_kin ?_ | with_reducible refine p_kget ?_ | with_reducible refine p_lm ?_ | with_reducible refine p_for ?_ | with_reducible refine p_seqI ?_ | with_reducible refine p_seqL ?_ | with_reducible refine p_seqT ?_ | with_reducible refine p_rng1 ?_ | with_reducible refine p_rng1I (by unfold rng1; first | decide | (constructor <;> omega)) ?_ | with_reducible refine p_yes ?_ | with_reducible refine p_chain ?_ | with_reducible refine p_callK ?_ | with_reducible refine p_lc ?_ | with_reducible refine p_disp fun _ hp0 => ?_ | with_reducible refine p_get2 ?_ | with_reducible refine p_bindM (by with_unfolding_all rfl) ?_ | with_reducible refine p_mulI (by first | decide | omega) (by first | decide | omega) ?_ | with_reducible refine p_mod (by first | decide | omega | assumption) ?_ | with_reducible refine p_sub ?_ | with_reducible refine p_min ?_ | with_reducible refine p_max ?_ | with_reducible refine p_ix0 ?_ | with_reducible refine p_ix0L ?_ | with_reducible refine p_inT (by first | decide +kernel | exact ⟨rfl, rfl⟩ | (simp [flD]; done)) ?_ | with_reducible refine p_notInT (by first | decide +kernel | exact ⟨rfl, rfl⟩ | (simp [flD]; done)) ?_ | with_reducible refine p_fdiv (by first | assumption | decide) ?_ | with_reducible refine p_pow (by unfold CPow; decide) ?_ | with_reducible refine p_lt ?_ | with_reducible refine p_le ?_ | with_reducible refine p_gt ?_ | with_reducible refine p_ge ?_ | with_reducible refine p_eqI ?_ | with_reducible refine p_neI ?_ | with_reducible refine p_eqL (by first | decide +kernel | assumption) (by first | decide +kernel | assumption) ?_ | with_reducible refine p_neL (by first | decide +kernel | assumption) (by first | decide +kernel | assumption) ?_ | with_reducible refine p_eqT (by first | decide +kernel | assumption) (by first | decide +kernel | assumption) ?_ | with_reducible refine p_neT (by first | decide +kernel | assumption) (by first | decide +kernel | assumption) ?_ | with_reducible refine p_eqS (by first | decide +kernel | assumption) (by first | decide +kernel | assumption) ?_ | with_reducible refine p_neS (by first | decide +kernel | assumption) (by first | decide +kernel | assumption) ?_ | with_reducible refine p_isi (by with_unfolding_all rfl) (by decide) ?_ | with_reducible refine p_lmO (by first | assumption | exact sup_same) ?_ | with_reducible refine p_lmE (by first | assumption | exact sup_same) (by with_unfolding_all rfl) (by (first | exact True.intro | exact szl | (with_reducible assumption) | decide | (simp only [List.length_cons, List.length_nil]; first | exact szl | omega) | omega)) ?_ | with_reducible refine p_freeze (by with_unfolding_all rfl) (by first | assumption | exact sup_same) ?_ | with_reducible refine p_dispE (by assumption) (by with_unfolding_all rfl) ?_ | with_reducible refine p_getI (by with_unfolding_all rfl) ?_ | with_reducible refine p_getS (by with_unfolding_all rfl) (by with_unfolding_all rfl) (by first | with_unfolding_all rfl | with_unfolding_all assumption) ?_ | with_reducible refine p_getN (by with_unfolding_all rfl) (by with_unfolding_all rfl) (by first | with_unfolding_all rfl | with_unfolding_all assumption) ?_ | with_reducible refine p_r (by with_unfolding_all rfl) (by (first | exact True.intro | exact szl | (with_reducible assumption) | decide | (simp only [List.length_cons, List.length_nil]; first | exact szl | omega) | omega)) ?_ | with_reducible refine p_rc (by with_unfolding_all rfl) (by (first | exact True.intro | exact szl | (with_reducible assumption) | decide | (simp only [List.length_cons, List.length_nil]; first | exact szl | omega) | omega)) ?_ | with_reducible refine p_ixS (by first | assumption | exact sup_same) (by with_unfolding_all rfl) ?_ | with_reducible refine p_set (by first | assumption | exact sup_same) (by with_unfolding_all rfl) ?_ | with_reducible refine p_onE (by with_unfolding_all rfl) (by (first | exact True.intro | exact szl | (with_reducible assumption) | decide | (simp only [List.length_cons, List.length_nil]; first | exact szl | omega) | omega)) ?_ | with_reducible refine p_kgetS (by first | with_unfolding_all rfl | with_unfolding_all assumption) ?_ | with_reducible refine p_kinT (by first | with_unfolding_all rfl | with_unfolding_all assumption) ?_ | with_reducible refine p_kinF (by first | with_unfolding_all rfl | with_unfolding_all assumption) ?_ | with_reducible refine p_nkinT (by first | with_unfolding_all rfl | with_unfolding_all assumption) ?_ | with_reducible refine p_nkinF (by first | with_unfolding_all rfl | with_unfolding_all assumption) ?_ | with_reducible refine p_T (by with_unfolding_all rfl) ?_ | with_reducible refine p_F (by with_unfolding_all rfl) ?_ | with_reducible refine And.intro (a := List.length _ ≤ sizeLine) szl ?_ | with_reducible refine And.intro (a := List.length _ = _) (by with_unfolding_all rfl) ?_))
        refine hk' _ _ ⟨rs ++ [.load (.str "a") (.int 0) k (.int 1), .store (.int 0) k (.str "b") (.int 2), .load (.str "a") (.int k) 0 (.int 0), .store (.int k) (-1) (.int 5) (.int 3), .qload (.str "a") (.str "f") (.int 0) k, .div (.str "a") (.int 5) (.int k) (.int 4), .qdiv (.str "a") (.str "f") (.int 1) (.int k), .load (.str "a") (.str "a") k (.int 0)], _, by simp only [List.map_append, List.append_assoc]; rfl, fun r hr => ?_, by simp; omega, hY⟩
        rcases List.mem_append.mp hr with h | h
        · exact h1 r h
        · simp only [List.mem_cons, List.not_mem_nil, or_false] at h
          rcases h with rfl | rfl | rfl | rfl | rfl | rfl | rfl | rfl
          · exact ⟨by decide +kernel, ⟨by decide +kernel, .inl ⟨_, rfl⟩⟩, kk, by decide +kernel⟩
          · exact ⟨⟨by decide +kernel, .inl ⟨_, rfl⟩⟩, kk, by decide +kernel, by decide +kernel⟩
          · exact ⟨by decide +kernel, ⟨kk, .inl ⟨_, rfl⟩⟩, by decide +kernel, by decide +kernel⟩
          · exact ⟨⟨kk, .inl ⟨_, rfl⟩⟩, by decide +kernel, by decide +kernel, by decide +kernel⟩
          · exact ⟨by decide +kernel, by decide +kernel, by decide +kernel, kk⟩
          · exact ⟨by decide +kernel, by decide +kernel, ⟨kk, .inl ⟨_, rfl⟩⟩, by decide +kernel⟩
          · exact ⟨by decide +kernel, by decide +kernel, by decide +kernel, kk⟩
          · exact ⟨by decide +kernel, ⟨by decide +kernel, .inr ⟨_, rfl⟩⟩, kk, by decide +kernel⟩
      · subst he
        have h2 : rs.length ≤ 60 := h2
        (repeat' (first | refine p_addL (by simp; omega) ?_ | with_reducible refine p_seq ?_ | with_reducible refine p_next ?_ | with_reducible refine p_var (by with_unfolding_all rfl) ?_ | with_reducible refine p_c ?_ | with_reducible refine p_op ?_ | with_reducible refine p_cb ?_ | with_reducible refine p_call ?_ | with_reducible refine p_cons ?_ | with_reducible refine p_nil ?_ | with_reducible refine p_tup ?_ | with_reducible refine p_lst ?_ | with_reducible refine p_b ?_ | with_reducible refine p_qb ?_ | with_reducible refine p_and ?_ | with_reducible refine p_or ?_ | with_reducible refine p_not ?_ | with_reducible refine p_andV ?_ | with_reducible refine p_orV ?_ | with_reducible refine p_notV ?_ | with_reducible refine p_if ?_ | with_reducible refine p_ifS ?_ | with_reducible refine p_un ?_ | with_reducible refine p_neg ?_ | with_reducible refine p_ret ?_ | with_reducible refine p_retN ?_ | with_reducible refine p_drop ?_ | with_reducible refine p_asg' ?_ | with_reducible refine p_par ?_ | with_reducible refine p_setI ?_ | with_reducible refine p_sl ?_ | with_reducible refine p_noPart ?_ | with_reducible refine p_part ?_ | with_reducible refine p_partI ?_ | with_reducible refine p_kin ?_ | with_reducible refine p_kget ?_ | with_reducible refine p_lm ?_ | with_reducible refine p_for ?_ | with_reducible refine p_seqI ?_ | with_reducible refine p_seqL ?_ | with_reducible refine p_seqT ?_ | with_reducible refine p_rng1 ?_ | with_reducible refine p_rng1I (by unfold rng1; first | decide | (constructor <;> omega)) ?_ | with_reducible refine p_yes ?_ | with_reducible refine p_chain ?_ | with_reducible refine p_callK ?_ | with_reducible refine p_lc ?_ | with_reducible refine p_disp fun _ hp0 => ?_ | with_reducible refine p_get2 ?_ | with_reducible refine p_bindM (by with_unfolding_all rfl) ?_ | with_reducible refine p_mulI (by first | decide | omega) (by first | decide | omega) ?_ | with_reducible refine p_mod (by first | decide | omega | assumption) ?_ | with_reducible refine p_sub ?_ | with_reducible refine p_min ?_ | with_reducible refine p_max ?_ | with_reducible refine p_ix0 ?_ | with_reducible refine p_ix0L ?_ | with_reducible refine p_inT (by first | decide +kernel | exact ⟨rfl, rfl⟩ | (simp [flD]; done)) ?_ | with_reducible refine p_notInT (by first | decide +kernel | exact ⟨rfl, rfl⟩ | (simp [flD]; done)) ?_ | with_reducible refine p_fdiv (by first | assumption | decide) ?_ | with_reducible refine p_pow (by unfold CPow; decide) ?_ | with_reducible refine p_lt ?_ | with_reducible refine p_le ?_ | with_reducible refine p_gt ?_ | with_reducible refine p_ge ?_ | with_reducible refine p_eqI ?_ | with_reducible refine p_neI ?_ | with_reducible refine p_eqL (by first | decide +kernel | assumption) (by first | decide +kernel | assumption) ?_ | with_reducible refine p_neL (by first | decide +kernel | assumption) (by first | decide +kernel | assumption) ?_ | with_reducible refine p_eqT (by first | decide +kernel | assumption) (by first | decide +kernel | assumption) ?_ | with_reducible refine p_neT (by first | decide +kernel | assumption) (by first | decide +kernel | assumption) ?_ | with_reducible refine p_eqS (by first | decide +kernel | assumption) (by first | decide +kernel | assumption) ?_ | with_reducible refine p_neS (by first | decide +kernel | assumption) (by first | decide +kernel | assumption) ?_ | with_reducible refine p_isi (by with_unfolding_all rfl) (by decide) ?_ | with_reducible refine p_lmO (by first | assumption | exact sup_same) ?_ | with_reducible refine p_lmE (by first | assumption | exact sup_same) (by with_unfolding_all rfl) (by (first | exact True.intro | exact szl | (with_reducible assumption) | decide | (simp only [List.length_cons, List.length_nil]; first | exact szl | omega) | omega)) ?_ | with_reducible refine p_freeze (by with_unfolding_all rfl) (by first | assumption | exact sup_same) ?_ | with_reducible refine p_dispE (by assumption) (by with_unfolding_all rfl) ?_ | with_reducible refine p_getI (by with_unfolding_all rfl) ?_ | with_reducible refine p_getS (by with_unfolding_all rfl) (by with_unfolding_all rfl) (by first | with_unfolding_all rfl | with_unfolding_all assumption) ?_ | with_reducible refine p_getN (by with_unfolding_all rfl) (by with_unfolding_all rfl) (by first | with_unfolding_all rfl | with_unfolding_all assumption) ?_ | with_reducible refine p_r (by with_unfolding_all rfl) (by (first | exact True.intro | exact szl | (with_reducible assumption) | decide | (simp only [List.length_cons, List.length_nil]; first | exact szl | omega) | omega)) ?_ | with_reducible refine p_rc (by with_unfolding_all rfl) (by (first | exact True.intro | exact szl | (with_reducible assumption) | decide | (simp only [List.length_cons, List.length_nil]; first | exact szl | omega) | omega)) ?_ | with_reducible refine p_ixS (by first | assumption | exact sup_same) (by with_unfolding_all rfl) ?_ | with_reducible refine p_set (by first | assumption | exact sup_same) (by with_unfolding_all rfl) ?_ | with_reducible refine p_onE (by with_unfolding_all rfl) (by (first | exact True.intro | exact szl | (with_reducible assumption) | decide | (simp only [List.length_cons, List.length_nil]; first | exact szl | omega) | omega)) ?_ | with_reducible refine p_kgetS (by first | with_unfolding_all rfl | with_unfolding_all assumption) ?_ | with_reducible refine p_kinT (by first | with_unfolding_all rfl | with_unfolding_all assumption) ?_ | with_reducible refine p_kinF (by first | with_unfolding_all rfl | with_unfolding_all assumption) ?_ | with_reducible refine p_nkinT (by first | with_unfolding_all rfl | with_unfolding_all assumption) ?_ | with_reducible refine p_nkinF (by first | with_unfolding_all rfl | with_unfolding_all assumption) ?_ | with_reducible refine p_T (by with_unfolding_all rfl) ?_ | with_reducible refine p_F (by with_unfolding_all rfl) ?_ | with_reducible refine And.intro (a := List.length _ ≤ sizeLine) szl ?_ | with_reducible refine And.intro (a := List.length _ = _) (by with_unfolding_all rfl) ?_))
        have hEq : List.map RV.d rs ++ [D.tup [.str "div", .str "b", .str "a", .str "a", .int 0], .tup [.str "out", .int 5], .tup [.str "check", .str "f", .int 1], .tup [.str "leave", .int 0, .int 0], .tup [.str "unless", .str "a", .int 0]] ++ [D.tup [.str "set", .str "a", .str "*", .str "a", .int 0], .tup [.str "store", .int (10 ^ Int.toNat 6), .int (0 - 10 ^ Int.toNat 6), .int 0, .int 0]] = List.map RV.d (rs ++ [RV.div (.str "b") (.str "a") (.str "a") (.int 0), .out (.int 5), .check (.str "f") (.int 1), .leave (.int 0) 0, .unl (.str "a") 0, .set (.str "a") (.str "*") (.str "a") (.int 0), .store (.int (10 ^ Int.toNat 6)) (0 - 10 ^ Int.toNat 6) (.int 0) (.int 0)]) := by
          simp only [List.map_append, List.append_assoc]; rfl
        rw [hEq]
        have hR : ∀ r ∈ rs ++ [RV.div (.str "b") (.str "a") (.str "a") (.int 0), .out (.int 5), .check (.str "f") (.int 1), .leave (.int 0) 0, .unl (.str "a") 0, .set (.str "a") (.str "*") (.str "a") (.int 0), .store (.int (10 ^ Int.toNat 6)) (0 - 10 ^ Int.toNat 6) (.int 0) (.int 0)], EvOk r := fun r hr => by
          rcases List.mem_append.mp hr with h | h
          · exact h1 r h
          · simp only [List.mem_cons, List.not_mem_nil, or_false] at h
            rcases h with rfl | rfl | rfl | rfl | rfl | rfl | rfl
            · exact ⟨by decide +kernel, by decide +kernel, ⟨by decide +kernel, .inr ⟨_, rfl⟩⟩, by decide +kernel⟩
            · show okB (.int 5) = true
              decide +kernel
            · exact ⟨by decide +kernel, by decide +kernel⟩
            · exact ⟨by decide +kernel, by decide +kernel⟩
            · exact ⟨by decide +kernel, by decide +kernel⟩
            · exact ⟨by decide +kernel, by decide +kernel, by decide +kernel, by decide +kernel⟩
            · exact ⟨⟨by decide +kernel, .inl ⟨_, rfl⟩⟩, by decide +kernel, by decide +kernel, by decide +kernel⟩
        have hN : (rs ++ [RV.div (.str "b") (.str "a") (.str "a") (.int 0), .out (.int 5), .check (.str "f") (.int 1), .leave (.int 0) 0, .unl (.str "a") 0, .set (.str "a") (.str "*") (.str "a") (.int 0), .store (.int (10 ^ Int.toNat 6)) (0 - 10 ^ Int.toNat 6) (.int 0) (.int 0)]).length ≤ 67 := by simp; omega
        generalize rs ++ [RV.div (.str "b") (.str "a") (.str "a") (.int 0), .out (.int 5), .check (.str "f") (.int 1), .leave (.int 0) 0, .unl (.str "a") 0, .set (.str "a") (.str "*") (.str "a") (.int 0), .store (.int (10 ^ Int.toNat 6)) (0 - 10 ^ Int.toNat 6) (.int 0) (.int 0)] = R at hR hN
        have hP : Okd (.tup [.int z, .tup (bs.map blkD)]) 5 13733 := by
          refine okd_tup (k := 4) (w := 6863) (n := 2) (fun d hd => ?_) (by simp)
          simp only [List.mem_cons, List.not_mem_nil, or_false] at hd
          rcases hd with rfl | rfl
          · exact (okB_okd (okB_int (by omega) (by omega))).mono
          · refine okd_tup (k := 3) (w := 1713) (n := 4) (fun d hd => ?_) hl4
            obtain ⟨b, hb', rfl⟩ := List.mem_map.mp hd
            exact blk_okd (by omega) (by omega) (hb b hb')
        have hO : Okd (.tup [.tup [.int z, .tup (bs.map blkD)], .lst (R.map RV.d)]) 6 27473 := by
          refine okd_tup (k := 5) (w := 13733) (n := 2) (fun d hd => ?_) (by simp)
          simp only [List.mem_cons, List.not_mem_nil, or_false] at hd
          rcases hd with rfl | rfl
          · exact hP
          · have : Okd (.lst (R.map RV.d)) 2 11392 := by
              refine okd_lst (k := 1) (w := 168) (n := 67) (fun d hd => ?_) (by rw [List.length_map]; exact hN)
              obtain ⟨r, hr, rfl⟩ := List.mem_map.mp hd
              exact (hR r hr).okd
            exact this.mono
        have hsh := hO.shok
        refine p_repr (x := .tup [.tup [.int z, .tup (bs.map blkD)], .lst (R.map RV.d)]) hO.repr ?_
        generalize hs : PyData.shown (pyd (res S (.tup [.tup [.int z, .tup (bs.map blkD)], .lst (R.map RV.d)]))) = sh
        have hs' : PyData.shown (pyd (.tup [.tup [.int z, .tup (bs.map blkD)], .lst (R.map RV.d)])) = sh := hs
        rw [hs'] at hsh
        (repeat' (first | with_reducible refine p_seq ?_ | with_reducible refine p_next ?_ | with_reducible refine p_var (by with_unfolding_all rfl) ?_ | with_reducible refine p_c ?_ | with_reducible refine p_op ?_ | with_reducible refine p_cb ?_ | with_reducible refine p_call ?_ | with_reducible refine p_cons ?_ | with_reducible refine p_nil ?_ | with_reducible refine p_tup ?_ | with_reducible refine p_lst ?_ | with_reducible refine p_b ?_ | with_reducible refine p_qb ?_ | with_reducible refine p_and ?_ | with_reducible refine p_or ?_ | with_reducible refine p_not ?_ | with_reducible refine p_andV ?_ | with_reducible refine p_orV ?_ | with_reducible refine p_notV ?_ | with_reducible refine p_if ?_ | with_reducible refine p_ifS ?_ | with_reducible refine p_un ?_ | with_reducible refine p_neg ?_ | with_reducible refine p_ret ?_ | with_reducible refine p_retN ?_ | with_reducible refine p_drop ?_ | with_reducible refine p_asg' ?_ | with_reducible refine p_par ?_ | with_reducible refine p_setI ?_ | with_reducible refine p_sl ?_ | with_reducible refine p_noPart ?_ | with_reducible refine p_part ?_ | with_reducible refine p_partI ?_ | with_reducible refine p_kin ?_ | with_reducible refine p_kget ?_ | with_reducible refine p_lm ?_ | with_reducible refine p_for ?_ | with_reducible refine p_seqI ?_ | with_reducible refine p_seqL ?_ | with_reducible refine p_seqT ?_ | with_reducible refine p_rng1 ?_ | with_reducible refine p_rng1I (by unfold rng1; first | decide | (constructor <;> omega)) ?_ | with_reducible refine p_yes ?_ | with_reducible refine p_chain ?_ | with_reducible refine p_callK ?_ | with_reducible refine p_lc ?_ | with_reducible refine p_disp fun _ hp0 => ?_ | with_reducible refine p_get2 ?_ | with_reducible refine p_bindM (by with_unfolding_all rfl) ?_ | with_reducible refine p_mulI (by first | decide | omega) (by first | decide | omega) ?_ | with_reducible refine p_mod (by first | decide | omega | assumption) ?_ | with_reducible refine p_sub ?_ | with_reducible refine p_min ?_ | with_reducible refine p_max ?_ | with_reducible refine p_ix0 ?_ | with_reducible refine p_ix0L ?_ | with_reducible refine p_inT (by first | decide +kernel | exact ⟨rfl, rfl⟩ | (simp [flD]; done)) ?_ | with_reducible refine p_notInT (by first | decide +kernel | exact ⟨rfl, rfl⟩ | (simp [flD]; done)) ?_ | with_reducible refine p_fdiv (by first | assumption | decide) ?_ | with_reducible refine p_pow (by unfold CPow; decide) ?_ | with_reducible refine p_lt ?_ | with_reducible refine p_le ?_ | with_reducible refine p_gt ?_ | with_reducible refine p_ge ?_ | with_reducible refine p_eqI ?_ | with_reducible refine p_neI ?_ | with_reducible refine p_eqL (by first | decide +kernel | assumption) (by first | decide +kernel | assumption) ?_ | with_reducible refine p_neL (by first | decide +kernel | assumption) (by first | decide +kernel | assumption) ?_ | with_reducible refine p_eqT (by first | decide +kernel | assumption) (by first | decide +kernel | assumption) ?_ | with_reducible refine p_neT (by first | decide +kernel | assumption) (by first | decide +kernel | assumption) ?_ | with_reducible refine p_eqS (by first | decide +kernel | assumption) (by first | decide +kernel | assumption) ?_ | with_reducible refine p_neS (by first | decide +kernel | assumption) (by first | decide +kernel | assumption) ?_ | with_reducible refine p_isi (by with_unfolding_all rfl) (by decide) ?_ | with_reducible refine p_lmO (by first | assumption | exact sup_same) ?_ | with_reducible refine p_lmE (by first | assumption | exact sup_same) (by with_unfolding_all rfl) (by (first | exact True.intro | exact szl | (with_reducible assumption) | decide | (simp only [List.length_cons, List.length_nil]; first | exact szl | omega) | omega)) ?_ | with_reducible refine p_freeze (by with_unfolding_all rfl) (by first | assumption | exact sup_same) ?_ | with_reducible refine p_dispE (by assumption) (by with_unfolding_all rfl) ?_ | with_reducible refine p_getI (by with_unfolding_all rfl) ?_ | with_reducible refine p_getS (by with_unfolding_all rfl) (by with_unfolding_all rfl) (by first | with_unfolding_all rfl | with_unfolding_all assumption) ?_ | with_reducible refine p_getN (by with_unfolding_all rfl) (by with_unfolding_all rfl) (by first | with_unfolding_all rfl | with_unfolding_all assumption) ?_ | with_reducible refine p_r (by with_unfolding_all rfl) (by (first | exact True.intro | exact szl | (with_reducible assumption) | decide | (simp only [List.length_cons, List.length_nil]; first | exact szl | omega) | omega)) ?_ | with_reducible refine p_rc (by with_unfolding_all rfl) (by (first | exact True.intro | exact szl | (with_reducible assumption) | decide | (simp only [List.length_cons, List.length_nil]; first | exact szl | omega) | omega)) ?_ | with_reducible refine p_ixS (by first | assumption | exact sup_same) (by with_unfolding_all rfl) ?_ | with_reducible refine p_set (by first | assumption | exact sup_same) (by with_unfolding_all rfl) ?_ | with_reducible refine p_onE (by with_unfolding_all rfl) (by (first | exact True.intro | exact szl | (with_reducible assumption) | decide | (simp only [List.length_cons, List.length_nil]; first | exact szl | omega) | omega)) ?_ | with_reducible refine p_kgetS (by first | with_unfolding_all rfl | with_unfolding_all assumption) ?_ | with_reducible refine p_kinT (by first | with_unfolding_all rfl | with_unfolding_all assumption) ?_ | with_reducible refine p_kinF (by first | with_unfolding_all rfl | with_unfolding_all assumption) ?_ | with_reducible refine p_nkinT (by first | with_unfolding_all rfl | with_unfolding_all assumption) ?_ | with_reducible refine p_nkinF (by first | with_unfolding_all rfl | with_unfolding_all assumption) ?_ | with_reducible refine p_T (by with_unfolding_all rfl) ?_ | with_reducible refine p_F (by with_unfolding_all rfl) ?_ | with_reducible refine And.intro (a := List.length _ ≤ sizeLine) szl ?_ | with_reducible refine And.intro (a := List.length _ = _) (by with_unfolding_all rfl) ?_))
        refine for_inv (fun j env S => ∃ e9 e10, env = [some (.scr (ns.map D.int)), some (.ref y), some (.int i), some (.tup [.int z, .tup (bs.map blkD)]), some (.int z), some (.lst (R.map RV.d)), e6, e7, some (.str sh), e9, e10] ∧ Yn ns y (300 * (i + 1)) S) ⟨e9, e10, rfl, hY⟩ (fun j d env S nx' hd ⟨e9, e10, he, hY⟩ hk' => ?_) (fun env S ⟨e9, e10, he, hY⟩ => ?_)
        · obtain ⟨r, hr, rfl⟩ := List.mem_map.mp (List.mem_of_getElem? hd)
          subst he
          refine ⟨_, rfl, ?_⟩
          have m1 : ∀ {ds : List D} {S : Sto} {Q : QD}, ds = [.tup [.int z, .tup (bs.map blkD)], r.d] → Q (.bl (seenF z r)) S → d__law_is_seen ds S Q := fun e q => by rw [e]; exact seen_p (hR r hr) q
          have m2 : ∀ {ds : List D} {S : Sto} {Q : QD}, ds = [.tup [.int z, .tup (bs.map blkD)], r.d] → Q (.bl (seenF z r)) S → d_is_event_row ds S Q := fun e q => by rw [e]; exact event_p (hR r hr) q
          generalize seenF z r = b at m1 m2
          cases b
          · (repeat' (first | refine p_reprB (d := .bl false) rfl ?_ | with_reducible refine p_seq ?_ | with_reducible refine p_next ?_ | with_reducible refine p_var (by with_unfolding_all rfl) ?_ | with_reducible refine p_c ?_ | with_reducible refine p_op ?_ | with_reducible refine p_cb ?_ | with_reducible refine p_call ?_ | with_reducible refine p_cons ?_ | with_reducible refine p_nil ?_ | with_reducible refine p_tup ?_ | with_reducible refine p_lst ?_ | with_reducible refine p_b ?_ | with_reducible refine p_qb ?_ | with_reducible refine p_and ?_ | with_reducible refine p_or ?_ | with_reducible refine p_not ?_ | with_reducible refine p_andV ?_ | with_reducible refine p_orV ?_ | with_reducible refine p_notV ?_ | with_reducible refine p_if ?_ | with_reducible refine p_ifS ?_ | with_reducible refine p_un ?_ | with_reducible refine p_neg ?_ | with_reducible refine p_ret ?_ | with_reducible refine p_retN ?_ | with_reducible refine p_drop ?_ | with_reducible refine p_asg' ?_ | with_reducible refine p_par ?_ | with_reducible refine p_setI ?_ | with_reducible refine p_sl ?_ | with_reducible refine p_noPart ?_ | with_reducible refine p_part ?_ | with_reducible refine p_partI ?_ | with_reducible refine p_kin ?_ | with_reducible refine p_kget ?_ | with_reducible refine p_lm ?_ | with_reducible refine p_for ?_ | with_reducible refine p_seqI ?_ | with_reducible refine p_seqL ?_ | with_reducible refine p_seqT ?_ | with_reducible refine p_rng1 ?_ | with_reducible refine p_rng1I (by unfold rng1; first | decide | (constructor <;> omega)) ?_ | with_reducible refine p_yes ?_ | with_reducible refine p_chain ?_ | with_reducible refine p_callK ?_ | with_reducible refine p_lc ?_ | with_reducible refine p_disp fun _ hp0 => ?_ | with_reducible refine p_get2 ?_ | with_reducible refine p_bindM (by with_unfolding_all rfl) ?_ | with_reducible refine p_mulI (by first | decide | omega) (by first | decide | omega) ?_ | with_reducible refine p_mod (by first | decide | omega | assumption) ?_ | with_reducible refine p_sub ?_ | with_reducible refine p_min ?_ | with_reducible refine p_max ?_ | with_reducible refine p_ix0 ?_ | with_reducible refine p_ix0L ?_ | with_reducible refine p_inT (by first | decide +kernel | exact ⟨rfl, rfl⟩ | (simp [flD]; done)) ?_ | with_reducible refine p_notInT (by first | decide +kernel | exact ⟨rfl, rfl⟩ | (simp [flD]; done)) ?_ | with_reducible refine p_fdiv (by first | assumption | decide) ?_ | with_reducible refine p_pow (by unfold CPow; decide) ?_ | with_reducible refine p_lt ?_ | with_reducible refine p_le ?_ | with_reducible refine p_gt ?_ | with_reducible refine p_ge ?_ | with_reducible refine p_eqI ?_ | with_reducible refine p_neI ?_ | with_reducible refine p_eqL (by first | decide +kernel | assumption) (by first | decide +kernel | assumption) ?_ | with_reducible refine p_neL (by first | decide +kernel | assumption) (by first | decide +kernel | assumption) ?_ | with_reducible refine p_eqT (by first | decide +kernel | assumption) (by first | decide +kernel | assumption) ?_ | with_reducible refine p_neT (by first | decide +kernel | assumption) (by first | decide +kernel | assumption) ?_ | with_reducible refine p_eqS (by first | decide +kernel | assumption) (by first | decide +kernel | assumption) ?_ | with_reducible refine p_neS (by first | decide +kernel | assumption) (by first | decide +kernel | assumption) ?_ | with_reducible refine p_isi (by with_unfolding_all rfl) (by decide) ?_ | with_reducible refine p_lmO (by first | assumption | exact sup_same) ?_ | with_reducible refine p_lmE (by first | assumption | exact sup_same) (by with_unfolding_all rfl) (by (first | exact True.intro | exact szl | (with_reducible assumption) | decide | (simp only [List.length_cons, List.length_nil]; first | exact szl | omega) | omega)) ?_ | with_reducible refine p_freeze (by with_unfolding_all rfl) (by first | assumption | exact sup_same) ?_ | with_reducible refine p_dispE (by assumption) (by with_unfolding_all rfl) ?_ | with_reducible refine p_getI (by with_unfolding_all rfl) ?_ | with_reducible refine p_getS (by with_unfolding_all rfl) (by with_unfolding_all rfl) (by first | with_unfolding_all rfl | with_unfolding_all assumption) ?_ | with_reducible refine p_getN (by with_unfolding_all rfl) (by with_unfolding_all rfl) (by first | with_unfolding_all rfl | with_unfolding_all assumption) ?_ | with_reducible refine p_r (by with_unfolding_all rfl) (by (first | exact True.intro | exact szl | (with_reducible assumption) | decide | (simp only [List.length_cons, List.length_nil]; first | exact szl | omega) | omega)) ?_ | with_reducible refine p_rc (by with_unfolding_all rfl) (by (first | exact True.intro | exact szl | (with_reducible assumption) | decide | (simp only [List.length_cons, List.length_nil]; first | exact szl | omega) | omega)) ?_ | with_reducible refine p_ixS (by first | assumption | exact sup_same) (by with_unfolding_all rfl) ?_ | with_reducible refine p_set (by first | assumption | exact sup_same) (by with_unfolding_all rfl) ?_ | with_reducible refine p_onE (by with_unfolding_all rfl) (by (first | exact True.intro | exact szl | (with_reducible assumption) | decide | (simp only [List.length_cons, List.length_nil]; first | exact szl | omega) | omega)) ?_ | with_reducible refine p_kgetS (by first | with_unfolding_all rfl | with_unfolding_all assumption) ?_ | with_reducible refine p_kinT (by first | with_unfolding_all rfl | with_unfolding_all assumption) ?_ | with_reducible refine p_kinF (by first | with_unfolding_all rfl | with_unfolding_all assumption) ?_ | with_reducible refine p_nkinT (by first | with_unfolding_all rfl | with_unfolding_all assumption) ?_ | with_reducible refine p_nkinF (by first | with_unfolding_all rfl | with_unfolding_all assumption) ?_ | with_reducible refine p_T (by with_unfolding_all rfl) ?_ | with_reducible refine p_F (by with_unfolding_all rfl) ?_ | with_reducible refine And.intro (a := List.length _ ≤ sizeLine) szl ?_ | with_reducible refine And.intro (a := List.length _ = _) (by with_unfolding_all rfl) ?_ | with_reducible refine m1 (by with_unfolding_all rfl) ?_ | with_reducible refine m2 (by with_unfolding_all rfl) ?_))
            exact hk' _ _ ⟨_, _, rfl, hY⟩
          · (repeat' (first | refine p_reprB (d := .bl true) rfl ?_ | with_reducible refine p_seq ?_ | with_reducible refine p_next ?_ | with_reducible refine p_var (by with_unfolding_all rfl) ?_ | with_reducible refine p_c ?_ | with_reducible refine p_op ?_ | with_reducible refine p_cb ?_ | with_reducible refine p_call ?_ | with_reducible refine p_cons ?_ | with_reducible refine p_nil ?_ | with_reducible refine p_tup ?_ | with_reducible refine p_lst ?_ | with_reducible refine p_b ?_ | with_reducible refine p_qb ?_ | with_reducible refine p_and ?_ | with_reducible refine p_or ?_ | with_reducible refine p_not ?_ | with_reducible refine p_andV ?_ | with_reducible refine p_orV ?_ | with_reducible refine p_notV ?_ | with_reducible refine p_if ?_ | with_reducible refine p_ifS ?_ | with_reducible refine p_un ?_ | with_reducible refine p_neg ?_ | with_reducible refine p_ret ?_ | with_reducible refine p_retN ?_ | with_reducible refine p_drop ?_ | with_reducible refine p_asg' ?_ | with_reducible refine p_par ?_ | with_reducible refine p_setI ?_ | with_reducible refine p_sl ?_ | with_reducible refine p_noPart ?_ | with_reducible refine p_part ?_ | with_reducible refine p_partI ?_ | with_reducible refine p_kin ?_ | with_reducible refine p_kget ?_ | with_reducible refine p_lm ?_ | with_reducible refine p_for ?_ | with_reducible refine p_seqI ?_ | with_reducible refine p_seqL ?_ | with_reducible refine p_seqT ?_ | with_reducible refine p_rng1 ?_ | with_reducible refine p_rng1I (by unfold rng1; first | decide | (constructor <;> omega)) ?_ | with_reducible refine p_yes ?_ | with_reducible refine p_chain ?_ | with_reducible refine p_callK ?_ | with_reducible refine p_lc ?_ | with_reducible refine p_disp fun _ hp0 => ?_ | with_reducible refine p_get2 ?_ | with_reducible refine p_bindM (by with_unfolding_all rfl) ?_ | with_reducible refine p_mulI (by first | decide | omega) (by first | decide | omega) ?_ | with_reducible refine p_mod (by first | decide | omega | assumption) ?_ | with_reducible refine p_sub ?_ | with_reducible refine p_min ?_ | with_reducible refine p_max ?_ | with_reducible refine p_ix0 ?_ | with_reducible refine p_ix0L ?_ | with_reducible refine p_inT (by first | decide +kernel | exact ⟨rfl, rfl⟩ | (simp [flD]; done)) ?_ | with_reducible refine p_notInT (by first | decide +kernel | exact ⟨rfl, rfl⟩ | (simp [flD]; done)) ?_ | with_reducible refine p_fdiv (by first | assumption | decide) ?_ | with_reducible refine p_pow (by unfold CPow; decide) ?_ | with_reducible refine p_lt ?_ | with_reducible refine p_le ?_ | with_reducible refine p_gt ?_ | with_reducible refine p_ge ?_ | with_reducible refine p_eqI ?_ | with_reducible refine p_neI ?_ | with_reducible refine p_eqL (by first | decide +kernel | assumption) (by first | decide +kernel | assumption) ?_ | with_reducible refine p_neL (by first | decide +kernel | assumption) (by first | decide +kernel | assumption) ?_ | with_reducible refine p_eqT (by first | decide +kernel | assumption) (by first | decide +kernel | assumption) ?_ | with_reducible refine p_neT (by first | decide +kernel | assumption) (by first | decide +kernel | assumption) ?_ | with_reducible refine p_eqS (by first | decide +kernel | assumption) (by first | decide +kernel | assumption) ?_ | with_reducible refine p_neS (by first | decide +kernel | assumption) (by first | decide +kernel | assumption) ?_ | with_reducible refine p_isi (by with_unfolding_all rfl) (by decide) ?_ | with_reducible refine p_lmO (by first | assumption | exact sup_same) ?_ | with_reducible refine p_lmE (by first | assumption | exact sup_same) (by with_unfolding_all rfl) (by (first | exact True.intro | exact szl | (with_reducible assumption) | decide | (simp only [List.length_cons, List.length_nil]; first | exact szl | omega) | omega)) ?_ | with_reducible refine p_freeze (by with_unfolding_all rfl) (by first | assumption | exact sup_same) ?_ | with_reducible refine p_dispE (by assumption) (by with_unfolding_all rfl) ?_ | with_reducible refine p_getI (by with_unfolding_all rfl) ?_ | with_reducible refine p_getS (by with_unfolding_all rfl) (by with_unfolding_all rfl) (by first | with_unfolding_all rfl | with_unfolding_all assumption) ?_ | with_reducible refine p_getN (by with_unfolding_all rfl) (by with_unfolding_all rfl) (by first | with_unfolding_all rfl | with_unfolding_all assumption) ?_ | with_reducible refine p_r (by with_unfolding_all rfl) (by (first | exact True.intro | exact szl | (with_reducible assumption) | decide | (simp only [List.length_cons, List.length_nil]; first | exact szl | omega) | omega)) ?_ | with_reducible refine p_rc (by with_unfolding_all rfl) (by (first | exact True.intro | exact szl | (with_reducible assumption) | decide | (simp only [List.length_cons, List.length_nil]; first | exact szl | omega) | omega)) ?_ | with_reducible refine p_ixS (by first | assumption | exact sup_same) (by with_unfolding_all rfl) ?_ | with_reducible refine p_set (by first | assumption | exact sup_same) (by with_unfolding_all rfl) ?_ | with_reducible refine p_onE (by with_unfolding_all rfl) (by (first | exact True.intro | exact szl | (with_reducible assumption) | decide | (simp only [List.length_cons, List.length_nil]; first | exact szl | omega) | omega)) ?_ | with_reducible refine p_kgetS (by first | with_unfolding_all rfl | with_unfolding_all assumption) ?_ | with_reducible refine p_kinT (by first | with_unfolding_all rfl | with_unfolding_all assumption) ?_ | with_reducible refine p_kinF (by first | with_unfolding_all rfl | with_unfolding_all assumption) ?_ | with_reducible refine p_nkinT (by first | with_unfolding_all rfl | with_unfolding_all assumption) ?_ | with_reducible refine p_nkinF (by first | with_unfolding_all rfl | with_unfolding_all assumption) ?_ | with_reducible refine p_T (by with_unfolding_all rfl) ?_ | with_reducible refine p_F (by with_unfolding_all rfl) ?_ | with_reducible refine And.intro (a := List.length _ ≤ sizeLine) szl ?_ | with_reducible refine And.intro (a := List.length _ = _) (by with_unfolding_all rfl) ?_ | with_reducible refine m1 (by with_unfolding_all rfl) ?_ | with_reducible refine m2 (by with_unfolding_all rfl) ?_))
            exact hk' _ _ ⟨_, _, rfl, hY⟩
        · subst he
          (repeat' (first | with_reducible refine p_seq ?_ | with_reducible refine p_next ?_ | with_reducible refine p_var (by with_unfolding_all rfl) ?_ | with_reducible refine p_c ?_ | with_reducible refine p_op ?_ | with_reducible refine p_cb ?_ | with_reducible refine p_call ?_ | with_reducible refine p_cons ?_ | with_reducible refine p_nil ?_ | with_reducible refine p_tup ?_ | with_reducible refine p_lst ?_ | with_reducible refine p_b ?_ | with_reducible refine p_qb ?_ | with_reducible refine p_and ?_ | with_reducible refine p_or ?_ | with_reducible refine p_not ?_ | with_reducible refine p_andV ?_ | with_reducible refine p_orV ?_ | with_reducible refine p_notV ?_ | with_reducible refine p_if ?_ | with_reducible refine p_ifS ?_ | with_reducible refine p_un ?_ | with_reducible refine p_neg ?_ | with_reducible refine p_ret ?_ | with_reducible refine p_retN ?_ | with_reducible refine p_drop ?_ | with_reducible refine p_asg' ?_ | with_reducible refine p_par ?_ | with_reducible refine p_setI ?_ | with_reducible refine p_sl ?_ | with_reducible refine p_noPart ?_ | with_reducible refine p_part ?_ | with_reducible refine p_partI ?_ | with_reducible refine p_kin ?_ | with_reducible refine p_kget ?_ | with_reducible refine p_lm ?_ | with_reducible refine p_for ?_ | with_reducible refine p_seqI ?_ | with_reducible refine p_seqL ?_ | with_reducible refine p_seqT ?_ | with_reducible refine p_rng1 ?_ | with_reducible refine p_rng1I (by unfold rng1; first | decide | (constructor <;> omega)) ?_ | with_reducible refine p_yes ?_ | with_reducible refine p_chain ?_ | with_reducible refine p_callK ?_ | with_reducible refine p_lc ?_ | with_reducible refine p_disp fun _ hp0 => ?_ | with_reducible refine p_get2 ?_ | with_reducible refine p_bindM (by with_unfolding_all rfl) ?_ | with_reducible refine p_mulI (by first | decide | omega) (by first | decide | omega) ?_ | with_reducible refine p_mod (by first | decide | omega | assumption) ?_ | with_reducible refine p_sub ?_ | with_reducible refine p_min ?_ | with_reducible refine p_max ?_ | with_reducible refine p_ix0 ?_ | with_reducible refine p_ix0L ?_ | with_reducible refine p_inT (by first | decide +kernel | exact ⟨rfl, rfl⟩ | (simp [flD]; done)) ?_ | with_reducible refine p_notInT (by first | decide +kernel | exact ⟨rfl, rfl⟩ | (simp [flD]; done)) ?_ | with_reducible refine p_fdiv (by first | assumption | decide) ?_ | with_reducible refine p_pow (by unfold CPow; decide) ?_ | with_reducible refine p_lt ?_ | with_reducible refine p_le ?_ | with_reducible refine p_gt ?_ | with_reducible refine p_ge ?_ | with_reducible refine p_eqI ?_ | with_reducible refine p_neI ?_ | with_reducible refine p_eqL (by first | decide +kernel | assumption) (by first | decide +kernel | assumption) ?_ | with_reducible refine p_neL (by first | decide +kernel | assumption) (by first | decide +kernel | assumption) ?_ | with_reducible refine p_eqT (by first | decide +kernel | assumption) (by first | decide +kernel | assumption) ?_ | with_reducible refine p_neT (by first | decide +kernel | assumption) (by first | decide +kernel | assumption) ?_ | with_reducible refine p_eqS (by first | decide +kernel | assumption) (by first | decide +kernel | assumption) ?_ | with_reducible refine p_neS (by first | decide +kernel | assumption) (by first | decide +kernel | assumption) ?_ | with_reducible refine p_isi (by with_unfolding_all rfl) (by decide) ?_ | with_reducible refine p_lmO (by first | assumption | exact sup_same) ?_ | with_reducible refine p_lmE (by first | assumption | exact sup_same) (by with_unfolding_all rfl) (by (first | exact True.intro | exact szl | (with_reducible assumption) | decide | (simp only [List.length_cons, List.length_nil]; first | exact szl | omega) | omega)) ?_ | with_reducible refine p_freeze (by with_unfolding_all rfl) (by first | assumption | exact sup_same) ?_ | with_reducible refine p_dispE (by assumption) (by with_unfolding_all rfl) ?_ | with_reducible refine p_getI (by with_unfolding_all rfl) ?_ | with_reducible refine p_getS (by with_unfolding_all rfl) (by with_unfolding_all rfl) (by first | with_unfolding_all rfl | with_unfolding_all assumption) ?_ | with_reducible refine p_getN (by with_unfolding_all rfl) (by with_unfolding_all rfl) (by first | with_unfolding_all rfl | with_unfolding_all assumption) ?_ | with_reducible refine p_r (by with_unfolding_all rfl) (by (first | exact True.intro | exact szl | (with_reducible assumption) | decide | (simp only [List.length_cons, List.length_nil]; first | exact szl | omega) | omega)) ?_ | with_reducible refine p_rc (by with_unfolding_all rfl) (by (first | exact True.intro | exact szl | (with_reducible assumption) | decide | (simp only [List.length_cons, List.length_nil]; first | exact szl | omega) | omega)) ?_ | with_reducible refine p_ixS (by first | assumption | exact sup_same) (by with_unfolding_all rfl) ?_ | with_reducible refine p_set (by first | assumption | exact sup_same) (by with_unfolding_all rfl) ?_ | with_reducible refine p_onE (by with_unfolding_all rfl) (by (first | exact True.intro | exact szl | (with_reducible assumption) | decide | (simp only [List.length_cons, List.length_nil]; first | exact szl | omega) | omega)) ?_ | with_reducible refine p_kgetS (by first | with_unfolding_all rfl | with_unfolding_all assumption) ?_ | with_reducible refine p_kinT (by first | with_unfolding_all rfl | with_unfolding_all assumption) ?_ | with_reducible refine p_kinF (by first | with_unfolding_all rfl | with_unfolding_all assumption) ?_ | with_reducible refine p_nkinT (by first | with_unfolding_all rfl | with_unfolding_all assumption) ?_ | with_reducible refine p_nkinF (by first | with_unfolding_all rfl | with_unfolding_all assumption) ?_ | with_reducible refine p_T (by with_unfolding_all rfl) ?_ | with_reducible refine p_F (by with_unfolding_all rfl) ?_ | with_reducible refine And.intro (a := List.length _ ≤ sizeLine) szl ?_ | with_reducible refine And.intro (a := List.length _ = _) (by with_unfolding_all rfl) ?_))
          refine p_repr (x := .tup [.tup [.int z, .tup (bs.map blkD)], .lst (R.map RV.d)]) hO.repr ?_
          have hs2 : PyData.shown (pyd (res S (.tup [.tup [.int z, .tup (bs.map blkD)], .lst (R.map RV.d)]))) = sh := hs
          rw [hs2]
          (repeat' (first | with_reducible refine p_seq ?_ | with_reducible refine p_next ?_ | with_reducible refine p_var (by with_unfolding_all rfl) ?_ | with_reducible refine p_c ?_ | with_reducible refine p_op ?_ | with_reducible refine p_cb ?_ | with_reducible refine p_call ?_ | with_reducible refine p_cons ?_ | with_reducible refine p_nil ?_ | with_reducible refine p_tup ?_ | with_reducible refine p_lst ?_ | with_reducible refine p_b ?_ | with_reducible refine p_qb ?_ | with_reducible refine p_and ?_ | with_reducible refine p_or ?_ | with_reducible refine p_not ?_ | with_reducible refine p_andV ?_ | with_reducible refine p_orV ?_ | with_reducible refine p_notV ?_ | with_reducible refine p_if ?_ | with_reducible refine p_ifS ?_ | with_reducible refine p_un ?_ | with_reducible refine p_neg ?_ | with_reducible refine p_ret ?_ | with_reducible refine p_retN ?_ | with_reducible refine p_drop ?_ | with_reducible refine p_asg' ?_ | with_reducible refine p_par ?_ | with_reducible refine p_setI ?_ | with_reducible refine p_sl ?_ | with_reducible refine p_noPart ?_ | with_reducible refine p_part ?_ | with_reducible refine p_partI ?_ | with_reducible refine p_kin ?_ | with_reducible refine p_kget ?_ | with_reducible refine p_lm ?_ | with_reducible refine p_for ?_ | with_reducible refine p_seqI ?_ | with_reducible refine p_seqL ?_ | with_reducible refine p_seqT ?_ | with_reducible refine p_rng1 ?_ | with_reducible refine p_rng1I (by unfold rng1; first | decide | (constructor <;> omega)) ?_ | with_reducible refine p_yes ?_ | with_reducible refine p_chain ?_ | with_reducible refine p_callK ?_ | with_reducible refine p_lc ?_ | with_reducible refine p_disp fun _ hp0 => ?_ | with_reducible refine p_get2 ?_ | with_reducible refine p_bindM (by with_unfolding_all rfl) ?_ | with_reducible refine p_mulI (by first | decide | omega) (by first | decide | omega) ?_ | with_reducible refine p_mod (by first | decide | omega | assumption) ?_ | with_reducible refine p_sub ?_ | with_reducible refine p_min ?_ | with_reducible refine p_max ?_ | with_reducible refine p_ix0 ?_ | with_reducible refine p_ix0L ?_ | with_reducible refine p_inT (by first | decide +kernel | exact ⟨rfl, rfl⟩ | (simp [flD]; done)) ?_ | with_reducible refine p_notInT (by first | decide +kernel | exact ⟨rfl, rfl⟩ | (simp [flD]; done)) ?_ | with_reducible refine p_fdiv (by first | assumption | decide) ?_ | with_reducible refine p_pow (by unfold CPow; decide) ?_ | with_reducible refine p_lt ?_ | with_reducible refine p_le ?_ | with_reducible refine p_gt ?_ | with_reducible refine p_ge ?_ | with_reducible refine p_eqI ?_ | with_reducible refine p_neI ?_ | with_reducible refine p_eqL (by first | decide +kernel | assumption) (by first | decide +kernel | assumption) ?_ | with_reducible refine p_neL (by first | decide +kernel | assumption) (by first | decide +kernel | assumption) ?_ | with_reducible refine p_eqT (by first | decide +kernel | assumption) (by first | decide +kernel | assumption) ?_ | with_reducible refine p_neT (by first | decide +kernel | assumption) (by first | decide +kernel | assumption) ?_ | with_reducible refine p_eqS (by first | decide +kernel | assumption) (by first | decide +kernel | assumption) ?_ | with_reducible refine p_neS (by first | decide +kernel | assumption) (by first | decide +kernel | assumption) ?_ | with_reducible refine p_isi (by with_unfolding_all rfl) (by decide) ?_ | with_reducible refine p_lmO (by first | assumption | exact sup_same) ?_ | with_reducible refine p_lmE (by first | assumption | exact sup_same) (by with_unfolding_all rfl) (by (first | exact True.intro | exact szl | (with_reducible assumption) | decide | (simp only [List.length_cons, List.length_nil]; first | exact szl | omega) | omega)) ?_ | with_reducible refine p_freeze (by with_unfolding_all rfl) (by first | assumption | exact sup_same) ?_ | with_reducible refine p_dispE (by assumption) (by with_unfolding_all rfl) ?_ | with_reducible refine p_getI (by with_unfolding_all rfl) ?_ | with_reducible refine p_getS (by with_unfolding_all rfl) (by with_unfolding_all rfl) (by first | with_unfolding_all rfl | with_unfolding_all assumption) ?_ | with_reducible refine p_getN (by with_unfolding_all rfl) (by with_unfolding_all rfl) (by first | with_unfolding_all rfl | with_unfolding_all assumption) ?_ | with_reducible refine p_r (by with_unfolding_all rfl) (by (first | exact True.intro | exact szl | (with_reducible assumption) | decide | (simp only [List.length_cons, List.length_nil]; first | exact szl | omega) | omega)) ?_ | with_reducible refine p_rc (by with_unfolding_all rfl) (by (first | exact True.intro | exact szl | (with_reducible assumption) | decide | (simp only [List.length_cons, List.length_nil]; first | exact szl | omega) | omega)) ?_ | with_reducible refine p_ixS (by first | assumption | exact sup_same) (by with_unfolding_all rfl) ?_ | with_reducible refine p_set (by first | assumption | exact sup_same) (by with_unfolding_all rfl) ?_ | with_reducible refine p_onE (by with_unfolding_all rfl) (by (first | exact True.intro | exact szl | (with_reducible assumption) | decide | (simp only [List.length_cons, List.length_nil]; first | exact szl | omega) | omega)) ?_ | with_reducible refine p_kgetS (by first | with_unfolding_all rfl | with_unfolding_all assumption) ?_ | with_reducible refine p_kinT (by first | with_unfolding_all rfl | with_unfolding_all assumption) ?_ | with_reducible refine p_kinF (by first | with_unfolding_all rfl | with_unfolding_all assumption) ?_ | with_reducible refine p_nkinT (by first | with_unfolding_all rfl | with_unfolding_all assumption) ?_ | with_reducible refine p_nkinF (by first | with_unfolding_all rfl | with_unfolding_all assumption) ?_ | with_reducible refine p_T (by with_unfolding_all rfl) ?_ | with_reducible refine p_F (by with_unfolding_all rfl) ?_ | with_reducible refine And.intro (a := List.length _ ≤ sizeLine) szl ?_ | with_reducible refine And.intro (a := List.length _ = _) (by with_unfolding_all rfl) ?_))
          refine p_F (by rw [eqD_str, beq_self_eq_true]; rfl) ?_
          (repeat' (first | with_reducible refine p_seq ?_ | with_reducible refine p_next ?_ | with_reducible refine p_var (by with_unfolding_all rfl) ?_ | with_reducible refine p_c ?_ | with_reducible refine p_op ?_ | with_reducible refine p_cb ?_ | with_reducible refine p_call ?_ | with_reducible refine p_cons ?_ | with_reducible refine p_nil ?_ | with_reducible refine p_tup ?_ | with_reducible refine p_lst ?_ | with_reducible refine p_b ?_ | with_reducible refine p_qb ?_ | with_reducible refine p_and ?_ | with_reducible refine p_or ?_ | with_reducible refine p_not ?_ | with_reducible refine p_andV ?_ | with_reducible refine p_orV ?_ | with_reducible refine p_notV ?_ | with_reducible refine p_if ?_ | with_reducible refine p_ifS ?_ | with_reducible refine p_un ?_ | with_reducible refine p_neg ?_ | with_reducible refine p_ret ?_ | with_reducible refine p_retN ?_ | with_reducible refine p_drop ?_ | with_reducible refine p_asg' ?_ | with_reducible refine p_par ?_ | with_reducible refine p_setI ?_ | with_reducible refine p_sl ?_ | with_reducible refine p_noPart ?_ | with_reducible refine p_part ?_ | with_reducible refine p_partI ?_ | with_reducible refine p_kin ?_ | with_reducible refine p_kget ?_ | with_reducible refine p_lm ?_ | with_reducible refine p_for ?_ | with_reducible refine p_seqI ?_ | with_reducible refine p_seqL ?_ | with_reducible refine p_seqT ?_ | with_reducible refine p_rng1 ?_ | with_reducible refine p_rng1I (by unfold rng1; first | decide | (constructor <;> omega)) ?_ | with_reducible refine p_yes ?_ | with_reducible refine p_chain ?_ | with_reducible refine p_callK ?_ | with_reducible refine p_lc ?_ | with_reducible refine p_disp fun _ hp0 => ?_ | with_reducible refine p_get2 ?_ | with_reducible refine p_bindM (by with_unfolding_all rfl) ?_ | with_reducible refine p_mulI (by first | decide | omega) (by first | decide | omega) ?_ | with_reducible refine p_mod (by first | decide | omega | assumption) ?_ | with_reducible refine p_sub ?_ | with_reducible refine p_min ?_ | with_reducible refine p_max ?_ | with_reducible refine p_ix0 ?_ | with_reducible refine p_ix0L ?_ | with_reducible refine p_inT (by first | decide +kernel | exact ⟨rfl, rfl⟩ | (simp [flD]; done)) ?_ | with_reducible refine p_notInT (by first | decide +kernel | exact ⟨rfl, rfl⟩ | (simp [flD]; done)) ?_ | with_reducible refine p_fdiv (by first | assumption | decide) ?_ | with_reducible refine p_pow (by unfold CPow; decide) ?_ | with_reducible refine p_lt ?_ | with_reducible refine p_le ?_ | with_reducible refine p_gt ?_ | with_reducible refine p_ge ?_ | with_reducible refine p_eqI ?_ | with_reducible refine p_neI ?_ | with_reducible refine p_eqL (by first | decide +kernel | assumption) (by first | decide +kernel | assumption) ?_ | with_reducible refine p_neL (by first | decide +kernel | assumption) (by first | decide +kernel | assumption) ?_ | with_reducible refine p_eqT (by first | decide +kernel | assumption) (by first | decide +kernel | assumption) ?_ | with_reducible refine p_neT (by first | decide +kernel | assumption) (by first | decide +kernel | assumption) ?_ | with_reducible refine p_eqS (by first | decide +kernel | assumption) (by first | decide +kernel | assumption) ?_ | with_reducible refine p_neS (by first | decide +kernel | assumption) (by first | decide +kernel | assumption) ?_ | with_reducible refine p_isi (by with_unfolding_all rfl) (by decide) ?_ | with_reducible refine p_lmO (by first | assumption | exact sup_same) ?_ | with_reducible refine p_lmE (by first | assumption | exact sup_same) (by with_unfolding_all rfl) (by (first | exact True.intro | exact szl | (with_reducible assumption) | decide | (simp only [List.length_cons, List.length_nil]; first | exact szl | omega) | omega)) ?_ | with_reducible refine p_freeze (by with_unfolding_all rfl) (by first | assumption | exact sup_same) ?_ | with_reducible refine p_dispE (by assumption) (by with_unfolding_all rfl) ?_ | with_reducible refine p_getI (by with_unfolding_all rfl) ?_ | with_reducible refine p_getS (by with_unfolding_all rfl) (by with_unfolding_all rfl) (by first | with_unfolding_all rfl | with_unfolding_all assumption) ?_ | with_reducible refine p_getN (by with_unfolding_all rfl) (by with_unfolding_all rfl) (by first | with_unfolding_all rfl | with_unfolding_all assumption) ?_ | with_reducible refine p_r (by with_unfolding_all rfl) (by (first | exact True.intro | exact szl | (with_reducible assumption) | decide | (simp only [List.length_cons, List.length_nil]; first | exact szl | omega) | omega)) ?_ | with_reducible refine p_rc (by with_unfolding_all rfl) (by (first | exact True.intro | exact szl | (with_reducible assumption) | decide | (simp only [List.length_cons, List.length_nil]; first | exact szl | omega) | omega)) ?_ | with_reducible refine p_ixS (by first | assumption | exact sup_same) (by with_unfolding_all rfl) ?_ | with_reducible refine p_set (by first | assumption | exact sup_same) (by with_unfolding_all rfl) ?_ | with_reducible refine p_onE (by with_unfolding_all rfl) (by (first | exact True.intro | exact szl | (with_reducible assumption) | decide | (simp only [List.length_cons, List.length_nil]; first | exact szl | omega) | omega)) ?_ | with_reducible refine p_kgetS (by first | with_unfolding_all rfl | with_unfolding_all assumption) ?_ | with_reducible refine p_kinT (by first | with_unfolding_all rfl | with_unfolding_all assumption) ?_ | with_reducible refine p_kinF (by first | with_unfolding_all rfl | with_unfolding_all assumption) ?_ | with_reducible refine p_nkinT (by first | with_unfolding_all rfl | with_unfolding_all assumption) ?_ | with_reducible refine p_nkinF (by first | with_unfolding_all rfl | with_unfolding_all assumption) ?_ | with_reducible refine p_T (by with_unfolding_all rfl) ?_ | with_reducible refine p_F (by with_unfolding_all rfl) ?_ | with_reducible refine And.intro (a := List.length _ ≤ sizeLine) szl ?_ | with_reducible refine And.intro (a := List.length _ = _) (by with_unfolding_all rfl) ?_))
          exact hk _ _ ⟨_, _, _, _, _, _, _, _, _, rfl, hY⟩
  · subst he
    (repeat' (first | with_reducible refine p_seq ?_ | with_reducible refine p_next ?_ | with_reducible refine p_var (by with_unfolding_all rfl) ?_ | with_reducible refine p_c ?_ | with_reducible refine p_op ?_ | with_reducible refine p_cb ?_ | with_reducible refine p_call ?_ | with_reducible refine p_cons ?_ | with_reducible refine p_nil ?_ | with_reducible refine p_tup ?_ | with_reducible refine p_lst ?_ | with_reducible refine p_b ?_ | with_reducible refine p_qb ?_ | with_reducible refine p_and ?_ | with_reducible refine p_or ?_ | with_reducible refine p_not ?_ | with_reducible refine p_andV ?_ | with_reducible refine p_orV ?_ | with_reducible refine p_notV ?_ | with_reducible refine p_if ?_ | with_reducible refine p_ifS ?_ | with_reducible refine p_un ?_ | with_reducible refine p_neg ?_ | with_reducible refine p_ret ?_ | with_reducible refine p_retN ?_ | with_reducible refine p_drop ?_ | with_reducible refine p_asg' ?_ | with_reducible refine p_par ?_ | with_reducible refine p_setI ?_ | with_reducible refine p_sl ?_ | with_reducible refine p_noPart ?_ | with_reducible refine p_part ?_ | with_reducible refine p_partI ?_ | with_reducible refine p_kin ?_ | with_reducible refine p_kget ?_ | with_reducible refine p_lm ?_ | with_reducible refine p_for ?_ | with_reducible refine p_seqI ?_ | with_reducible refine p_seqL ?_ | with_reducible refine p_seqT ?_ | with_reducible refine p_rng1 ?_ | with_reducible refine p_rng1I (by unfold rng1; first | decide | (constructor <;> omega)) ?_ | with_reducible refine p_yes ?_ | with_reducible refine p_chain ?_ | with_reducible refine p_callK ?_ | with_reducible refine p_lc ?_ | with_reducible refine p_disp fun _ hp0 => ?_ | with_reducible refine p_get2 ?_ | with_reducible refine p_bindM (by with_unfolding_all rfl) ?_ | with_reducible refine p_mulI (by first | decide | omega) (by first | decide | omega) ?_ | with_reducible refine p_mod (by first | decide | omega | assumption) ?_ | with_reducible refine p_sub ?_ | with_reducible refine p_min ?_ | with_reducible refine p_max ?_ | with_reducible refine p_ix0 ?_ | with_reducible refine p_ix0L ?_ | with_reducible refine p_inT (by first | decide +kernel | exact ⟨rfl, rfl⟩ | (simp [flD]; done)) ?_ | with_reducible refine p_notInT (by first | decide +kernel | exact ⟨rfl, rfl⟩ | (simp [flD]; done)) ?_ | with_reducible refine p_fdiv (by first | assumption | decide) ?_ | with_reducible refine p_pow (by unfold CPow; decide) ?_ | with_reducible refine p_lt ?_ | with_reducible refine p_le ?_ | with_reducible refine p_gt ?_ | with_reducible refine p_ge ?_ | with_reducible refine p_eqI ?_ | with_reducible refine p_neI ?_ | with_reducible refine p_eqL (by first | decide +kernel | assumption) (by first | decide +kernel | assumption) ?_ | with_reducible refine p_neL (by first | decide +kernel | assumption) (by first | decide +kernel | assumption) ?_ | with_reducible refine p_eqT (by first | decide +kernel | assumption) (by first | decide +kernel | assumption) ?_ | with_reducible refine p_neT (by first | decide +kernel | assumption) (by first | decide +kernel | assumption) ?_ | with_reducible refine p_eqS (by first | decide +kernel | assumption) (by first | decide +kernel | assumption) ?_ | with_reducible refine p_neS (by first | decide +kernel | assumption) (by first | decide +kernel | assumption) ?_ | with_reducible refine p_isi (by with_unfolding_all rfl) (by decide) ?_ | with_reducible refine p_lmO (by first | assumption | exact sup_same) ?_ | with_reducible refine p_lmE (by first | assumption | exact sup_same) (by with_unfolding_all rfl) (by (first | exact True.intro | exact szl | (with_reducible assumption) | decide | (simp only [List.length_cons, List.length_nil]; first | exact szl | omega) | omega)) ?_ | with_reducible refine p_freeze (by with_unfolding_all rfl) (by first | assumption | exact sup_same) ?_ | with_reducible refine p_dispE (by assumption) (by with_unfolding_all rfl) ?_ | with_reducible refine p_getI (by with_unfolding_all rfl) ?_ | with_reducible refine p_getS (by with_unfolding_all rfl) (by with_unfolding_all rfl) (by first | with_unfolding_all rfl | with_unfolding_all assumption) ?_ | with_reducible refine p_getN (by with_unfolding_all rfl) (by with_unfolding_all rfl) (by first | with_unfolding_all rfl | with_unfolding_all assumption) ?_ | with_reducible refine p_r (by with_unfolding_all rfl) (by (first | exact True.intro | exact szl | (with_reducible assumption) | decide | (simp only [List.length_cons, List.length_nil]; first | exact szl | omega) | omega)) ?_ | with_reducible refine p_rc (by with_unfolding_all rfl) (by (first | exact True.intro | exact szl | (with_reducible assumption) | decide | (simp only [List.length_cons, List.length_nil]; first | exact szl | omega) | omega)) ?_ | with_reducible refine p_ixS (by first | assumption | exact sup_same) (by with_unfolding_all rfl) ?_ | with_reducible refine p_set (by first | assumption | exact sup_same) (by with_unfolding_all rfl) ?_ | with_reducible refine p_onE (by with_unfolding_all rfl) (by (first | exact True.intro | exact szl | (with_reducible assumption) | decide | (simp only [List.length_cons, List.length_nil]; first | exact szl | omega) | omega)) ?_ | with_reducible refine p_kgetS (by first | with_unfolding_all rfl | with_unfolding_all assumption) ?_ | with_reducible refine p_kinT (by first | with_unfolding_all rfl | with_unfolding_all assumption) ?_ | with_reducible refine p_kinF (by first | with_unfolding_all rfl | with_unfolding_all assumption) ?_ | with_reducible refine p_nkinT (by first | with_unfolding_all rfl | with_unfolding_all assumption) ?_ | with_reducible refine p_nkinF (by first | with_unfolding_all rfl | with_unfolding_all assumption) ?_ | with_reducible refine p_T (by with_unfolding_all rfl) ?_ | with_reducible refine p_F (by with_unfolding_all rfl) ?_ | with_reducible refine And.intro (a := List.length _ ≤ sizeLine) szl ?_ | with_reducible refine And.intro (a := List.length _ = _) (by with_unfolding_all rfl) ?_))
    rfl
end Lk55

open PySem PySem.W PyProof.Rows
set_option maxRecDepth 100000 in
set_option maxHeartbeats 0 in
theorem PySem.Challenge.cw_straightroads_k55_event_rows_holds : PySem.Challenge.rw_straightroads_k55_event_rows.Holds := by
  w_on; o_law; k_head; (case hw => w_witness2)
  k_fill
  refine PL.pl_walk (l := PySem.Challenge.rw_straightroads_k55_event_rows) (n := 63) (k := 5) (x := "_law_script") (sp := Lk55.d_law) rfl (by decide) rfl ⟨rfl, by decide, by decide⟩ (fun w h Y => PySem.W.kIn_of Y) ?F Lk55.law_true
  case F =>
    intro w mg fa h KX G hmg
    refine Lk55.fx_use (w := w) (mg := mg) KX ?T ?U
    case T =>
      refine' Lk55.fx_mk KX G ?p0 ?l0 ?c0 ?k0 ?p1 ?l1 ?c1 ?k1 ?p2 ?l2 ?c2 ?k2 ?p3 ?l3 ?c3 ?k3 ?p4 ?l4 ?c4 ?k4 ?p5 ?l5 ?c5 ?k5 ?p6 ?l6 ?c6 ?k6 ?p7 ?l7 ?c7 ?k7 ?p8 ?l8 ?c8 ?k8 ?p9 ?l9 ?c9 ?k9 ?p10 ?l10 ?c10 ?k10 ?p11 ?l11 ?c11 ?k11 ?z_bool ?z_int ?z_isinstance ?z_len ?z_list ?z_min ?z_range ?z_repr ?z_str ?z_tuple ?p_TOUCHING ?l_TOUCHING ?k_TOUCHING ?s_TOUCHING ?e_TOUCHING ?p_EXITS ?e_EXITS
      (case p0 => k_is)
      (case l0 => k_is)
      (case c0 => k_is)
      (case k0 => k_is)
      (case p1 => k_is)
      (case l1 => k_is)
      (case c1 => k_is)
      (case k1 => k_is)
      (case p2 => k_is)
      (case l2 => k_is)
      (case c2 => k_is)
      (case k2 => k_is)
      (case p3 => k_is)
      (case l3 => k_is)
      (case c3 => k_is)
      (case k3 => k_is)
      (case p4 => k_is)
      (case l4 => k_is)
      (case c4 => k_is)
      (case k4 => k_is)
      (case p5 => k_is)
      (case l5 => k_is)
      (case c5 => k_is)
      (case k5 => k_is)
      (case p6 => k_is)
      (case l6 => k_is)
      (case c6 => k_is)
      (case k6 => k_is)
      (case p7 => k_is)
      (case l7 => k_is)
      (case c7 => k_is)
      (case k7 => k_is)
      (case p8 => k_is)
      (case l8 => k_is)
      (case c8 => k_is)
      (case k8 => k_is)
      (case p9 => k_is)
      (case l9 => k_is)
      (case c9 => k_is)
      (case k9 => k_is)
      (case p10 => k_is)
      (case l10 => k_is)
      (case c10 => k_is)
      (case k10 => k_is)
      (case p11 => k_is)
      (case l11 => k_is)
      (case c11 => k_is)
      (case k11 => k_is)
      (case z_bool => k_is)
      (case z_int => k_is)
      (case z_isinstance => k_is)
      (case z_len => k_is)
      (case z_list => k_is)
      (case z_min => k_is)
      (case z_range => k_is)
      (case z_repr => k_is)
      (case z_str => k_is)
      (case z_tuple => k_is)
      (case p_TOUCHING => k_is)
      (case l_TOUCHING => k_is)
      (case k_TOUCHING => (repeat (first | exact True.intro | refine ⟨⟨_, _, rfl, rfl⟩, ?_⟩)))
      (case s_TOUCHING => decide)
      (case e_TOUCHING => exact (.cons rfl (.tup (by k_is) rfl rfl (by decide) (.cons (.int _ _) (.cons (.int _ _) .nil))) (.cons rfl (.tup (by k_is) rfl rfl (by decide) (.cons (.int _ _) (.cons (.int _ _) .nil))) (.cons rfl (.tup (by k_is) rfl rfl (by decide) (.cons (.int _ _) (.cons (.int _ _) .nil))) .nil))))
      (case p_EXITS => k_is)
      (case e_EXITS => exact (.tup (by k_is) rfl rfl (by decide) (.cons (.str _ _) (.cons (.str _ _) .nil))))
    intro T
    cases T.g_law.symm.trans hmg
    refine ⟨T.fd_law, fun s v => ?_, fun base _ _ => Lk55.ok_law T⟩
    obtain ⟨oc, od, kV, doc, pm, an, cdv, ct, osl, e, _, _⟩ := T.F_law.ex
    rw [e]
    exact .of_eq rfl
