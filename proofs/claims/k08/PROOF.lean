import PyProof.Rows.All
import Wide.All
import OpenK.AllK
import Wide.FinOn
import HandS.ForMost
import HandS.Exc
import HandS.WordsExc
import HandS.TupAny
import HandS.Style
import HandS.Defaults
import HandS.IsInst
import HandS.Zip
import HandS.Flow
import HandS.Wide
import HandS.Text
import HandS.Iter
import PyProof.AutoSeq1
import HandS.CallSlots
import HandS.HeadEnd
import HandS.Head0
import HandS.Head1
import HandS.Head2
import HandS.HeadHook1
import HandS.HeadHook2
import KE.KStateDown
import HandS.MakeKw
import PySem.Challenge.RW_foldpost_k08_whole_base_64_judged
section
set_option Elab.async false
set_option linter.all false
set_option maxRecDepth 100000
namespace Z
open PySem PySem.Spec PyProof.Rows L2

/-! ### data -/
inductive D where
  | non | bl (b : Bool) | int (i : Int) | str (x : Str)
  | tup (xs : List D) | lst (xs : List D) | fz (xs : List D)
  deriving Inhabited
inductive Tg where
  | no | sh | sl (i : Nat) | io (i : Nat)
  deriving DecidableEq
/-- nobody's own -/
def Tg.fr : Tg → Bool
  | .no => true | .sh => true | .sl _ => false | .io _ => false
abbrev Who := Addr → Tg
/-- a list of the written part -/
def KL (K : PySem.W.Frag) (a : Addr) (xs : List V) : Prop :=
  ∃ (o : Obj) (its : Array Value) (n : Nat), K.lookup a = some o ∧ o.cls = .type "list" ∧ o.dict = none ∧ o.data = .seq its n ∧ its.size ≤ sizeLine ∧ Vals xs its.toList
mutual
inductive Rep (K : PySem.W.Frag) (wh : Who) (H : Hp) : D → V → Prop
  | non : Rep K wh H .non .non
  | bl (b : Bool) : Rep K wh H (.bl b) (.bl b)
  | int (i : Int) : Rep K wh H (.int i) (.int i)
  | str (x : Str) : Rep K wh H (.str x) (.str x)
  | tup {a : Addr} {vs : List V} {xs : List D} : SqT K H a vs → RepL K wh H xs vs → Rep K wh H (.tup xs) (.ref a)
  | lst {a : Addr} {vs : List V} {xs : List D} : wh a = .sh → H a = some (.lst vs) → RepL K wh H xs vs → Rep K wh H (.lst xs) (.ref a)
  | fz {a : Addr} {vs : List V} {xs : List D} : (wh a = .sh ∧ Rd H a (.lst vs)) ∨ KL K a vs → RepL K wh H xs vs → Rep K wh H (.fz xs) (.ref a)
inductive RepL (K : PySem.W.Frag) (wh : Who) (H : Hp) : List D → List V → Prop
  | nil : RepL K wh H [] []
  | cons {d : D} {v : V} {ds : List D} {vs : List V} : Rep K wh H d v → RepL K wh H ds vs → RepL K wh H (d :: ds) (v :: vs)
end
/-- what stays through a step -/
structure Ext (wh : Who) (H : Hp) (wh' : Who) (H' : Hp) : Prop where
  keep : ∀ a o, H a = some o → (wh a).fr = true → H' a = some o
  keepI : ∀ a o, H a = some o → (∀ xs, o ≠ .lst xs) → H' a = some o
  shr : ∀ a, wh a = .sh → wh' a = .sh
  tmp : ∀ a, wh a = .no → H a ≠ none → wh' a = .no
  dom : ∀ a, H a ≠ none → H' a ≠ none
  src : ∀ a, H a = none → wh a = .no
  io : ∀ a i, wh' a = .io i → wh a = .io i
theorem Ext.refl {wh : Who} {H : Hp} (s : ∀ a, H a = none → wh a = .no) : Ext wh H wh H := ⟨fun _ _ h _ => h, fun _ _ h _ => h, fun _ h => h, fun _ h _ => h, fun _ h => h, s, fun _ _ h => h⟩
theorem Ext.trans {wh wh1 wh2 : Who} {H H1 H2 : Hp} (a : Ext wh H wh1 H1) (b : Ext wh1 H1 wh2 H2) : Ext wh H wh2 H2 where
  keep := fun c o h n => by
    refine b.keep c o (a.keep c o h n) ?_
    cases q : wh c with
    | no => rw [a.tmp c q (by rw [h]; exact fun z => (nomatch z))]; rfl
    | sh => rw [a.shr c q]; rfl
    | sl i => rw [q] at n; cases n
    | io i => rw [q] at n; cases n
  keepI := fun c o h n => b.keepI c o (a.keepI c o h n) n
  shr := fun c h => b.shr c (a.shr c h)
  tmp := fun c h n => b.tmp c (a.tmp c h n) (a.dom c n)
  dom := fun c n => b.dom c (a.dom c n)
  src := a.src
  io := fun c i h => a.io c i (b.io c i h)
theorem Ext.back {wh wh' : Who} {H H' : Hp} (e : Ext wh H wh' H') {a : Addr} (h : H' a = none) : H a = none := by
  cases q : H a with
  | none => rfl
  | some o => exact absurd h (e.dom a (by rw [q]; exact fun z => nomatch z))
theorem Ext.rdT {wh wh' : Who} {H H' : Hp} (e : Ext wh H wh' H') {a : Addr} {vs : List V} (h : Rd H a (.tup vs)) : Rd H' a (.tup vs) := by
  rcases h with h | ⟨o, h⟩
  · exact .inl (e.keepI a _ h fun xs z => nomatch z)
  · exact .inr ⟨o, e.keepI a _ h fun xs z => nomatch z⟩
theorem Ext.rdF {wh wh' : Who} {H H' : Hp} (e : Ext wh H wh' H') {a : Addr} {vs : List V} (s : wh a = .sh) (h : Rd H a (.lst vs)) : Rd H' a (.lst vs) := by
  rcases h with h | ⟨o, h⟩
  · exact .inl (e.keep a _ h (by rw [s]; rfl))
  · exact .inr ⟨o, e.keepI a _ h fun xs z => nomatch z⟩
theorem Ext.sqT {K : PySem.W.Frag} {wh wh' : Who} {H H' : Hp} (e : Ext wh H wh' H') {a : Addr} {vs : List V} (h : SqT K H a vs) : SqT K H' a vs := by
  rcases h with h | h
  · exact .inl (e.rdT h)
  · exact .inr h
mutual
theorem Rep.mono {K : PySem.W.Frag} {wh wh' : Who} {H H' : Hp} (e : Ext wh H wh' H') : ∀ {d : D} {v : V}, Rep K wh H d v → Rep K wh' H' d v
  | _, _, .non => .non
  | _, _, .bl b => .bl b
  | _, _, .int i => .int i
  | _, _, .str x => .str x
  | _, _, .tup h r => .tup (e.sqT h) (RepL.mono e r)
  | _, _, .lst s h r => .lst (e.shr _ s) (e.keep _ _ h (by rw [s]; rfl)) (RepL.mono e r)
  | _, _, .fz h r => .fz (h.elim (fun ⟨s, h⟩ => .inl ⟨e.shr _ s, e.rdF s h⟩) .inr) (RepL.mono e r)
theorem RepL.mono {K : PySem.W.Frag} {wh wh' : Who} {H H' : Hp} (e : Ext wh H wh' H') : ∀ {ds : List D} {vs : List V}, RepL K wh H ds vs → RepL K wh' H' ds vs
  | _, _, .nil => .nil
  | _, _, .cons h r => .cons (Rep.mono e h) (RepL.mono e r)
end
section
variable {K : PySem.W.Frag} {wh : Who} {H : Hp}
theorem RepL.length : ∀ {ds : List D} {vs : List V}, RepL K wh H ds vs → ds.length = vs.length
  | _, _, .nil => rfl
  | _, _, .cons _ r => congrArg Nat.succ r.length
theorem RepL.append : ∀ {ds es : List D} {vs us : List V}, RepL K wh H ds vs → RepL K wh H es us → RepL K wh H (ds ++ es) (vs ++ us)
  | _, _, _, _, .nil, s => s
  | _, _, _, _, .cons h r, s => .cons h (r.append s)
theorem RepL.get : ∀ {ds : List D} {vs : List V} {i : Nat} {d : D}, RepL K wh H ds vs → ds[i]? = some d → ∃ v, vs[i]? = some v ∧ Rep K wh H d v
  | _, _, _, _, .nil, e => by simp at e
  | _, _, 0, _, .cons h _, e => by simp at e; subst e; exact ⟨_, rfl, h⟩
  | _, _, i + 1, d, .cons _ r, e => by
    obtain ⟨v, h1, h2⟩ := RepL.get (i := i) (d := d) r (by simpa using e)
    exact ⟨v, by simpa using h1, h2⟩
theorem RepL.getV : ∀ {ds : List D} {vs : List V} {i : Nat} {v : V}, RepL K wh H ds vs → vs[i]? = some v → ∃ d, ds[i]? = some d ∧ Rep K wh H d v
  | _, _, _, _, .nil, e => by simp at e
  | _, _, 0, _, .cons h _, e => by simp at e; subst e; exact ⟨_, rfl, h⟩
  | _, _, i + 1, d, .cons _ r, e => by
    obtain ⟨v, h1, h2⟩ := RepL.getV (i := i) (v := d) r (by simpa using e)
    exact ⟨v, by simpa using h1, h2⟩
theorem RepL.take : ∀ {ds : List D} {vs : List V} (n : Nat), RepL K wh H ds vs → RepL K wh H (ds.take n) (vs.take n)
  | _, _, 0, _ => .nil
  | _, _, _ + 1, .nil => .nil
  | _, _, n + 1, .cons h r => .cons h (RepL.take n r)
theorem RepL.drop : ∀ {ds : List D} {vs : List V} (n : Nat), RepL K wh H ds vs → RepL K wh H (ds.drop n) (vs.drop n)
  | _, _, 0, r => r
  | _, _, _ + 1, .nil => .nil
  | _, _, n + 1, .cons _ r => RepL.drop n r
theorem RepL.set {d : D} {v : V} (h : Rep K wh H d v) : ∀ {ds : List D} {vs : List V} (i : Nat), RepL K wh H ds vs → RepL K wh H (ds.set i d) (vs.set i v)
  | _, _, _, .nil => .nil
  | _, _, 0, .cons _ r => .cons h r
  | _, _, i + 1, .cons q r => .cons q (RepL.set h i r)
theorem RepL.rep : ∀ {ds : List D} {vs : List V} (n : Nat), RepL K wh H ds vs → RepL K wh H (List.replicate n ds).flatten (List.replicate n vs).flatten
  | _, _, 0, _ => .nil
  | _, _, n + 1, r => by
    rw [List.replicate_succ, List.replicate_succ, List.flatten_cons, List.flatten_cons]
    exact r.append (RepL.rep n r)
end
/-! ### slots, results -/
inductive Sl where
  | un | sh (d : D) | ow (xs : List D) | io (xs : List D)
  deriving Inhabited
abbrev Fm := List Sl
inductive Rv where
  | sh (d : D) | fr (xs : List D) | ow (i : Nat)
structure Ex where
  cls : Str
  fs : List (Str × D)
inductive Rs (α : Type) where
  | ok (a : α) (F : Fm) | ex (e : Ex) (F : Fm) | bad
def Rs.bind {α β : Type} (r : Rs α) (k : α → Fm → Rs β) : Rs β := match r with
  | .ok a F => k a F
  | .ex e F => .ex e F
  | .bad => .bad
def RS (K : PySem.W.Frag) (wh : Who) (H : Hp) (σ : L2.St) (i : Nat) : Sl → Prop
  | .un => True
  | .sh d => ∃ v, σ[i]? = some (some v) ∧ Rep K wh H d v
  | .ow xs => ∃ a vs, σ[i]? = some (some (.ref a)) ∧ wh a = .sl i ∧ H a = some (.lst vs) ∧ RepL K wh H xs vs
  | .io xs => ∃ a vs, σ[i]? = some (some (.ref a)) ∧ wh a = .io i ∧ H a = some (.lst vs) ∧ RepL K wh H xs vs
structure Rl (K : PySem.W.Frag) (wh : Who) (H : Hp) (F : Fm) (σ : L2.St) : Prop where
  len : σ.length = F.length
  rs : ∀ i s, F[i]? = some s → RS K wh H σ i s
  own : ∀ a i, wh a = .sl i → ∃ xs, F[i]? = some (.ow xs) ∧ σ[i]? = some (some (.ref a))
  ownI : ∀ a i, wh a = .io i → ∃ xs, F[i]? = some (.io xs) ∧ σ[i]? = some (some (.ref a))
  dom : ∀ a, wh a ≠ .no → H a ≠ none
def RR (K : PySem.W.Frag) (H0 : Hp) (wh : Who) (H : Hp) (σ : L2.St) : Rv → V → Prop
  | .sh d, v => Rep K wh H d v
  | .fr xs, v => ∃ a vs, v = .ref a ∧ H0 a = none ∧ wh a = .no ∧ H a = some (.lst vs) ∧ RepL K wh H xs vs
  | .ow i, v => σ[i]? = some (some v)
theorem RR.mono {K : PySem.W.Frag} {H0 : Hp} {wh wh' : Who} {H H' : Hp} {σ : L2.St} (e : Ext wh H wh' H') {rv : Rv} {v : V} (h : RR K H0 wh H σ rv v) : RR K H0 wh' H' σ rv v := by
  cases rv with
  | sh d => exact Rep.mono e h
  | fr xs =>
    obtain ⟨a, vs, rfl, h0, h1, h2, h3⟩ := h
    exact ⟨a, vs, rfl, h0, e.tmp a h1 (by rw [h2]; exact fun z => (nomatch z)), e.keep a _ h2 (by rw [h1]; rfl), RepL.mono e h3⟩
  | ow i => exact h
theorem RR.base {K : PySem.W.Frag} {H0 H1 : Hp} {wh wh0 wh1 : Who} {H : Hp} {σ : L2.St} (e : Ext wh0 H0 wh1 H1) {rv : Rv} {v : V} (h : RR K H1 wh H σ rv v) : RR K H0 wh H σ rv v := by
  cases rv with
  | sh d => exact h
  | fr xs =>
    obtain ⟨a, vs, rfl, h0, h1, h2, h3⟩ := h
    exact ⟨a, vs, rfl, e.back h0, h1, h2, h3⟩
  | ow i => exact h
/-! ### constants of a proof: the written part, the module's names, the wish for exceptions -/
structure Cn where
  K : PySem.W.Frag
  mg : Str → Option Value
  W : WX
def ExR (C : Cn) (wh : Who) (H : Hp) (e : Ex) (cl : Value) (d : Option Addr) : Prop :=
  ∃ c, C.mg e.cls = some (.ref c) ∧ cl = .ref c ∧ (e.fs = [] ∨ ∃ a fs, d = some a ∧ H a = some (.xd fs) ∧ fs.map (·.1) = e.fs.map (·.1) ∧ RepL C.K wh H (e.fs.map (·.2)) (fs.map (·.2)))
def exW (C : Cn) (wh : Who) (H : Hp) (σ : L2.St) (e : Ex) (F : Fm) : Prop :=
  ∀ wh' H' cl d, Ext wh H wh' H' → Rl C.K wh' H' F σ → ExR C wh' H' e cl d → C.W cl d σ H'
def okW {α : Type} (C : Cn) (wh : Who) (H : Hp) (σ : L2.St) (r : Rs α) (P : α → Who → Hp → Prop) : Prop := match r with
  | .ok a F => ∀ wh' H', Ext wh H wh' H' → Rl C.K wh' H' F σ → P a wh' H'
  | .ex e F => exW C wh H σ e F
  | .bad => False
/-- an expression's reading, by its meaning m -/
def tX (C : Cn) (m : Fm → Rs Rv) : TE := fun σ H Q => ∃ wh F, Rl C.K wh H F σ ∧ okW C wh H σ (m F) fun rv wh' H' => ∀ v, RR C.K H wh' H' σ rv v → Q v H'
def tT (C : Cn) (m : Fm → Rs Bool) : TT := fun σ H Q => ∃ wh F, Rl C.K wh H F σ ∧ okW C wh H σ (m F) fun b _ H' => Q b H'
/-- the values of a list of results -/
inductive RRL (K : PySem.W.Frag) (H0 : Hp) (wh : Who) (H : Hp) (σ : L2.St) : List Rv → List V → Prop
  | nil : RRL K H0 wh H σ [] []
  | cons {r : Rv} {v : V} {rs : List Rv} {vs : List V} : RR K H0 wh H σ r v → RRL K H0 wh H σ rs vs → RRL K H0 wh H σ (r :: rs) (v :: vs)
theorem RRL.mono {K : PySem.W.Frag} {H0 : Hp} {wh wh' : Who} {H H' : Hp} {σ : L2.St} (e : Ext wh H wh' H') : ∀ {rs : List Rv} {vs : List V}, RRL K H0 wh H σ rs vs → RRL K H0 wh' H' σ rs vs
  | _, _, .nil => .nil
  | _, _, .cons h r => .cons (h.mono e) (r.mono e)
theorem RRL.base {K : PySem.W.Frag} {H0 H1 : Hp} {wh wh0 wh1 : Who} {H : Hp} {σ : L2.St} (e : Ext wh0 H0 wh1 H1) : ∀ {rs : List Rv} {vs : List V}, RRL K H1 wh H σ rs vs → RRL K H0 wh H σ rs vs
  | _, _, .nil => .nil
  | _, _, .cons h r => .cons (h.base e) (r.base e)
def tA (C : Cn) (m : Fm → Rs (List Rv)) : TA := fun σ H Q => ∃ wh F, Rl C.K wh H F σ ∧ okW C wh H σ (m F) fun rs wh' H' => ∀ vs, RRL C.K H wh' H' σ rs vs → Q vs H'
theorem exW.trans {C : Cn} {wh wh1 : Who} {H H1 : Hp} {σ : L2.St} {e : Ex} {F : Fm} (x : Ext wh H wh1 H1) (h : exW C wh H σ e F) : exW C wh1 H1 σ e F := fun wh' H' cl d a b c => h wh' H' cl d (x.trans a) b c
/-- what follows a step, from a later state -/
theorem okW.bind {α β : Type} {C : Cn} {wh : Who} {H : Hp} {σ : L2.St} {r : Rs α} {k : α → Fm → Rs β} {P : β → Who → Hp → Prop} (h : okW C wh H σ (r.bind k) P) :
    (∀ a F, r = .ok a F → ∀ wh1 H1, Ext wh H wh1 H1 → okW C wh1 H1 σ (k a F) fun b wh2 H2 => Ext wh H wh2 H2 → P b wh2 H2) ∧ (∀ e F, r = .ex e F → exW C wh H σ e F) ∧ r ≠ .bad := by
  cases r with
  | ok a F =>
    refine ⟨fun a' F' e wh1 H1 x => ?_, fun _ _ e => (nomatch e), fun e => (nomatch e)⟩
    cases e
    have h' : okW C wh H σ (k a F) P := h
    cases q : k a F with
    | ok b G =>
      rw [q] at h'
      exact fun wh2 H2 x2 rl _ => h' wh2 H2 (x.trans x2) rl
    | ex e G =>
      rw [q] at h'
      exact exW.trans x h'
    | bad => rw [q] at h'; exact h'
  | ex e F => exact ⟨fun _ _ e => (nomatch e), fun _ _ q => (by cases q; exact h), fun e => (nomatch e)⟩
  | bad => exact h.elim
end Z

end
section
set_option Elab.async false
set_option linter.all false
set_option maxRecDepth 100000
namespace Z
open PySem PySem.Spec PyProof.Rows L2

/-! ### steps on states -/
def setW (wh : Who) (a : Addr) (t : Tg) : Who := fun b => if b = a then t else wh b
theorem setW_same {wh : Who} {a : Addr} {t : Tg} : setW wh a t a = t := by unfold setW; rw [if_pos rfl]
theorem setW_ne {wh : Who} {a b : Addr} {t : Tg} (h : b ≠ a) : setW wh a t b = wh b := by unfold setW; rw [if_neg h]
section
variable {K : PySem.W.Frag} {wh : Who} {H : Hp} {F : Fm} {σ : L2.St}
theorem Rl.free (r : Rl K wh H F σ) {p : Addr} (h : H p = none) : wh p = .no := by
  cases q : wh p with
  | no => rfl
  | sh => exact absurd h (r.dom p (by rw [q]; exact fun z => (nomatch z)))
  | sl i => exact absurd h (r.dom p (by rw [q]; exact fun z => (nomatch z)))
  | io i => exact absurd h (r.dom p (by rw [q]; exact fun z => (nomatch z)))
theorem Rl.refl (r : Rl K wh H F σ) : Ext wh H wh H := .refl fun _ h => r.free h
/-- a tag that says whose it is -/
def Tg.at (t : Tg) (i : Nat) : Prop := t = .sl i ∨ t = .io i
theorem Tg.at.nfr {t : Tg} {i : Nat} (h : t.at i) : t.fr = false := by rcases h with h | h <;> rw [h] <;> rfl
theorem Tg.at.inj {t : Tg} {i j : Nat} (h : t.at i) (g : t.at j) : i = j := by
  rcases h with h | h <;> rcases g with g | g <;> (rw [h] at g; cases g) <;> rfl
theorem RS.mono {wh' : Who} {H' : Hp} {i : Nat} {s : Sl} (e : Ext wh H wh' H') (hw : ∀ a, (wh a).at i → wh' a = wh a ∧ H' a = H a) (h : RS K wh H σ i s) : RS K wh' H' σ i s := by
  cases s with
  | un => trivial
  | sh d => obtain ⟨v, h1, h2⟩ := h; exact ⟨v, h1, h2.mono e⟩
  | ow xs =>
    obtain ⟨a, vs, h1, h2, h3, h4⟩ := h
    obtain ⟨q1, q2⟩ := hw a (.inl h2)
    exact ⟨a, vs, h1, q1.trans h2, by rw [q2]; exact h3, h4.mono e⟩
  | io xs =>
    obtain ⟨a, vs, h1, h2, h3, h4⟩ := h
    obtain ⟨q1, q2⟩ := hw a (.inr h2)
    exact ⟨a, vs, h1, q1.trans h2, by rw [q2]; exact h3, h4.mono e⟩
theorem RS.slots {σ' : L2.St} {i : Nat} {s : Sl} (e : σ'[i]? = σ[i]?) (h : RS K wh H σ i s) : RS K wh H σ' i s := by
  cases s with
  | un => trivial
  | sh d => obtain ⟨v, h1, h2⟩ := h; exact ⟨v, e.trans h1, h2⟩
  | ow xs => obtain ⟨a, vs, h1, h2⟩ := h; exact ⟨a, vs, e.trans h1, h2⟩
  | io xs => obtain ⟨a, vs, h1, h2⟩ := h; exact ⟨a, vs, e.trans h1, h2⟩
/-- a new object -/
theorem Ext.new {p : Addr} {o : HO} (s : ∀ a, H a = none → wh a = .no) (h : H p = none) : Ext wh H wh (upd H p o) :=
  ⟨fun a u e _ => by rw [upd_ne (ne_of_none e h)]; exact e, fun a u e _ => by rw [upd_ne (ne_of_none e h)]; exact e, fun _ e => e, fun _ e _ => e, fun a n => by
    by_cases q : a = p
    · subst q; exact absurd h n
    · rw [upd_ne q]; exact n, s, fun _ _ e => e⟩
theorem Rl.ext_new (r : Rl K wh H F σ) {p : Addr} {o : HO} (h : H p = none) : Ext wh H wh (upd H p o) := .new (fun _ z => r.free z) h
theorem Rl.new (r : Rl K wh H F σ) {p : Addr} {o : HO} (h : H p = none) : Rl K wh (upd H p o) F σ := by
  have e := r.ext_new (o := o) h
  refine ⟨r.len, fun i s hs => (r.rs i s hs).mono e fun a ha => ⟨rfl, upd_ne (fun z => ?_)⟩, r.own, r.ownI, fun a ha => e.dom a (r.dom a ha)⟩
  subst z
  have := ha.nfr
  rw [r.free h] at this
  cases this
/-- a fresh thing is tagged -/
theorem Ext.tag {wh0 : Who} {H0 : Hp} (x : Ext wh0 H0 wh H) {a : Addr} {t : Tg} (h : H0 a = none) (ht : ∀ i, t ≠ .io i) : Ext wh0 H0 (setW wh a t) H :=
  ⟨x.keep, x.keepI, fun b e => by
    rw [setW_ne (fun z => by subst z; rw [x.src _ h] at e; cases e)]
    exact x.shr b e, fun b e n => by
    rw [setW_ne (fun z => by subst z; exact n h)]
    exact x.tmp b e n, x.dom, x.src, fun b i e => by
    by_cases z : b = a
    · subst z; rw [setW_same] at e; exact absurd e (ht i)
    · rw [setW_ne z] at e; exact x.io b i e⟩
/- a tag is given to a thing that is no share -/
mutual
theorem Rep.tagN {a : Addr} {t : Tg} (h : wh a ≠ .sh) : ∀ {d : D} {v : V}, Rep K wh H d v → Rep K (setW wh a t) H d v
  | _, _, .non => .non
  | _, _, .bl b => .bl b
  | _, _, .int i => .int i
  | _, _, .str x => .str x
  | _, _, .tup q r => .tup q (RepL.tagN h r)
  | _, _, .lst s q r => .lst (by rw [setW_ne (fun z => h (by rw [← z]; exact s))]; exact s) q (RepL.tagN h r)
  | _, _, .fz q r => .fz (q.elim (fun ⟨s, q⟩ => .inl ⟨by rw [setW_ne (fun z => h (by rw [← z]; exact s))]; exact s, q⟩) .inr) (RepL.tagN h r)
theorem RepL.tagN {a : Addr} {t : Tg} (h : wh a ≠ .sh) : ∀ {ds : List D} {vs : List V}, RepL K wh H ds vs → RepL K (setW wh a t) H ds vs
  | _, _, .nil => .nil
  | _, _, .cons q r => .cons (Rep.tagN h q) (RepL.tagN h r)
end
theorem RS.tagN {a : Addr} {t : Tg} {i : Nat} {s : Sl} (h : wh a ≠ .sh) (hn : ¬ (wh a).at i) (q : RS K wh H σ i s) : RS K (setW wh a t) H σ i s := by
  cases s with
  | un => trivial
  | sh d => obtain ⟨v, h1, h2⟩ := q; exact ⟨v, h1, h2.tagN h⟩
  | ow xs => obtain ⟨b, vs, h1, h2, h3, h4⟩ := q; exact ⟨b, vs, h1, by rw [setW_ne (fun z => hn (by rw [← z]; exact .inl h2))]; exact h2, h3, h4.tagN h⟩
  | io xs => obtain ⟨b, vs, h1, h2, h3, h4⟩ := q; exact ⟨b, vs, h1, by rw [setW_ne (fun z => hn (by rw [← z]; exact .inr h2))]; exact h2, h3, h4.tagN h⟩
/-- a temporary list becomes a share -/
theorem Rl.shareT (r : Rl K wh H F σ) {a : Addr} (h : wh a = .no) (n : H a ≠ none) : Rl K (setW wh a .sh) H F σ := by
  have hs : wh a ≠ .sh := by rw [h]; exact fun z => (nomatch z)
  refine ⟨r.len, fun i s hs' => (r.rs i s hs').tagN hs (fun z => by have := z.nfr; rw [h] at this; cases this), fun b i q => ?_, fun b i q => ?_, fun b q => ?_⟩
  · by_cases e : b = a
    · subst e; rw [setW_same] at q; cases q
    · rw [setW_ne e] at q; exact r.own b i q
  · by_cases e : b = a
    · subst e; rw [setW_same] at q; cases q
    · rw [setW_ne e] at q; exact r.ownI b i q
  · by_cases e : b = a
    · subst e; exact n
    · rw [setW_ne e] at q; exact r.dom b q
/-- the list of slot i becomes a share -/
theorem Rl.freeze (r : Rl K wh H F σ) {i : Nat} {xs : List D} (hF : F[i]? = some (.ow xs)) :
    ∃ a wh', σ[i]? = some (some (.ref a)) ∧ Ext wh H wh' H ∧ Rl K wh' H (F.set i (.sh (.lst xs))) σ ∧ Rep K wh' H (.lst xs) (.ref a) := by
  obtain ⟨a, vs, h1, h2, h3, h4⟩ := r.rs i _ hF
  have hs : wh a ≠ .sh := by rw [h2]; exact fun z => (nomatch z)
  have hi : i < F.length := (List.getElem?_eq_some_iff.mp hF).1
  have rep : Rep K (setW wh a .sh) H (.lst xs) (.ref a) := .lst setW_same h3 (h4.tagN hs)
  refine ⟨a, setW wh a .sh, h1, ⟨fun _ _ e _ => e, fun _ _ e _ => e, fun b e => ?_, fun b e n => ?_, fun _ e => e, fun _ z => r.free z, fun b j e => ?_⟩, ⟨by rw [List.length_set]; exact r.len, fun j s hs' => ?_, fun b j q => ?_, fun b j q => ?_, fun b q => ?_⟩, rep⟩
  · by_cases z : b = a
    · subst z; exact setW_same
    · rw [setW_ne z]; exact e
  · rw [setW_ne (fun z => by subst z; rw [h2] at e; cases e)]; exact e
  · by_cases z : b = a
    · subst z; rw [setW_same] at e; cases e
    · rw [setW_ne z] at e; exact e
  · by_cases e : j = i
    · subst e
      rw [List.getElem?_set_self hi] at hs'
      cases hs'
      exact ⟨_, h1, rep⟩
    · rw [List.getElem?_set_ne (Ne.symm e)] at hs'
      exact (r.rs j s hs').tagN hs fun z => e (z.inj (.inl h2))
  · by_cases e : b = a
    · subst e; rw [setW_same] at q; cases q
    · rw [setW_ne e] at q
      have e' : j ≠ i := fun z => by
        subst z
        obtain ⟨_, _, g⟩ := r.own b j q
        rw [h1] at g
        cases g
        exact e rfl
      rw [List.getElem?_set_ne (Ne.symm e')]
      exact r.own b j q
  · by_cases e : b = a
    · subst e; rw [setW_same] at q; cases q
    · rw [setW_ne e] at q
      obtain ⟨ys, g1, g2⟩ := r.ownI b j q
      have e' : j ≠ i := fun z => by
        subst z
        rw [hF] at g1
        cases g1
      exact ⟨ys, by rw [List.getElem?_set_ne (Ne.symm e')]; exact g1, g2⟩
  · by_cases e : b = a
    · subst e; rw [h3]; exact fun z => (nomatch z)
    · rw [setW_ne e] at q; exact r.dom b q
/-- the list of slot i is changed in place -/
theorem Ext.put {a : Addr} {vs us : List V} (s : ∀ a, H a = none → wh a = .no) (h : (wh a).fr = false) (h3 : H a = some (.lst vs)) : Ext wh H wh (upd H a (.lst us)) := by
  refine ⟨fun b o e n => ?_, fun b o e n => ?_, fun _ e => e, fun _ e _ => e, fun b n => ?_, s, fun _ _ e => e⟩
  · rw [upd_ne (fun z => by subst z; rw [h] at n; cases n)]; exact e
  · rw [upd_ne (fun z => by subst z; rw [h3] at e; cases e; exact n _ rfl)]; exact e
  · by_cases z : b = a
    · subst z; rw [upd_same]; exact fun z => (nomatch z)
    · rw [upd_ne z]; exact n
/-- what a slot that owns a list holds -/
def Sl.own : Sl → Option (List D)
  | .ow xs => some xs
  | .io xs => some xs
  | _ => none
def Sl.put : Sl → List D → Sl
  | .io _, ys => .io ys
  | _, ys => .ow ys
theorem Rl.at (r : Rl K wh H F σ) {i : Nat} {s : Sl} {xs : List D} (hF : F[i]? = some s) (ho : s.own = some xs) : ∃ a vs, σ[i]? = some (some (.ref a)) ∧ (wh a).at i ∧ H a = some (.lst vs) ∧ RepL K wh H xs vs := by
  have q := r.rs i s hF
  cases s with
  | un => cases ho
  | sh d => cases ho
  | ow ys => cases ho; obtain ⟨a, vs, h1, h2, h3⟩ := q; exact ⟨a, vs, h1, .inl h2, h3⟩
  | io ys => cases ho; obtain ⟨a, vs, h1, h2, h3⟩ := q; exact ⟨a, vs, h1, .inr h2, h3⟩
theorem Rl.put (r : Rl K wh H F σ) {i : Nat} {s : Sl} {xs ys : List D} {a : Addr} {us : List V} (hF : F[i]? = some s) (ho : s.own = some xs) (ha : σ[i]? = some (some (.ref a))) (hy : RepL K wh H ys us) :
    Ext wh H wh (upd H a (.lst us)) ∧ Rl K wh (upd H a (.lst us)) (F.set i (s.put ys)) σ := by
  have q0 := r.rs i s hF
  obtain ⟨b, vs, h1, h2, h3, h4⟩ := r.at hF ho
  rw [ha] at h1
  cases h1
  have x : Ext wh H wh (upd H a (.lst us)) := .put (fun _ z => r.free z) h2.nfr h3
  have hi : i < F.length := (List.getElem?_eq_some_iff.mp hF).1
  refine ⟨x, by rw [List.length_set]; exact r.len, fun j t hs' => ?_, fun b j q => ?_, fun b j q => ?_, fun b q => x.dom b (r.dom b q)⟩
  · by_cases e : j = i
    · subst e
      rw [List.getElem?_set_self hi] at hs'
      cases hs'
      cases s with
      | un => cases ho
      | sh d => cases ho
      | ow zs =>
        obtain ⟨c, ws, g1, g2, _⟩ := q0
        rw [ha] at g1
        cases g1
        exact ⟨a, us, ha, g2, upd_same, hy.mono x⟩
      | io zs =>
        obtain ⟨c, ws, g1, g2, _⟩ := q0
        rw [ha] at g1
        cases g1
        exact ⟨a, us, ha, g2, upd_same, hy.mono x⟩
    · rw [List.getElem?_set_ne (Ne.symm e)] at hs'
      refine (r.rs j t hs').mono x fun c hc => ⟨rfl, upd_ne fun z => ?_⟩
      subst z
      exact e (hc.inj h2)
  · obtain ⟨zs, g1, g2⟩ := r.own b j q
    by_cases e : j = i
    · subst e
      rw [hF] at g1
      cases g1
      exact ⟨ys, by rw [List.getElem?_set_self hi]; rfl, g2⟩
    · exact ⟨zs, by rw [List.getElem?_set_ne (Ne.symm e)]; exact g1, g2⟩
  · obtain ⟨zs, g1, g2⟩ := r.ownI b j q
    by_cases e : j = i
    · subst e
      rw [hF] at g1
      cases g1
      exact ⟨ys, by rw [List.getElem?_set_self hi]; rfl, g2⟩
    · exact ⟨zs, by rw [List.getElem?_set_ne (Ne.symm e)]; exact g1, g2⟩
/-- a slot that owns is forgotten -/
def relax (wh : Who) (i : Nat) : Who := fun b => if wh b = .sl i then .no else wh b
theorem relax_ne {b : Addr} {i : Nat} (h : wh b ≠ .sl i) : relax wh i b = wh b := by unfold relax; rw [if_neg h]
theorem relax_eq {b : Addr} {i : Nat} (h : wh b = .sl i) : relax wh i b = .no := by unfold relax; rw [if_pos h]
theorem Ext.relax {i : Nat} (s : ∀ a, H a = none → wh a = .no) : Ext wh H (relax wh i) H :=
  ⟨fun _ _ e _ => e, fun _ _ e _ => e, fun b e => by rw [relax_ne (by rw [e]; exact fun z => (nomatch z))]; exact e, fun b e n => by rw [relax_ne (by rw [e]; exact fun z => (nomatch z))]; exact e, fun _ e => e, s, fun b j e => by
    by_cases z : wh b = .sl i
    · rw [relax_eq z] at e; cases e
    · rw [relax_ne z] at e; exact e⟩
theorem Rl.kill (r : Rl K wh H F σ) (i : Nat) (hio : ∀ xs, F[i]? ≠ some (.io xs)) {σ' : L2.St} (hl : σ'.length = σ.length) (hσ : ∀ j, j ≠ i → σ'[j]? = σ[j]?) : Ext wh H (relax wh i) H ∧ Rl K (relax wh i) H (F.set i .un) σ' := by
  have x : Ext wh H (Z.relax wh i) H := .relax fun _ z => r.free z
  refine ⟨x, by rw [hl, List.length_set]; exact r.len, fun j s hs => ?_, fun b j q => ?_, fun b j q => ?_, fun b q => ?_⟩
  · by_cases e : j = i
    · subst e
      by_cases hi : j < F.length
      · rw [List.getElem?_set_self hi] at hs
        cases hs
        trivial
      · rw [List.getElem?_eq_none (by rw [List.length_set]; omega)] at hs
        cases hs
    · rw [List.getElem?_set_ne (Ne.symm e)] at hs
      refine RS.slots (hσ j e) ((r.rs j s hs).mono x fun a ha => ⟨?_, rfl⟩)
      exact relax_ne fun z => e (ha.inj (.inl z))
  · by_cases e : wh b = .sl i
    · rw [relax_eq e] at q; cases q
    · rw [relax_ne e] at q
      obtain ⟨xs, g1, g2⟩ := r.own b j q
      have ne : j ≠ i := fun z => by subst z; exact e q
      exact ⟨xs, by rw [List.getElem?_set_ne (Ne.symm ne)]; exact g1, (hσ j ne).trans g2⟩
  · by_cases e : wh b = .sl i
    · rw [relax_eq e] at q; cases q
    · rw [relax_ne e] at q
      obtain ⟨xs, g1, g2⟩ := r.ownI b j q
      have ne : j ≠ i := fun z => by subst z; exact hio _ g1
      exact ⟨xs, by rw [List.getElem?_set_ne (Ne.symm ne)]; exact g1, (hσ j ne).trans g2⟩
  · by_cases e : wh b = .sl i
    · rw [relax_eq e] at q; exact absurd rfl q
    · rw [relax_ne e] at q; exact r.dom b q
theorem set_get {α : Type} {l : List α} {i : Nat} {x : α} (h : i < l.length) : (l.set i x)[i]? = some x := List.getElem?_set_self h
/-- a share is stored -/
theorem Rl.setS (r : Rl K wh H F σ) {i : Nat} {d : D} {v : V} (hi : i < F.length) (hio : ∀ xs, F[i]? ≠ some (.io xs)) (hd : Rep K wh H d v) :
    Ext wh H (relax wh i) H ∧ Rl K (relax wh i) H (F.set i (.sh d)) (σ.set i (some v)) := by
  obtain ⟨x, k⟩ := r.kill i hio (σ' := σ.set i (some v)) (by rw [List.length_set]) fun j e => List.getElem?_set_ne (Ne.symm e)
  have hs : i < σ.length := by rw [r.len]; exact hi
  refine ⟨x, by rw [List.length_set, List.length_set]; exact r.len, fun j s hs' => ?_, fun b j q => ?_, fun b j q => ?_, k.dom⟩
  · by_cases e : j = i
    · subst e
      rw [set_get hi] at hs'
      cases hs'
      exact ⟨v, set_get hs, hd.mono x⟩
    · rw [List.getElem?_set_ne (Ne.symm e)] at hs'
      exact k.rs j s (by rw [List.getElem?_set_ne (Ne.symm e)]; exact hs')
  · obtain ⟨xs, g1, g2⟩ := k.own b j q
    have e : j ≠ i := fun z => by
      subst z
      rw [set_get hi] at g1
      cases g1
    rw [List.getElem?_set_ne (Ne.symm e)] at g1
    exact ⟨xs, by rw [List.getElem?_set_ne (Ne.symm e)]; exact g1, g2⟩
  · obtain ⟨xs, g1, g2⟩ := k.ownI b j q
    have e : j ≠ i := fun z => by
      subst z
      rw [set_get hi] at g1
      cases g1
    rw [List.getElem?_set_ne (Ne.symm e)] at g1
    exact ⟨xs, by rw [List.getElem?_set_ne (Ne.symm e)]; exact g1, g2⟩
/-- a temporary list is stored -/
theorem Rl.setO (r : Rl K wh H F σ) {i : Nat} {xs : List D} {a : Addr} {vs : List V} (hi : i < F.length) (hio : ∀ xs, F[i]? ≠ some (.io xs)) (hw : wh a = .no) (ha : H a = some (.lst vs)) (hx : RepL K wh H xs vs) :
    Rl K (setW (relax wh i) a (.sl i)) H (F.set i (.ow xs)) (σ.set i (some (.ref a))) := by
  obtain ⟨x, k⟩ := r.kill i hio (σ' := σ.set i (some (.ref a))) (by rw [List.length_set]) fun j e => List.getElem?_set_ne (Ne.symm e)
  have hs : i < σ.length := by rw [r.len]; exact hi
  have hw' : relax wh i a = .no := by rw [relax_ne (by rw [hw]; exact fun z => (nomatch z))]; exact hw
  have nsh : relax wh i a ≠ .sh := by rw [hw']; exact fun z => (nomatch z)
  refine ⟨by rw [List.length_set, List.length_set]; exact r.len, fun j s hs' => ?_, fun b j q => ?_, fun b j q => ?_, fun b q => ?_⟩
  · by_cases e : j = i
    · subst e
      rw [set_get hi] at hs'
      cases hs'
      exact ⟨a, vs, set_get hs, setW_same, ha, (hx.mono x).tagN nsh⟩
    · rw [List.getElem?_set_ne (Ne.symm e)] at hs'
      exact (k.rs j s (by rw [List.getElem?_set_ne (Ne.symm e)]; exact hs')).tagN nsh fun z => by have := z.nfr; rw [hw'] at this; cases this
  · by_cases e : b = a
    · subst e
      rw [setW_same] at q
      cases q
      exact ⟨xs, set_get hi, set_get hs⟩
    · rw [setW_ne e] at q
      obtain ⟨ys, g1, g2⟩ := k.own b j q
      have e : j ≠ i := fun z => by
        subst z
        rw [set_get hi] at g1
        cases g1
      rw [List.getElem?_set_ne (Ne.symm e)] at g1
      exact ⟨ys, by rw [List.getElem?_set_ne (Ne.symm e)]; exact g1, g2⟩
  · by_cases e : b = a
    · subst e
      rw [setW_same] at q
      cases q
    · rw [setW_ne e] at q
      obtain ⟨ys, g1, g2⟩ := k.ownI b j q
      have e : j ≠ i := fun z => by
        subst z
        rw [set_get hi] at g1
        cases g1
      rw [List.getElem?_set_ne (Ne.symm e)] at g1
      exact ⟨ys, by rw [List.getElem?_set_ne (Ne.symm e)]; exact g1, g2⟩
  · by_cases e : b = a
    · subst e; rw [ha]; exact fun z => (nomatch z)
    · rw [setW_ne e] at q; exact k.dom b q
/-! ### sharing a result -/
def share : Rv → Fm → Rs D
  | .sh d, F => .ok d F
  | .fr xs, F => .ok (.lst xs) F
  | .ow i, F => match F[i]? with
    | some (.ow xs) => .ok (.lst xs) (F.set i (.sh (.lst xs)))
    | _ => .bad
theorem share_ok {wh0 : Who} {H0 : Hp} {rv : Rv} {v : V} {d : D} {F' : Fm} (r : Rl K wh H F σ) (x : Ext wh0 H0 wh H) (h : RR K H0 wh H σ rv v) (e : share rv F = .ok d F') :
    ∃ wh', Ext wh0 H0 wh' H ∧ Rl K wh' H F' σ ∧ Rep K wh' H d v := by
  cases rv with
  | sh d' => cases e; exact ⟨wh, x, r, h⟩
  | fr xs =>
    cases e
    obtain ⟨a, vs, rfl, h0, h1, h2, h3⟩ := h
    exact ⟨setW wh a .sh, x.tag h0 (fun i z => (nomatch z)), r.shareT h1 (by rw [h2]; exact fun z => (nomatch z)), .lst setW_same h2 (h3.tagN (by rw [h1]; exact fun z => (nomatch z)))⟩
  | ow i =>
    have e' : (match F[i]? with
      | some (.ow xs) => .ok (.lst xs) (F.set i (.sh (.lst xs)))
      | _ => .bad : Rs D) = .ok d F' := e
    split at e'
    · rename_i xs hF
      cases e'
      obtain ⟨a, wh', h1, h2, h3, h4⟩ := r.freeze hF
      rw [show σ[i]? = some (some v) from h] at h1
      cases h1
      exact ⟨wh', x.trans h2, h3, h4⟩
    · cases e'
theorem share_ex {rv : Rv} {e : Ex} {F' : Fm} (h : share rv F = .ex e F') : False := by
  cases rv with
  | sh d => cases h
  | fr xs => cases h
  | ow i =>
    have h' : (match F[i]? with
      | some (.ow xs) => .ok (.lst xs) (F.set i (.sh (.lst xs)))
      | _ => .bad : Rs D) = .ex e F' := h
    split at h' <;> cases h'
end
/-- the meaning, its result shared -/
def shM (m : Fm → Rs Rv) : Fm → Rs Rv := fun F => (m F).bind fun rv F1 => (share rv F1).bind fun d F2 => .ok (Rv.sh d) F2
theorem tX_sh {C : Cn} {m : Fm → Rs Rv} {σ : L2.St} {H : Hp} {Q : VK} (h : tX C (shM m) σ H Q) : tX C m σ H Q := by
  obtain ⟨wh, F, r, h⟩ := h
  refine ⟨wh, F, r, ?_⟩
  unfold shM at h
  cases q : m F with
  | bad => rw [q] at h; exact h
  | ex e F1 => rw [q] at h; exact h
  | ok rv F1 =>
    rw [q] at h
    intro wh1 H1 x1 r1 v hv
    cases p : share rv F1 with
    | bad => simp only [Rs.bind, p] at h; exact h.elim
    | ex e F2 => exact (share_ex p).elim
    | ok d F2 =>
      simp only [Rs.bind, p] at h
      obtain ⟨wh', x', r', hd⟩ := share_ok r1 x1 hv p
      exact h wh' H1 x' r' v hd
end Z

end
section
set_option Elab.async false
set_option linter.all false
set_option maxRecDepth 100000
namespace Z
open PySem PySem.Spec PyProof.Rows L2

/-! ### locked tests: the kernel cannot unfold them -/
theorem lock_ne {α : Type} (a : α) : Nonempty {x : α // x = a} := ⟨⟨a, rfl⟩⟩
noncomputable section
def lock {α : Type} (a : α) : {x : α // x = a} := Classical.choice (lock_ne a)
theorem lock_eq {α : Type} (a : α) : (lock a).1 = a := (lock a).2
def fits : Int → Bool := (lock fun i : Int => decide (-(2 ^ 64) < i ∧ i < 2 ^ 64)).1
theorem fits_eq (i : Int) : fits i = decide (-18446744073709551616 < i ∧ i < 18446744073709551616) := by
  unfold fits
  rw [lock_eq] <;> rfl
def mulOk : Int → Bool := (lock fun k : Int => decide (-(2 ^ 63) ≤ k ∧ k < 2 ^ 63)).1
theorem mulOk_eq (i : Int) : mulOk i = decide (-9223372036854775808 ≤ i ∧ i < 9223372036854775808) := by
  unfold mulOk
  rw [lock_eq] <;> rfl
def small : Int → Bool := (lock fun i : Int => decide (-(2 ^ 62) ≤ i ∧ i < 2 ^ 62)).1
theorem small_eq (i : Int) : small i = decide (-4611686018427387904 ≤ i ∧ i < 4611686018427387904) := by
  unfold small
  rw [lock_eq] <;> rfl
def rngOk : Int → Int → Int → Bool := (lock fun i j c : Int => decide (c ≠ 0 ∧ c.natAbs < 1073741824) && Builtin.Range.small i j c).1
theorem rngOk_eq (i j c : Int) : rngOk i j c = (decide (c ≠ 0 ∧ c.natAbs < 1073741824) && Builtin.Range.small i j c) := by
  unfold rngOk
  rw [lock_eq]
/-! ### operations on data -/
mutual
def D.py : D → PyData
  | .non => .none | .bl b => .bool b | .int i => .int i | .str x => .str x
  | .tup xs => .tuple (D.pyL xs) | .lst xs => .list (D.pyL xs) | .fz _ => .dict []
def D.pyL : List D → List PyData
  | [] => []
  | d :: ds => D.py d :: D.pyL ds
end
def D.flat : D → Bool
  | .non => true | .bl _ => true | .int _ => true | .str _ => true | _ => false
inductive Kd where
  | t | l | f
  deriving DecidableEq
def ownAt (F : Fm) (i : Nat) : Option (List D) := (F[i]?).bind Sl.own
def view : Rv → Fm → Option (Kd × List D)
  | .sh (.tup xs), _ => some (.t, xs)
  | .sh (.lst xs), _ => some (.l, xs)
  | .sh (.fz xs), _ => some (.f, xs)
  | .fr xs, _ => some (.l, xs)
  | .ow i, F => (ownAt F i).map fun xs => (.l, xs)
  | _, _ => none
def pyR : Rv → Fm → PyData
  | .sh d, _ => d.py
  | .fr xs, _ => .list (D.pyL xs)
  | .ow i, F => match ownAt F i with
    | some xs => .list (D.pyL xs)
    | none => .dict []
abbrev okS (d : D) (F : Fm) : Rs Rv := .ok (.sh d) F
def line : Nat → Bool := (lock fun n : Nat => decide (n ≤ 16777216)).1
theorem line_eq (n : Nat) : line n = decide (n ≤ 16777216) := by
  unfold line
  rw [lock_eq]
def lineK (n : Nat) : Bool := decide (n ≤ 16777216)
def addR (a b : Rv) (F : Fm) : Rs Rv := match a, b with
  | .sh (.int i), .sh (.int j) => okS (.int (i + j)) F
  | .sh (.str x), .sh (.str y) => if line (x.length + y.length) then okS (.str (x ++ y)) F else .bad
  | a, b => match view a F, view b F with
    | some (.l, xs), some (.l, ys) => if line (xs.length + ys.length) then .ok (.fr (xs ++ ys)) F else .bad
    | some (.t, xs), some (.t, ys) => if line (xs.length + ys.length) then okS (.tup (xs ++ ys)) F else .bad
    | _, _ => .bad
def subR (a b : Rv) (F : Fm) : Rs Rv := match a, b with
  | .sh (.int i), .sh (.int j) => okS (.int (i - j)) F
  | _, _ => .bad
def mulR (a b : Rv) (F : Fm) : Rs Rv := match b with
  | .sh (.int k) => match a with
    | .sh (.int i) => if fits i || fits k then okS (.int (i * k)) F else .bad
    | a => match view a F with
      | some (.l, xs) => if mulOk k && line (xs.length * k.toNat) then .ok (.fr (List.replicate k.toNat xs).flatten) F else .bad
      | _ => .bad
  | _ => .bad
def fdivR (a b : Rv) (F : Fm) : Rs Rv := match a, b with
  | .sh (.int i), .sh (.int j) => if decide (0 < j ∧ j < 2 ^ 64) then okS (.int (i / j)) F else .bad
  | _, _ => .bad
def modR (a b : Rv) (F : Fm) : Rs Rv := match a, b with
  | .sh (.int i), .sh (.int j) => if decide (0 < j) then okS (.int (i % j)) F else .bad
  | _, _ => .bad
def powR (a b : Rv) (F : Fm) : Rs Rv := match a, b with
  | .sh (.int i), .sh (.int j) => if decide (0 ≤ j ∧ j ≤ 1000000 ∧ i.natAbs < 2 ^ 64) then okS (.int (i ^ j.toNat)) F else .bad
  | _, _ => .bad
def bop : Operator → Rv → Rv → Fm → Rs Rv
  | .Add => addR | .Sub => subR | .Mult => mulR | .FloorDiv => fdivR | .Mod => modR | .Pow => powR
  | _ => fun _ _ _ => .bad
def eqR (a b : Rv) (F : Fm) : Option Bool :=
  if SeqAt.shaped (pyR a F) && SeqAt.shaped (pyR b F) then some (PyData.eqv (pyR a F) (pyR b F)) else none
def inF (a b : Rv) (F : Fm) : Option Bool := match a, view b F with
  | .sh d, some (_, ys) => if d.flat && ys.all D.flat then some (ys.any fun y => PyData.eqv y.py d.py) else none
  | _, _ => none
def inG (a b : Rv) (F : Fm) : Option Bool := match pyR b F with
  | .list ys => if PyData.canLayAll0 ys && (pyR a F).canLay0 && decide ((pyR a F).depth ≤ 8) then some (ys.any fun y => PyData.eqv y (pyR a F)) else none
  | .tuple ys => if PyData.canLayAll0 ys && (pyR a F).canLay0 && decide ((pyR a F).depth ≤ 8) then some (ys.any fun y => PyData.eqv y (pyR a F)) else none
  | _ => none
def inR (a b : Rv) (F : Fm) : Option Bool := match inF a b F with
  | some c => some c
  | none => inG a b F
def neR (a b : Rv) (F : Fm) : Option Bool := (eqR a b F).map (!·)
def ninR (a b : Rv) (F : Fm) : Option Bool := (inR a b F).map (!·)
def cmpI (g : Int → Int → Bool) (h : Str → Str → Bool) (a b : Rv) (_ : Fm) : Option Bool := match a, b with
  | .sh (.int i), .sh (.int j) => some (g i j)
  | .sh (.str i), .sh (.str j) => some (h i j)
  | _, _ => none
def isNone (n : Bool) (a b : Rv) (_ : Fm) : Option Bool := match a, b with
  | .sh d, .sh .non => some (match d with | .non => n | _ => !n)
  | _, _ => none
def cop : CmpOp → Rv → Rv → Fm → Option Bool
  | .Lt => cmpI (fun i j => decide (i < j)) (fun i j => decide (i.cps.toList < j.cps.toList))
  | .LtE => cmpI (fun i j => decide (i ≤ j)) (fun i j => !decide (j.cps.toList < i.cps.toList))
  | .Gt => cmpI (fun i j => decide (j < i)) (fun i j => decide (j.cps.toList < i.cps.toList))
  | .GtE => cmpI (fun i j => decide (j ≤ i)) (fun i j => !decide (i.cps.toList < j.cps.toList))
  | .Eq => eqR
  | .NotEq => neR
  | .In => inR
  | .NotIn => ninR
  | .Is => isNone true
  | .IsNot => isNone false
def ofO {α β : Type} (o : Option α) (k : α → Rs β) : Rs β := match o with
  | some a => k a
  | none => .bad
def copR (op : CmpOp) (a b : Rv) (F : Fm) : Rs Rv := ofO (cop op a b F) fun c => okS (.bl c) F
/-- xs[i] -/
def idxR (a b : Rv) (F : Fm) : Rs Rv := match b with
  | .sh (.int i) => match a with
    | .sh (.str z) => if line z.length then ofO (atI z.cps.toList i) fun c => okS (.str ⟨#[c]⟩) F else .bad
    | a => match view a F with
      | some (_, xs) => ofO (atI xs i) fun d => okS d F
      | none => .bad
  | _ => .bad
def cutD (xs : List D) (lo hi : Option Int) : List D := (xs.drop (HT.sIx xs.length 0 lo)).take (HT.sIx xs.length xs.length hi - HT.sIx xs.length 0 lo)
def slcR (a : Rv) (lo hi : Option Int) (F : Fm) : Rs Rv := match view a F with
  | some (.l, xs) => .ok (.fr (cutD xs lo hi)) F
  | some (.f, xs) => .ok (.fr (cutD xs lo hi)) F
  | some (.t, xs) => okS (.tup (cutD xs lo hi)) F
  | none => .bad
def negR (a : Rv) (F : Fm) : Rs Rv := match a with
  | .sh (.int i) => okS (.int (-i)) F
  | _ => .bad
def notR (a : Rv) (F : Fm) : Rs Rv := match a with
  | .sh (.bl b) => okS (.bl (!b)) F
  | _ => .bad
def intsD : List D → Option (List Int)
  | [] => some []
  | .int i :: ds => (intsD ds).map (i :: ·)
  | _ :: _ => none
def boolsD : List D → Option (List Bool)
  | [] => some []
  | .bl i :: ds => (boolsD ds).map (i :: ·)
  | _ :: _ => none
/-! built-in functions -/
def lenR (as : List Rv) (F : Fm) : Rs Rv := match as with
  | [a] => match a with
    | .sh (.str z) => if line z.length then okS (.int z.length) F else .bad
    | a => match view a F with
      | some (_, xs) => okS (.int xs.length) F
      | none => .bad
  | _ => .bad
def intR (as : List Rv) (F : Fm) : Rs Rv := match as with
  | [.sh (.int i)] => okS (.int i) F
  | [.sh (.bl b)] => okS (.int (if b then 1 else 0)) F
  | _ => .bad
def ordR (as : List Rv) (F : Fm) : Rs Rv := match as with
  | [.sh (.str z)] => if z.length == 1 then okS (.int (z.cps.getD 0 0 : Nat)) F else .bad
  | _ => .bad
def tupleR (as : List Rv) (F : Fm) : Rs Rv := match as with
  | [a] => match view a F with
    | some (_, xs) => okS (.tup xs) F
    | none => .bad
  | _ => .bad
def listR (as : List Rv) (F : Fm) : Rs Rv := match as with
  | [a] => match view a F with
    | some (_, xs) => .ok (.fr xs) F
    | none => .bad
  | _ => .bad
def allR (as : List Rv) (F : Fm) : Rs Rv := match as with
  | [a] => match view a F with
    | some (.l, xs) => ofO (boolsD xs) fun bs => okS (.bl (bs.all id)) F
    | _ => .bad
  | _ => .bad
def anyR (as : List Rv) (F : Fm) : Rs Rv := match as with
  | [a] => match view a F with
    | some (.l, xs) => ofO (boolsD xs) fun bs => okS (.bl (bs.any id)) F
    | _ => .bad
  | _ => .bad
def maxR (as : List Rv) (F : Fm) : Rs Rv := match as with
  | [.sh (.int i), .sh (.int j)] => okS (.int (if j > i then j else i)) F
  | _ => .bad
def minR (as : List Rv) (F : Fm) : Rs Rv := match as with
  | [.sh (.int i), .sh (.int j)] => okS (.int (if j < i then j else i)) F
  | _ => .bad
inductive Blt where
  | len | int | ord | tuple | list | all | any | max | min
  deriving DecidableEq
def Blt.name : Blt → Str
  | .len => "len" | .int => "int" | .ord => "ord" | .tuple => "tuple" | .list => "list" | .all => "all" | .any => "any" | .max => "max" | .min => "min"
def bltR : Blt → List Rv → Fm → Rs Rv
  | .len => lenR | .int => intR | .ord => ordR | .tuple => tupleR | .list => listR | .all => allR | .any => anyR | .max => maxR | .min => minR
/-- isinstance(x, classes) -/
def isiD : D → List String → Option Bool
  | .non, cs => if cs.all (fun c => ["list", "tuple", "int", "bool", "str"].contains c) then some false else none
  | .bl _, cs => if cs.all (fun c => ["list", "tuple", "int", "bool", "str"].contains c) then some (cs.any fun c => c == "bool" || c == "int") else none
  | .int _, cs => if cs.all (fun c => ["list", "tuple", "int", "bool", "str"].contains c) then some (cs.any fun c => c == "int") else none
  | .str _, cs => if cs.all (fun c => ["list", "tuple", "int", "bool", "str"].contains c) then some (cs.any fun c => c == "str") else none
  | .tup _, cs => if cs.all (fun c => ["list", "tuple", "int", "bool", "str"].contains c) then some (cs.any fun c => c == "tuple") else none
  | .lst _, cs => if cs.all (fun c => ["list", "tuple", "int", "bool", "str"].contains c) then some (cs.any fun c => c == "list") else none
  | .fz _, _ => none
def isiR (a : Rv) (cs : List String) (F : Fm) : Rs Rv := match a with
  | .sh d => ofO (isiD d cs) fun b => okS (.bl b) F
  | .fr _ => ofO (isiD (.lst []) cs) fun b => okS (.bl b) F
  | .ow i => match ownAt F i with
    | some _ => ofO (isiD (.lst []) cs) fun b => okS (.bl b) F
    | none => .bad

/-! ### the syntax -/
/-- what a loop stores: a name, or a tuple of names (none: a name that is not looked at is stored all the same) -/
inductive Tgt where
  | name (i : Nat) | tup (is : List Nat)
/-- a parameter's source: an argument as written (keywords behind), or a default -/
inductive Pa where
  | arg (j : Nat) | dfl (d : D)
mutual
inductive X where
  | var (i : Nat) | int (k : Int) | bl (b : Bool) | non | str (s : Str) | glb (x : Str)
  | bin (op : Operator) (a b : X) | neg (a : X) | cmp (op : CmpOp) (a b : X) | chn (o1 o2 : CmpOp) (a b c : X)
  | bl2 (o : BoolOp) (xs : Xs) | not (a : X) | ife (t : T) (a b : X)
  | tup (xs : Xs) | lst (xs : Xs) | idx (a i : X) | slc (a : X) (lo hi : Xo)
  | call (f : Str) (as : As) | callK (c : Nat) (as kas : As) | blt (f : Blt) (xs : Xs) | isi (a : X) (cs : List String)
  | lc (elt : X) (tg : Tgt) (it : It) (ifs : Ts) (own : List Nat)
inductive Xs where
  | nil | cons (x : X) (xs : Xs)
inductive Xo where
  | none | some (x : X)
/-- arguments: a value that is shared, or a list of ours that the callee may change -/
inductive As where
  | nil | sh (x : X) (as : As) | io (i : Nat) (as : As)
inductive T where
  | val (e : X) | cmp (op : CmpOp) (a b : X) | chn (o1 o2 : CmpOp) (a b c : X) | bl2 (o : BoolOp) (ts : Ts) | not (t : T)
inductive Ts where
  | nil | cons (t : T) (ts : Ts)
inductive It where
  | seq (e : X) | rng1 (a : X) | rng2 (a b : X) | rng3 (a b c : X) | enum (e : X) | zip (a b : X)
end
/-! ### the meaning -/
/-- a def of the program: its result and its parameters' slots behind it -/
abbrev Fn := Fm → Rs Rv
/-- a form of calls with keywords or defaults: n values, keywords, each parameter's source -/
structure Kw where
  f : Str
  n : Nat
  ks : List Str
  ord : List Pa
structure Tb where
  fn : Str → Option Fn
  gc : Str → Option D
  kw : Nat → Option Kw := fun _ => none
/-- what a loop walks: its items -/
def itemsD : D → Option (List D)
  | .str z => some (z.cps.toList.map fun c => .str ⟨#[c]⟩)
  | .tup xs => some xs
  | .lst xs => some xs
  | .fz xs => some xs
  | _ => none
def rng1 (rs : List Rv) : Option (List D) := match rs with
  | [.sh (.int j)] => if small j then some ((List.range j.toNat).map fun (i : Nat) => .int (i : Int)) else none
  | _ => none
def rng2 (rs : List Rv) : Option (List D) := match rs with
  | [.sh (.int i), .sh (.int j)] => if small i && small j then some ((List.range (j - i).toNat).map fun (k : Nat) => .int (i + (k : Int))) else none
  | _ => none
def rng3 (rs : List Rv) : Option (List D) := match rs with
  | [.sh (.int i), .sh (.int j), .sh (.int c)] => if rngOk i j c then some ((List.range (Builtin.Range.rangeSize i j c).toNat).map fun (k : Nat) => .int (i + (k : Int) * c)) else none
  | _ => none
def seqD : D → Option (List D)
  | .lst xs => some xs
  | _ => none
def enumD : Nat → List D → List D
  | _, [] => []
  | i, d :: ds => .tup [.int (i : Int), d] :: enumD (i + 1) ds
def zipL : List D → List D → List D
  | d :: ds, e :: es => .tup [d, e] :: zipL ds es
  | _, _ => []
def zipD : D → D → Option (List D)
  | .tup xs, .tup ys => some (zipL xs ys)
  | .lst xs, .lst ys => some (zipL xs ys)
  | _, _ => none
def notIo (F : Fm) (i : Nat) : Bool := match F[i]? with
  | some (.io _) => false
  | some _ => true
  | none => false
/-- names that take data -/
def setL : List Nat → List D → Fm → Option Fm
  | [], [], F => some F
  | i :: is, d :: ds, F => if notIo F i then setL is ds (F.set i (.sh d)) else none
  | _, _, _ => none
def setT (tg : Tgt) (d : D) (F : Fm) : Option Fm := match tg with
  | .name i => setL [i] [d] F
  | .tup is => match d with
    | .tup ds => setL is ds F
    | _ => none
def killL (F : Fm) : List Nat → Fm
  | [] => F
  | i :: is => (killL F is).set i .un
/-- what raises is no answer here -/
def noX {α : Type} : Rs α → Rs α
  | .ok a F => .ok a F
  | _ => .bad
/-- the block of a comprehension: the elements kept so far, item by item -/
def lcLoop (own : List Nat) (tg : Tgt) (t : Fm → Rs Bool) (e : Fm → Rs Rv) : List D → List D → Fm → Rs (List D)
  | [], acc, F => .ok acc F
  | d :: ds, acc, F => ofO (setT tg d F) fun F1 => (noX (t F1)).bind fun b F2 =>
      if b then (noX (shM e F2)).bind fun rv F4 => match rv with
        | .sh y => if line (acc.length + 1) then lcLoop own tg t e ds (acc ++ [y]) (killL F4 own) else .bad
        | _ => .bad
      else lcLoop own tg t e ds acc (killL F2 own)
/-- what stood in the block's own slots ahead of it -/
def restore (F0 F : Fm) : List Nat → Fm
  | [] => F
  | i :: is => (restore F0 F is).set i (F0[i]?.getD .un)
def plainSlot (F : Fm) (i : Nat) : Bool := match F[i]? with
  | some .un => true | some (.sh _) => true | _ => false
def toSlots (F : Fm) : List Rv → Option Fm
  | [] => some []
  | .sh d :: rs => (toSlots F rs).map (.sh d :: ·)
  | .ow i :: rs => (ownAt F i).bind fun xs => (toSlots F rs).map (.io xs :: ·)
  | .fr _ :: _ => none
def backSlots (F : Fm) : List Rv → Fm → Option Fm
  | [], [] => some F
  | .ow i :: rs, .io ys :: A => (F[i]?).bind fun s => (s.own).bind fun _ => backSlots (F.set i (s.put ys)) rs A
  | .sh _ :: rs, _ :: A => backSlots F rs A
  | _, _ => none
def owns : List Rv → List Nat
  | [] => []
  | .ow i :: rs => i :: owns rs
  | _ :: rs => owns rs
def varM (i : Nat) (F : Fm) : Rs Rv := match F[i]? with
    | some (.sh d) => okS d F
    | some (.ow _) => .ok (.ow i) F
    | some (.io _) => .ok (.ow i) F
    | _ => .bad
def callR (fn : Fn) (rs : List Rv) (F : Fm) : Rs Rv :=
  if (owns rs).Nodup then ofO (toSlots F rs) fun A => match fn A with
    | .ok rv A' => ofO (backSlots F rs A') fun F' => match rv with
      | .ow _ => .bad
      | rv => .ok rv F'
    | .ex e A' => ofO (backSlots F rs A') fun F' => .ex e F'
    | .bad => .bad
  else .bad
def pickR (rs : List Rv) : List Pa → Option (List Rv)
  | [] => some []
  | .arg j :: ps => (rs[j]?).bind fun r => (pickR rs ps).map (r :: ·)
  | .dfl d :: ps => (pickR rs ps).map (.sh d :: ·)
/-- a new list as it is, all else shared -/
def own1 : Rv → Fm → Rs Rv
  | .fr xs, F => .ok (.fr xs) F
  | rv, F => (share rv F).bind fun d F1 => .ok (.sh d) F1
mutual
def X.den (Γ : Tb) : X → Fm → Rs Rv
  | .var i, F => varM i F
  | .int k, F => okS (.int k) F
  | .bl b, F => okS (.bl b) F
  | .non, F => okS .non F
  | .str s, F => okS (.str s) F
  | .glb x, F => ofO (Γ.gc x) fun d => okS d F
  | .bin op a b, F => (a.den Γ F).bind fun r1 F1 => (b.den Γ F1).bind fun r2 F2 => bop op r1 r2 F2
  | .neg a, F => (a.den Γ F).bind fun r1 F1 => negR r1 F1
  | .cmp op a b, F => (a.den Γ F).bind fun r1 F1 => (b.den Γ F1).bind fun r2 F2 => copR op r1 r2 F2
  | .chn o1 o2 a b c, F => (a.den Γ F).bind fun r1 F1 => (b.den Γ F1).bind fun r2 F2 => ofO (cop o1 r1 r2 F2) fun k =>
      if k then (c.den Γ F2).bind fun r3 F3 => copR o2 r2 r3 F3 else okS (.bl false) F2
  | .bl2 o xs, F => xs.denB Γ o F
  | .not a, F => (a.den Γ F).bind fun r1 F1 => notR r1 F1
  | .ife t a b, F => (t.den Γ F).bind fun c F1 => if c then a.den Γ F1 else b.den Γ F1
  | .tup xs, F => (xs.denS Γ F).bind fun ds F1 => if line ds.length then okS (.tup ds) F1 else .bad
  | .lst xs, F => (xs.denS Γ F).bind fun ds F1 => if line ds.length then .ok (.fr ds) F1 else .bad
  | .idx a i, F => (a.den Γ F).bind fun r1 F1 => (i.den Γ F1).bind fun r2 F2 => idxR r1 r2 F2
  | .slc a lo hi, F => (a.den Γ F).bind fun r1 F1 => (lo.den Γ F1).bind fun l F2 => (hi.den Γ F2).bind fun h F3 => slcR r1 l h F3
  | .call f as, F => ofO (Γ.fn f) fun fn => (as.den Γ F).bind fun rs F1 => callR fn rs F1
  | .callK c as kas, F => ofO (Γ.kw c) fun q => ofO (Γ.fn q.f) fun fn => (as.den Γ F).bind fun rs F1 => (kas.den Γ F1).bind fun zs F2 => if rs.length = q.n ∧ zs.length = q.ks.length then ofO (pickR (rs ++ zs) q.ord) fun qs => callR fn qs F2 else .bad
  | .blt f xs, F => (xs.denL Γ F).bind fun rs F1 => bltR f rs F1
  | .isi a cs, F => (a.den Γ F).bind fun r F1 => isiR r cs F1
  | .lc elt tg it ifs own, F => (it.den Γ F).bind fun ds F1 =>
      if own.all (plainSlot F1) then (lcLoop own tg (ifs.denA Γ) (elt.den Γ) ds [] (killL F1 own)).bind fun acc F2 => .ok (.fr acc) (restore F1 F2 own)
      else .bad
def Xs.denB (Γ : Tb) : Xs → BoolOp → Fm → Rs Rv
  | .nil, _, _ => .bad
  | .cons x .nil, _, F => x.den Γ F
  | .cons x (.cons y ys), o, F => (x.den Γ F).bind fun r F1 => match r with
    | .sh (.bl c) => match o with
      | .And => if c then (Xs.cons y ys).denB Γ o F1 else okS (.bl false) F1
      | .Or => if c then okS (.bl true) F1 else (Xs.cons y ys).denB Γ o F1
    | _ => .bad
/-- each one shared -/
def Xs.denS (Γ : Tb) : Xs → Fm → Rs (List D)
  | .nil, F => .ok [] F
  | .cons x xs, F => (x.den Γ F).bind fun rv F1 => (share rv F1).bind fun d F2 => (xs.denS Γ F2).bind fun ds F3 => .ok (d :: ds) F3
/-- each one shared, but new lists -/
def Xs.denP (Γ : Tb) : Xs → Fm → Rs (List Rv)
  | .nil, F => .ok [] F
  | .cons x xs, F => (x.den Γ F).bind fun rv F1 => (own1 rv F1).bind fun r F2 => (xs.denP Γ F2).bind fun rs F3 => .ok (r :: rs) F3
def Xs.denL (Γ : Tb) : Xs → Fm → Rs (List Rv)
  | .nil, F => .ok [] F
  | .cons x xs, F => (x.den Γ F).bind fun rv F1 => (xs.denL Γ F1).bind fun rs F2 => .ok (rv :: rs) F2
def Xo.den (Γ : Tb) : Xo → Fm → Rs (Option Int)
  | .none, F => .ok none F
  | .some x, F => (x.den Γ F).bind fun rv F1 => match rv with
    | .sh (.int i) => .ok (some i) F1
    | _ => .bad
def As.den (Γ : Tb) : As → Fm → Rs (List Rv)
  | .nil, F => .ok [] F
  | .sh x as, F => (shM (x.den Γ) F).bind fun rv F1 => (as.den Γ F1).bind fun rs F2 => .ok (rv :: rs) F2
  | .io i as, F => (varM i F).bind fun rv F1 => (as.den Γ F1).bind fun rs F2 => .ok (rv :: rs) F2
def T.den (Γ : Tb) : T → Fm → Rs Bool
  | .val e, F => (e.den Γ F).bind fun r F1 => match r with
    | .sh (.bl b) => .ok b F1
    | _ => .bad
  | .cmp op a b, F => (a.den Γ F).bind fun r1 F1 => (b.den Γ F1).bind fun r2 F2 => ofO (cop op r1 r2 F2) fun c => .ok c F2
  | .chn o1 o2 a b c, F => (a.den Γ F).bind fun r1 F1 => (b.den Γ F1).bind fun r2 F2 => ofO (cop o1 r1 r2 F2) fun k =>
      if k then (c.den Γ F2).bind fun r3 F3 => ofO (cop o2 r2 r3 F3) fun c => .ok c F3 else .ok false F2
  | .bl2 o ts, F => ts.denB Γ o F
  | .not t, F => (t.den Γ F).bind fun b F1 => .ok (!b) F1
def Ts.denB (Γ : Tb) : Ts → BoolOp → Fm → Rs Bool
  | .nil, _, _ => .bad
  | .cons x .nil, _, F => x.den Γ F
  | .cons x (.cons y ys), o, F => (x.den Γ F).bind fun c F1 => match o with
      | .And => if c then (Ts.cons y ys).denB Γ o F1 else .ok false F1
      | .Or => if c then .ok true F1 else (Ts.cons y ys).denB Γ o F1
/-- a comprehension's tests: none or one -/
def Ts.denA (Γ : Tb) : Ts → Fm → Rs Bool
  | .nil, F => .ok true F
  | .cons t .nil, F => t.den Γ F
  | .cons _ (.cons _ _), _ => .bad
def It.den (Γ : Tb) : It → Fm → Rs (List D)
  | .seq e, F => (e.den Γ F).bind fun rv F1 => (share rv F1).bind fun d F2 => ofO (itemsD d) fun ds => .ok ds F2
  | .rng1 a, F => (a.den Γ F).bind fun r1 F1 => ofO (rng1 [r1]) fun ds => .ok ds F1
  | .rng2 a b, F => (a.den Γ F).bind fun r1 F1 => (b.den Γ F1).bind fun r2 F2 => ofO (rng2 [r1, r2]) fun ds => .ok ds F2
  | .rng3 a b c, F => (a.den Γ F).bind fun r1 F1 => (b.den Γ F1).bind fun r2 F2 => (c.den Γ F2).bind fun r3 F3 => ofO (rng3 [r1, r2, r3]) fun ds => .ok ds F3
  | .enum e, F => (e.den Γ F).bind fun rv F1 => (share rv F1).bind fun d F2 => ofO (seqD d) fun ds => .ok (enumD 0 ds) F2
  | .zip a b, F => (a.den Γ F).bind fun rv F1 => (share rv F1).bind fun d F2 => (b.den Γ F2).bind fun rw F3 => (share rw F3).bind fun e F4 => ofO (zipD d e) fun ds => .ok ds F4
end
/-! ### statements -/
inductive SR where
  | next (F : Fm) | brk (F : Fm) | cnt (F : Fm) | ret (r : Rv) (F : Fm) | ex (e : Ex) (F : Fm) | bad
def SR.seq (r : SR) (k : Fm → SR) : SR := match r with
  | .next F => k F
  | r => r
def Rs.thn {α : Type} (r : Rs α) (k : α → Fm → SR) : SR := match r with
  | .ok a F => k a F
  | .ex e F => .ex e F
  | .bad => .bad
mutual
inductive S where
  | asg (i : Nat) (e : X) | par (is : List Nat) (es : Xs) | unp (is : List Nat) (e : X) | aug (i : Nat) (op : Operator) (e : X)
  | app (i : Nat) (e : X) | ext (i : Nat) (e : X) | put (i : Nat) (k e : X)
  | ife (t : T) (a b : Ss) | for_ (tg : Tgt) (it : It) (b : Ss) (dead : List Nat) | whl (t : T) (b : Ss) (dead : List Nat)
  | ret (e : X) | retN | brk | cnt | pass | drop (e : X)
inductive Ss where
  | nil | cons (s : S) (ss : Ss)
end
def asgR (i : Nat) (rv : Rv) (F : Fm) : SR := if notIo F i then match rv with
      | .fr xs => .next (F.set i (.ow xs))
      | rv => (share rv F).thn fun d F1 => .next (F1.set i (.sh d))
  else .bad
/-- slots forgotten, but a caller's own -/
def kill1 (F : Fm) (i : Nat) : Fm := match F[i]? with
  | some (.io _) => F
  | _ => F.set i .un
def killD (F : Fm) : List Nat → Fm
  | [] => F
  | i :: is => kill1 (killD F is) i
def forM (tg : Tgt) (b : Fm → SR) (dead : List Nat) : List D → Fm → SR
  | [], F => .next (killD F dead)
  | d :: ds, F => match setT tg d (killD F dead) with
    | none => .bad
    | some F1 => match b F1 with
      | .next F2 => forM tg b dead ds F2
      | .cnt F2 => forM tg b dead ds F2
      | .brk F2 => .next (killD F2 dead)
      | r => r
def whlM (t : Fm → Rs Bool) (b : Fm → SR) (dead : List Nat) : Nat → Fm → SR
  | 0, _ => .bad
  | n + 1, F => (t (killD F dead)).thn fun c F1 => if c then match b F1 with
      | .next F2 => whlM t b dead n F2
      | .cnt F2 => whlM t b dead n F2
      | .brk F2 => .next (killD F2 dead)
      | r => r
    else .next F1
def fuel : Nat := (lock (1099511627776 : Nat)).1
theorem fuel_eq : fuel = 1099511627776 := lock_eq _
def parSet : List Nat → List Rv → Fm → SR
  | [], [], F => .next F
  | i :: is, d :: ds, F => (asgR i d F).seq fun F1 => parSet is ds F1
  | _, _, _ => .bad
def appR (i : Nat) (d : D) (F : Fm) : SR := match F[i]? with
  | some s => match s.own with
    | some xs => if line (xs.length + 1) then .next (F.set i (s.put (xs ++ [d]))) else .bad
    | none => .bad
  | none => .bad
def extR (i : Nat) (rv : Rv) (F : Fm) : SR := match F[i]? with
  | some s => match s.own, view rv F with
    | some xs, some (k, ys) => if line (xs.length + ys.length) && k != .f then .next (F.set i (s.put (xs ++ ys))) else .bad
    | _, _ => .bad
  | none => .bad
def putR (i : Nat) (k : Rv) (d : D) (F : Fm) : SR := match F[i]?, k with
  | some s, .sh (.int j) => match s.own with
    | some xs => match ixN xs.length j with
      | some n => .next (F.set i (s.put (xs.set n d)))
      | none => .bad
    | none => .bad
  | _, _ => .bad
def augM (i : Nat) (op : Operator) (ma : Fm → Rs Rv) : Fm → SR := fun F => match F[i]? with
    | some (.sh (.int a)) => (ma F).thn fun rv F1 => match op, rv with
      | .Add, .sh (.int b) => asgR i (.sh (.int (a + b))) F1
      | .Sub, .sh (.int b) => asgR i (.sh (.int (a - b))) F1
      | _, _ => .bad
    | _ => .bad
def appM (i : Nat) (ma : Fm → Rs Rv) : Fm → SR := fun F => match ownAt F i with
    | some _ => (shM ma F).thn fun rv F2 => match rv with
      | .sh d => appR i d F2
      | _ => .bad
    | none => .bad
def extM (i : Nat) (ma : Fm → Rs Rv) : Fm → SR := fun F => match ownAt F i with
    | some _ => (ma F).thn fun rv F1 => extR i rv F1
    | none => .bad
def putM (i : Nat) (mk ma : Fm → Rs Rv) : Fm → SR := fun F => (shM ma F).thn fun rv F2 => match rv with
    | .sh d => match ownAt F2 i with
      | some _ => (mk F2).thn fun kv F3 => putR i kv d F3
      | none => .bad
    | _ => .bad
mutual
def S.den (Γ : Tb) : S → Fm → SR
  | .asg i e, F => (e.den Γ F).thn fun rv F1 => asgR i rv F1
  | .par is es, F => (es.denP Γ F).thn fun ds F1 => parSet is ds F1
  | .unp is e, F => (e.den Γ F).thn fun rv F1 => match view rv F1 with
    | some (.t, ds) => parSet is (ds.map .sh) F1
    | _ => .bad
  | .aug i op e, F => augM i op (e.den Γ) F
  | .app i e, F => appM i (e.den Γ) F
  | .ext i e, F => extM i (e.den Γ) F
  | .put i k e, F => putM i (k.den Γ) (e.den Γ) F
  | .ife t a b, F => (t.den Γ F).thn fun c F1 => if c then a.den Γ F1 else b.den Γ F1
  | .for_ tg it b dead, F => (it.den Γ F).thn fun ds F1 => forM tg (b.den Γ) dead ds F1
  | .whl t b dead, F => whlM (t.den Γ) (b.den Γ) dead fuel F
  | .ret e, F => (e.den Γ F).thn fun rv F1 => .ret rv F1
  | .retN, F => .ret (.sh .non) F
  | .brk, F => .brk F
  | .cnt, F => .cnt F
  | .pass, F => .next F
  | .drop e, F => (e.den Γ F).thn fun _ F1 => .next F1
def Ss.den (Γ : Tb) : Ss → Fm → SR
  | .nil, F => .next F
  | .cons s ss, F => (s.den Γ F).seq fun F1 => ss.den Γ F1
end
/-- a def's parameters at its end: the caller's lists -/
def ioB : Fm → Fm → Option Fm
  | [], _ => some []
  | .io _ :: A, .io ys :: F => (ioB A F).map (.io ys :: ·)
  | .sh _ :: A, _ :: F => (ioB A F).map (.un :: ·)
  | _, _ => none
/-- a def's meaning: n names in all -/
def fnEnd (A : Fm) : SR → Rs Rv
  | .next F => ofO (ioB A F) fun A' => .ok (.sh .non) A'
  | .ret (.ow i) F => ofO (ioB A F) fun A' => match F[i]? with
    | some (.ow xs) => .ok (.fr xs) A'
    | _ => .bad
  | .ret rv F => ofO (ioB A F) fun A' => .ok rv A'
  | .ex e F => ofO (ioB A F) fun A' => .ex e A'
  | _ => .bad
def fnOf (Γ : Tb) (np n : Nat) (b : Ss) : Fn := fun A => if A.length = np then fnEnd A (b.den Γ (A ++ List.replicate (n - np) .un)) else .bad
end
end Z

end
section
set_option Elab.async false
set_option linter.all false
set_option maxRecDepth 100000
namespace Z
open PySem PySem.Spec PyProof.Rows L2

/-! ### judgements by weaker readings -/
section
variable {X : Cx}
theorem _root_.L2.PE.imp {e : Expr} {t t' : TE} (h : PE X e t) (i : ∀ σ H Q, t' σ H Q → t σ H Q) : PE X e t' := ⟨fun pins s σ H Q I q => h.run pins s σ H Q I (i σ H Q q)⟩
theorem _root_.L2.PT.imp {e : Expr} {t t' : TT} (h : PT X e t) (i : ∀ σ H Q, t' σ H Q → t σ H Q) : PT X e t' := ⟨fun pins s σ H Q I q => h.run pins s σ H Q I (i σ H Q q)⟩
theorem _root_.L2.PW.imp {e : Expr} {t t' : TT} (h : PW X e t) (i : ∀ σ H Q, t' σ H Q → t σ H Q) : PW X e t' := ⟨fun wh pins s σ H Q I q => h.run wh pins s σ H Q I (i σ H Q q)⟩
theorem _root_.L2.PA.imp {e : List Expr} {t t' : TA} (h : PA X e t) (i : ∀ σ H Q, t' σ H Q → t σ H Q) : PA X e t' := ⟨fun pos pins s σ H Q I q => h.run pos pins s σ H Q I (i σ H Q q)⟩
theorem _root_.L2.PS.imp {e : Stmt} {t t' : TS} (h : PS X e t) (i : ∀ D σ H, t' D σ H → t D σ H) : PS X e t' := ⟨fun pins s σ H D I q => h.run pins s σ H D I (i D σ H q)⟩
theorem _root_.L2.PSs.imp {e : List Stmt} {t t' : TS} (h : PSs X e t) (i : ∀ D σ H, t' D σ H → t D σ H) : PSs X e t' := ⟨fun pins s σ H D I q => h.run pins s σ H D I (i D σ H q)⟩
end
abbrev cn (X : Cx) (W : WX) : Cn := ⟨X.K, X.mg, W⟩
section
variable {C : Cn} {wh : Who} {H : Hp} {σ : L2.St} {F : Fm}
theorem okW.imp {α : Type} {r : Rs α} {P P' : α → Who → Hp → Prop} (h : okW C wh H σ r P) (i : ∀ a wh' H', Ext wh H wh' H' → P a wh' H' → P' a wh' H') : okW C wh H σ r P' := by
  cases r with
  | ok a F => exact fun wh' H' x rl => i a wh' H' x (h wh' H' x rl)
  | ex e F => exact h
  | bad => exact h
theorem okW.ret {α : Type} {a : α} {P : α → Who → Hp → Prop} (h : okW C wh H σ (.ok a F) P) (r : Rl C.K wh H F σ) : P a wh H := h wh H r.refl r
theorem okW.seq {α β : Type} {r : Rs α} {k : α → Fm → Rs β} {P : β → Who → Hp → Prop} {P' : α → Who → Hp → Prop} (h : okW C wh H σ (r.bind k) P)
    (i : ∀ a F wh1 H1, Ext wh H wh1 H1 → Rl C.K wh1 H1 F σ → okW C wh1 H1 σ (k a F) (fun b wh2 H2 => Ext wh H wh2 H2 → P b wh2 H2) → P' a wh1 H1) : okW C wh H σ r P' := by
  obtain ⟨h1, h2, h3⟩ := okW.bind h
  cases q : r with
  | ok a F => exact fun wh1 H1 x rl => i a F wh1 H1 x rl (h1 a F q wh1 H1 x)
  | ex e F => exact h2 e F q
  | bad => exact absurd q h3
theorem okW.ofO {α β : Type} {o : Option α} {k : α → Rs β} {P : β → Who → Hp → Prop} (h : okW C wh H σ (ofO o k) P) : ∃ a, o = some a ∧ okW C wh H σ (k a) P := by
  cases o with
  | some a => exact ⟨a, rfl, h⟩
  | none => exact h.elim
theorem okW.ite {α : Type} {b : Bool} {r : Rs α} {P : α → Who → Hp → Prop} (h : okW C wh H σ (if b then r else .bad) P) : b = true ∧ okW C wh H σ r P := by
  cases b with
  | true => exact ⟨rfl, h⟩
  | false => exact h.elim
/-! ### what a result shows -/
theorem ownAt_ok {i : Nat} {xs : List D} {K : PySem.W.Frag} (r : Rl K wh H F σ) (h : ownAt F i = some xs) : ∃ s a vs, F[i]? = some s ∧ s.own = some xs ∧ σ[i]? = some (some (.ref a)) ∧ (wh a).at i ∧ H a = some (.lst vs) ∧ RepL K wh H xs vs := by
  unfold ownAt at h
  cases q : F[i]? with
  | none => rw [q] at h; cases h
  | some s =>
    rw [q] at h
    obtain ⟨a, vs, h1⟩ := r.at q h
    exact ⟨s, a, vs, rfl, h, h1⟩
theorem view_ok {K : PySem.W.Frag} {H0 : Hp} {rv : Rv} {v : V} {k : Kd} {xs : List D} (r : Rl K wh H F σ) (h : RR K H0 wh H σ rv v) (e : view rv F = some (k, xs)) :
    ∃ a vs, v = .ref a ∧ RepL K wh H xs vs ∧ (k = .t → SqT K H a vs) ∧ (k = .l → H a = some (.lst vs)) ∧ (k ≠ .t → SqL K H a vs) := by
  cases rv with
  | sh d =>
    cases d with
    | non => cases e
    | bl _ => cases e
    | int _ => cases e
    | str _ => cases e
    | tup ys =>
      cases e
      cases h with
      | tup hs hr => exact ⟨_, _, rfl, hr, fun _ => hs, fun z => (nomatch z), fun z => absurd rfl z⟩
    | lst ys =>
      cases e
      cases h with
      | lst hw hs hr => exact ⟨_, _, rfl, hr, fun z => (nomatch z), fun _ => hs, fun _ => .of hs⟩
    | fz ys =>
      cases e
      cases h with
      | fz hs hr => exact ⟨_, _, rfl, hr, fun z => (nomatch z), fun z => (nomatch z), fun _ => hs.elim (fun q => .inl q.2) .inr⟩
  | fr ys =>
    cases e
    obtain ⟨a, vs, rfl, h0, h1, h2, h3⟩ := h
    exact ⟨a, vs, rfl, h3, fun z => (nomatch z), fun _ => h2, fun _ => .of h2⟩
  | ow i =>
    have e' : (ownAt F i).map (fun xs => (Kd.l, xs)) = some (k, xs) := e
    cases q : ownAt F i with
    | none => rw [q] at e'; cases e'
    | some ys =>
      rw [q] at e'
      cases e'
      obtain ⟨s, a, vs, g1, g2, g3, g4, g5, g6⟩ := ownAt_ok r q
      rw [show σ[i]? = some (some v) from h] at g3
      cases g3
      exact ⟨a, vs, rfl, g6, fun z => (nomatch z), fun _ => g5, fun _ => .of g5⟩
theorem RR.int {K : PySem.W.Frag} {H0 : Hp} {i : Int} {v : V} (h : RR K H0 wh H σ (.sh (.int i)) v) : v = .int i := by
  have h : Rep K wh H (.int i) v := h
  cases h
  rfl
theorem RR.str {K : PySem.W.Frag} {H0 : Hp} {i : Str} {v : V} (h : RR K H0 wh H σ (.sh (.str i)) v) : v = .str i := by
  have h : Rep K wh H (.str i) v := h
  cases h
  rfl
theorem RR.bl {K : PySem.W.Frag} {H0 : Hp} {i : Bool} {v : V} (h : RR K H0 wh H σ (.sh (.bl i)) v) : v = .bl i := by
  have h : Rep K wh H (.bl i) v := h
  cases h
  rfl
end
/-! ### binary operations -/
def OpD (C : Cn) (r : R2) (f : Rv → Rv → Fm → Rs Rv) : Prop := ∀ (wh : Who) (H H0 H1 : Hp) (F : Fm) (σ : L2.St) (a b : Rv) (x y : V) (Q : VK), Rl C.K wh H F σ → RR C.K H0 wh H σ a x → RR C.K H1 wh H σ b y →
  okW C wh H σ (f a b F) (fun rv wh' H' => ∀ v, RR C.K H wh' H' σ rv v → Q v H') → r x y H Q
theorem tX_bin {C : Cn} {r : R2} {f : Rv → Rv → Fm → Rs Rv} (hf : OpD C r f) {ma mb : Fm → Rs Rv} {σ : L2.St} {H : Hp} {Q : VK}
    (h : tX C (fun F => (ma F).bind fun r1 F1 => (mb F1).bind fun r2 F2 => f r1 r2 F2) σ H Q) : tOp r (tX C ma) (tX C mb) σ H Q := by
  obtain ⟨wh, F, rl, h⟩ := h
  refine ⟨wh, F, rl, okW.seq h fun r1 F1 wh1 H1 x1 rl1 h1 v1 hv1 => ?_⟩
  refine ⟨wh1, F1, rl1, okW.seq h1 fun r2 F2 wh2 H2 x2 rl2 h2 v2 hv2 => ?_⟩
  exact hf wh2 H2 H H1 F2 σ r1 r2 v1 v2 Q rl2 (hv1.mono x2) hv2 (h2.imp fun rv wh3 H3 x3 q v hv => q (x2.trans x3) (x1.trans (x2.trans x3)) v (RR.base (x1.trans x2) hv))
/-- an answer that is new: what a rule that lays an object gives -/
theorem okW.new {C : Cn} {wh : Who} {H : Hp} {σ : L2.St} {F : Fm} {rv : Rv} {P : Rv → Who → Hp → Prop} (h : okW C wh H σ (.ok rv F) P) (r : Rl C.K wh H F σ) {p : Addr} (n : H p = none) (o : HO) : P rv wh (upd H p o) :=
  h wh (upd H p o) (r.ext_new n) (r.new n)
theorem okS_ret {C : Cn} {wh : Who} {H : Hp} {σ : L2.St} {F : Fm} {d : D} {v : V} {Q : VK} (h : okW C wh H σ (okS d F) (fun rv wh' H' => ∀ v, RR C.K H wh' H' σ rv v → Q v H')) (r : Rl C.K wh H F σ) (hd : Rep C.K wh H d v) : Q v H :=
  (okW.ret h r) v hd
theorem fr_ret {C : Cn} {wh : Who} {H : Hp} {σ : L2.St} {F : Fm} {xs : List D} {vs : List V} {Q : VK} (h : okW C wh H σ (.ok (.fr xs) F) (fun rv wh' H' => ∀ v, RR C.K H wh' H' σ rv v → Q v H')) (r : Rl C.K wh H F σ) (hx : RepL C.K wh H xs vs)
    (p : Addr) (n : H p = none) : Q (.ref p) (upd H p (.lst vs)) :=
  okW.new h r n _ _ ⟨p, vs, rfl, n, r.free n, upd_same, hx.mono (r.ext_new n)⟩
theorem tup_ret {C : Cn} {wh : Who} {H : Hp} {σ : L2.St} {F : Fm} {xs : List D} {vs : List V} {Q : VK} (h : okW C wh H σ (okS (.tup xs) F) (fun rv wh' H' => ∀ v, RR C.K H wh' H' σ rv v → Q v H')) (r : Rl C.K wh H F σ) (hx : RepL C.K wh H xs vs)
    (p : Addr) (n : H p = none) : Q (.ref p) (upd H p (.tup vs)) :=
  okW.new h r n _ _ (Rep.tup (.of upd_same) (hx.mono (r.ext_new n)))
theorem line_ok {n : Nat} (h : line n = true) : n ≤ sizeLine := by
  have : n ≤ 16777216 := of_decide_eq_true ((line_eq n).symm.trans h)
  rw [sizeLine_eq]
  exact this
/-! ### the operators -/
abbrev rAddI : R2 := rI0 fun i j => .int (i + j)
def rAddS' : R2 := fun x y H Q => ∃ i j, x = .str i ∧ y = .str j ∧ i.length + j.length ≤ sizeLine ∧ Q (.str (i ++ j)) H
def rAddD (K : PySem.W.Frag) : R2 := fun x y H Q => rAddI x y H Q ∨ (rAddS' x y H Q ∨ (rCat x y H Q ∨ rCatA K x y H Q))
theorem op_addD {X : Cx} : OpR X (binaryOp .Add) (rAddD X.K) := op_add.or (OpR.or (r := rAddS') op_add_str (op_cat.or op_catA))
theorem sh_cases (a : Rv) : (∃ i, a = .sh (.int i)) ∨ (∃ i, a = .sh (.str i)) ∨ ((∀ i, a ≠ .sh (.int i)) ∧ ∀ i, a ≠ .sh (.str i)) := by
  cases a with
  | sh d =>
    cases d with
    | int i => exact .inl ⟨i, rfl⟩
    | str i => exact .inr (.inl ⟨i, rfl⟩)
    | _ => exact .inr (.inr ⟨fun _ z => (nomatch z), fun _ z => (nomatch z)⟩)
  | _ => exact .inr (.inr ⟨fun _ z => (nomatch z), fun _ z => (nomatch z)⟩)
theorem OpD.add {C : Cn} : OpD C (rAddD C.K) addR := by
  intro wh H H0 H1 F σ a b x y Q r ha hb h
  unfold addR at h
  split at h
  · rename_i i j
    rw [ha.int, hb.int]
    exact .inl ⟨i, j, rfl, rfl, okS_ret h r (.int _)⟩
  · rename_i i j
    rw [ha.str, hb.str]
    obtain ⟨hl, h⟩ := okW.ite h
    exact .inr (.inl ⟨i, j, rfl, rfl, line_ok hl, okS_ret h r (.str _)⟩)
  · split at h
    · rename_i xs ys e1 e2
      obtain ⟨a1, vs, rfl, r1, -, l1, -⟩ := view_ok r ha e1
      obtain ⟨a2, us, rfl, r2, -, l2, -⟩ := view_ok r hb e2
      obtain ⟨hl, h⟩ := okW.ite h
      refine .inr (.inr (.inl ⟨a1, a2, vs, us, rfl, rfl, l1 rfl, l2 rfl, ?_, fun p n => fr_ret h r (r1.append r2) p n⟩))
      rw [← r1.length, ← r2.length]
      exact line_ok hl
    · rename_i xs ys e1 e2
      obtain ⟨a1, vs, rfl, r1, t1, -, -⟩ := view_ok r ha e1
      obtain ⟨a2, us, rfl, r2, t2, -, -⟩ := view_ok r hb e2
      obtain ⟨hl, h⟩ := okW.ite h
      refine .inr (.inr (.inr ⟨a1, a2, vs, us, rfl, rfl, t1 rfl, t2 rfl, ?_, fun z => ?_, fun z1 z2 => ?_, fun z1 z2 p n => tup_ret h r (r1.append r2) p n⟩))
      · rw [← r1.length, ← r2.length]
        exact line_ok hl
      · refine okS_ret h r (.tup (t2 rfl) ?_)
        subst z
        cases r1
        exact r2
      · refine okS_ret h r (.tup (t1 rfl) ?_)
        subst z2
        cases r2
        rw [List.append_nil]
        exact r1
    · exact h.elim
theorem OpD.sub {C : Cn} : OpD C (rI0 fun i j => .int (i - j)) subR := by
  intro wh H H0 H1 F σ a b x y Q r ha hb h
  unfold subR at h
  split at h
  · rw [ha.int, hb.int]
    exact ⟨_, _, rfl, rfl, okS_ret h r (.int _)⟩
  · exact h.elim
theorem OpD.mod {C : Cn} : OpD C (rI (fun _ j => 0 < j) fun i j => .int (i % j)) modR := by
  intro wh H H0 H1 F σ a b x y Q r ha hb h
  unfold modR at h
  split at h
  · rw [ha.int, hb.int]
    obtain ⟨hl, h⟩ := okW.ite h
    exact ⟨_, _, rfl, rfl, of_decide_eq_true hl, okS_ret h r (.int _)⟩
  · exact h.elim
theorem log2_of {j : Int} (h : 0 < j ∧ j < 2 ^ 64) : CDivW 0 j := by
  refine ⟨h.1, ?_⟩
  have h1 : j.natAbs < 2 ^ 64 := by omega
  have h2 : j.natAbs ≠ 0 := by omega
  have := (Nat.log2_lt h2).mpr h1
  omega
theorem OpD.fdiv {C : Cn} : OpD C (rI CDivW fun i j => .int (i / j)) fdivR := by
  intro wh H H0 H1 F σ a b x y Q r ha hb h
  unfold fdivR at h
  split at h
  · rw [ha.int, hb.int]
    obtain ⟨hl, h⟩ := okW.ite h
    exact ⟨_, _, rfl, rfl, log2_of (of_decide_eq_true hl), okS_ret h r (.int _)⟩
  · exact h.elim
theorem OpD.pow {C : Cn} : OpD C (rI CPow fun i j => .int (i ^ j.toNat)) powR := by
  intro wh H H0 H1 F σ a b x y Q r ha hb h
  unfold powR at h
  split at h
  · rw [ha.int, hb.int]
    obtain ⟨hl, h⟩ := okW.ite h
    exact ⟨_, _, rfl, rfl, (by have q := of_decide_eq_true hl; exact q), okS_ret h r (.int _)⟩
  · exact h.elim
def rMulD : R2 := fun x y H Q => (rI CMul fun i j => .int (i * j)) x y H Q ∨ rRep x y H Q
theorem op_mulD {X : Cx} : OpR X (binaryOp .Mult) rMulD := op_mul.or op_rep
theorem OpD.mul {C : Cn} : OpD C rMulD mulR := by
  intro wh H H0 H1 F σ a b x y Q r ha hb h
  unfold mulR at h
  split at h
  · rename_i k
    rw [hb.int]
    split at h
    · rename_i i
      rw [ha.int]
      obtain ⟨hl, h⟩ := okW.ite h
      refine .inl ⟨_, _, rfl, rfl, ?_, okS_ret h r (.int _)⟩
      rcases Bool.or_eq_true_iff.mp hl with q | q
      · rw [fits_eq] at q; exact .inl (of_decide_eq_true q)
      · rw [fits_eq] at q; exact .inr (of_decide_eq_true q)
    · split at h
      · rename_i xs e1
        obtain ⟨a1, vs, rfl, r1, -, l1, -⟩ := view_ok r ha e1
        obtain ⟨hl, h⟩ := okW.ite h
        obtain ⟨q1, q2⟩ := Bool.and_eq_true_iff.mp hl
        rw [mulOk_eq] at q1
        obtain ⟨q3, q4⟩ := of_decide_eq_true q1
        refine .inr ⟨a1, k, vs, rfl, rfl, l1 rfl, q3, q4, ?_, fun p n => fr_ret h r (r1.rep _) p n⟩
        rw [← r1.length]
        exact line_ok q2
      · exact h.elim
  · exact h.elim
def opOk : Operator → Bool
  | .Add => true | .Sub => true | .Mult => true | .FloorDiv => true | .Mod => true | .Pow => true
  | _ => false
theorem bop_ok {X : Cx} (W : WX) (op : Operator) (h : opOk op = true) : ∃ r, OpR X (binaryOp op) r ∧ OpD (cn X W) r (bop op) := by
  cases op with
  | Add => exact ⟨_, op_addD, OpD.add⟩
  | Sub => exact ⟨_, op_sub, OpD.sub⟩
  | Mult => exact ⟨_, op_mulD, OpD.mul⟩
  | FloorDiv => exact ⟨_, op_fdivW, OpD.fdiv⟩
  | Mod => exact ⟨_, op_mod, OpD.mod⟩
  | Pow => exact ⟨_, op_pow, OpD.pow⟩
  | _ => cases h
theorem pe_bin {X : Cx} {W : WX} {op : Operator} {a b : Expr} {pos : Pos} {ma mb : Fm → Rs Rv} (h : opOk op = true) (ha : PE X a (tX (cn X W) ma)) (hb : PE X b (tX (cn X W) mb)) :
    PE X (.BinOp a op b pos) (tX (cn X W) fun F => (ma F).bind fun r1 F1 => (mb F1).bind fun r2 F2 => bop op r1 r2 F2) := by
  obtain ⟨r, o, d⟩ := bop_ok (X := X) W op h
  exact (pe_op o ha hb).imp fun σ H Q q => tX_bin d q
/-! ### comparisons -/
mutual
theorem Rep.dp {K : PySem.W.Frag} {wh : Who} {H : Hp} : ∀ {d : D} {v : V}, Rep K wh H d v → d.py.canLay0 = true → Dp K H v d.py
  | .non, _, .non, _ => .non
  | .bl b, _, .bl _, _ => .bl b
  | .int i, _, .int _, _ => .int i
  | .str x, _, .str _, _ => .str x
  | .tup xs, _, .tup h r, c => .tup h (RepL.dp r (by simpa [D.py, PyData.canLay0] using c))
  | .lst xs, _, .lst s h r, c => .lst (.of h) (RepL.dp r (by simpa [D.py, PyData.canLay0] using c))
  | .fz xs, _, .fz _ _, c => by simp [D.py, PyData.canLay0] at c
theorem RepL.dp {K : PySem.W.Frag} {wh : Who} {H : Hp} : ∀ {ds : List D} {vs : List V}, RepL K wh H ds vs → PyData.canLayAll0 (D.pyL ds) = true → DpAll K H vs (D.pyL ds)
  | [], _, .nil, _ => .nil
  | d :: ds, _, .cons h r, c => by
    have c' : d.py.canLay0 = true ∧ PyData.canLayAll0 (D.pyL ds) = true := by simpa [D.pyL, PyData.canLayAll0, Bool.and_eq_true] using c
    exact .cons (Rep.dp h c'.1) (RepL.dp r c'.2)
end
theorem pyR_ok {K : PySem.W.Frag} {wh : Who} {H H0 : Hp} {σ : L2.St} {F : Fm} {rv : Rv} {v : V} (r : Rl K wh H F σ) (h : RR K H0 wh H σ rv v) (c : SeqAt.shaped (pyR rv F) = true) : Dp K H v (pyR rv F) := by
  have c0 := SeqAt.canLay_of_shaped c
  cases rv with
  | sh d => exact Rep.dp h c0
  | fr xs =>
    obtain ⟨a, vs, rfl, h0, h1, h2, h3⟩ := h
    exact .lst (.of h2) (RepL.dp h3 (by simpa [pyR, PyData.canLay0] using c0))
  | ow i =>
    cases q : ownAt F i with
    | none => simp [pyR, q, PyData.canLay0] at c0
    | some xs =>
      obtain ⟨s, a, vs, g1, g2, g3, g4, g5, g6⟩ := ownAt_ok r q
      rw [show σ[i]? = some (some v) from h] at g3
      cases g3
      have e : pyR (.ow i) F = .list (D.pyL xs) := by simp [pyR, q]
      rw [e] at c0 ⊢
      exact .lst (.of g5) (RepL.dp g6 (by simpa [PyData.canLay0] using c0))
/-- a comparison by its meaning: the answer, then what follows -/
def CpD (C : Cn) (r : R2) (f : Rv → Rv → Fm → Option Bool) : Prop := ∀ (wh : Who) (H H0 H1 : Hp) (F : Fm) (σ : L2.St) (a b : Rv) (x y : V) (c : Bool) (Q : VK), Rl C.K wh H F σ → RR C.K H0 wh H σ a x → RR C.K H1 wh H σ b y →
  f a b F = some c → Q (.bl c) H → r x y H Q
theorem CpD.opD {C : Cn} {r : R2} {f : Rv → Rv → Fm → Option Bool} (h : CpD C r f) : OpD C r (fun a b F => ofO (f a b F) fun c => okS (.bl c) F) := by
  intro wh H H0 H1 F σ a b x y Q rl ha hb q
  obtain ⟨c, e, q⟩ := okW.ofO q
  exact h wh H H0 H1 F σ a b x y c Q rl ha hb e (okS_ret q rl (.bl c))
theorem CpD.eq {C : Cn} : CpD C (rEqD C.K) eqR := by
  intro wh H H0 H1 F σ a b x y c Q r ha hb e q
  unfold eqR at e
  split at e
  · rename_i hs
    obtain ⟨s1, s2⟩ := Bool.and_eq_true_iff.mp hs
    cases e
    exact ⟨_, _, pyR_ok r ha s1, pyR_ok r hb s2, s1, s2, q⟩
  · cases e
theorem CpD.ne {C : Cn} : CpD C (rNeD C.K) neR := by
  intro wh H H0 H1 F σ a b x y c Q r ha hb e q
  unfold neR eqR at e
  split at e
  · rename_i hs
    obtain ⟨s1, s2⟩ := Bool.and_eq_true_iff.mp hs
    cases e
    exact ⟨_, _, pyR_ok r ha s1, pyR_ok r hb s2, s1, s2, q⟩
  · cases e
theorem CpD.ints {C : Cn} {g : Int → Int → Bool} {h : Str → Str → Bool} : CpD C (fun x y H Q => (rI0 fun i j => .bl (g i j)) x y H Q ∨ ∃ i j, x = .str i ∧ y = .str j ∧ Q (.bl (h i j)) H) (cmpI g h) := by
  intro wh H H0 H1 F σ a b x y c Q r ha hb e q
  unfold cmpI at e
  split at e
  · cases e
    rw [ha.int, hb.int]
    exact .inl ⟨_, _, rfl, rfl, q⟩
  · cases e
    rw [ha.str, hb.str]
    exact .inr ⟨_, _, rfl, rfl, q⟩
  · cases e
theorem flat_of {K : PySem.W.Frag} {wh : Who} {H : Hp} {d : D} {v : V} (h : Rep K wh H d v) (f : d.flat = true) : flatV v = true ∧ ∀ {e : D} {u : V}, Rep K wh H e u → e.flat = true → eqV u v = PyData.eqv e.py d.py := by
  cases h with
  | non => exact ⟨rfl, fun {e u} h f => by cases h <;> first | rfl | cases f⟩
  | bl b => exact ⟨rfl, fun {e u} h f => by cases h <;> first | rfl | cases f⟩
  | int b => exact ⟨rfl, fun {e u} h f => by cases h <;> first | rfl | cases f⟩
  | str b => exact ⟨rfl, fun {e u} h f => by cases h <;> first | rfl | cases f⟩
  | tup _ _ => cases f
  | lst _ _ _ => cases f
  | fz _ _ => cases f
theorem inV_of {K : PySem.W.Frag} {wh : Who} {H : Hp} {d : D} {v : V} (h : Rep K wh H d v) (f : d.flat = true) : ∀ {es : List D} {us : List V}, RepL K wh H es us → es.all D.flat = true →
    us.all flatV = true ∧ inV v us = es.any fun y => PyData.eqv y.py d.py
  | _, _, .nil, _ => ⟨rfl, rfl⟩
  | _, _, .cons (d := e) (v := u) h1 r, fs => by
    rw [List.all_cons, Bool.and_eq_true_iff] at fs
    obtain ⟨g1, g2⟩ := inV_of h f r fs.2
    obtain ⟨_, k⟩ := flat_of h f
    refine ⟨by rw [List.all_cons, (flat_of h1 fs.1).1, g1]; rfl, ?_⟩
    unfold inV at g2 ⊢
    rw [List.any_cons, List.any_cons, g2, k h1 fs.1]
theorem inF_ok {C : Cn} {wh : Who} {H H0 H1 : Hp} {F : Fm} {σ : L2.St} {a b : Rv} {x y : V} {c : Bool} {neg : Bool} {Q : VK} (r : Rl C.K wh H F σ) (ha : RR C.K H0 wh H σ a x) (hb : RR C.K H1 wh H σ b y)
    (e : inF a b F = some c) (q : Q (.bl (if neg then !c else c)) H) : rIn C.K neg x y H Q := by
  unfold inF at e
  split at e
  · rename_i d k ys e1
    split at e
    · rename_i hs
      obtain ⟨s1, s2⟩ := Bool.and_eq_true_iff.mp hs
      cases e
      obtain ⟨a1, vs, rfl, r1, t1, -, l1⟩ := view_ok r hb e1
      obtain ⟨g1, g2⟩ := inV_of (show Rep _ _ _ d x from ha) s1 r1 s2
      refine ⟨a1, vs, rfl, ?_, (flat_of (show Rep _ _ _ d x from ha) s1).1, g1, ?_⟩
      · by_cases z : k = .t
        · exact .inr (t1 z)
        · exact .inl (l1 z)
      · rw [g2]
        cases neg <;> exact q
    · cases e
  · cases e
/-- in, of data at any depth -/
def rInA (K : PySem.W.Frag) (neg : Bool) : R2 := fun x y H Q => ∃ d ds, Dp K H x d ∧ (Dp K H y (.list ds) ∨ Dp K H y (.tuple ds)) ∧ d.canLay0 = true ∧ d.depth ≤ 8 ∧ PyData.canLayAll0 ds = true ∧
  Q (.bl (if neg then !(ds.any fun z => PyData.eqv z d) else ds.any fun z => PyData.eqv z d)) H
theorem op_inA {X : Cx} (hu : X.A.units + 64 < cLine) : OpR X (compareOp .In) (rInA X.K false) := by
  intro pins s σ H x y v u Q I rx ry h
  obtain ⟨d, ds, hd, he, sd, dd, se, q⟩ := h
  obtain ⟨as, r1⟩ := Dp.reads I d x v hd rx
  have hm : min (PyData.depthAll ds) d.depth ≤ 8 := Nat.le_trans (Nat.min_le_right _ _) dd
  rcases he with he | he
  · obtain ⟨bs, r2⟩ := Dp.reads I (.list ds) y u he ry
    exact SeqAt.in_list_reads r2 r1 se sd (by omega) ⟨.bl _, H, I, rfl, q⟩
  · obtain ⟨bs, r2⟩ := Dp.reads I (.tuple ds) y u he ry
    exact SeqAt.in_tuple_reads r2 r1 se sd (by omega) ⟨.bl _, H, I, rfl, q⟩
theorem op_notInA {X : Cx} (hu : X.A.units + 64 < cLine) : OpR X (compareOp .NotIn) (rInA X.K true) := by
  intro pins s σ H x y v u Q I rx ry h
  obtain ⟨d, ds, hd, he, sd, dd, se, q⟩ := h
  obtain ⟨as, r1⟩ := Dp.reads I d x v hd rx
  have hm : min (PyData.depthAll ds) d.depth ≤ 8 := Nat.le_trans (Nat.min_le_right _ _) dd
  rcases he with he | he
  · obtain ⟨bs, r2⟩ := Dp.reads I (.list ds) y u he ry
    exact SeqAt.notIn_list_reads r2 r1 se sd (by omega) ⟨.bl _, H, I, rfl, q⟩
  · obtain ⟨bs, r2⟩ := Dp.reads I (.tuple ds) y u he ry
    exact SeqAt.notIn_tuple_reads r2 r1 se sd (by omega) ⟨.bl _, H, I, rfl, q⟩
/-- the same by canLay0 alone -/
theorem pyR_lay {K : PySem.W.Frag} {wh : Who} {H H0 : Hp} {σ : L2.St} {F : Fm} {rv : Rv} {v : V} (r : Rl K wh H F σ) (h : RR K H0 wh H σ rv v) (c0 : (pyR rv F).canLay0 = true) : Dp K H v (pyR rv F) := by
  cases rv with
  | sh d => exact Rep.dp h c0
  | fr xs =>
    obtain ⟨a, vs, rfl, h0, h1, h2, h3⟩ := h
    exact .lst (.of h2) (RepL.dp h3 (by simpa [pyR, PyData.canLay0] using c0))
  | ow i =>
    cases q : ownAt F i with
    | none => simp [pyR, q, PyData.canLay0] at c0
    | some xs =>
      obtain ⟨s, a, vs, g1, g2, g3, g4, g5, g6⟩ := ownAt_ok r q
      rw [show σ[i]? = some (some v) from h] at g3
      cases g3
      have e : pyR (.ow i) F = .list (D.pyL xs) := by simp [pyR, q]
      rw [e] at c0 ⊢
      exact .lst (.of g5) (RepL.dp g6 (by simpa [PyData.canLay0] using c0))
theorem inG_ok {C : Cn} {wh : Who} {H H0 H1 : Hp} {F : Fm} {σ : L2.St} {a b : Rv} {x y : V} {c : Bool} {neg : Bool} {Q : VK} (r : Rl C.K wh H F σ) (ha : RR C.K H0 wh H σ a x) (hb : RR C.K H1 wh H σ b y)
    (e : inG a b F = some c) (q : Q (.bl (if neg then !c else c)) H) : rInA C.K neg x y H Q := by
  unfold inG at e
  split at e
  · rename_i ys e1
    split at e
    · rename_i hs
      rw [Bool.and_eq_true_iff, Bool.and_eq_true_iff, decide_eq_true_iff] at hs
      obtain ⟨⟨s1, s2⟩, s3⟩ := hs
      cases e
      have hb := pyR_lay r hb (by rw [e1]; simpa [PyData.canLay0] using s1)
      rw [e1] at hb
      exact ⟨_, _, pyR_lay r ha s2, .inl hb, s2, s3, s1, q⟩
    · cases e
  · rename_i ys e1
    split at e
    · rename_i hs
      rw [Bool.and_eq_true_iff, Bool.and_eq_true_iff, decide_eq_true_iff] at hs
      obtain ⟨⟨s1, s2⟩, s3⟩ := hs
      cases e
      have hb := pyR_lay r hb (by rw [e1]; simpa [PyData.canLay0] using s1)
      rw [e1] at hb
      exact ⟨_, _, pyR_lay r ha s2, .inr hb, s2, s3, s1, q⟩
    · cases e
  · cases e
theorem CpD.isIn {C : Cn} : CpD C (fun x y H Q => rIn C.K false x y H Q ∨ rInA C.K false x y H Q) inR := by
  intro wh H H0 H1 F σ a b x y c Q r ha hb e q
  unfold inR at e
  split at e
  · rename_i c' e1
    cases e
    exact .inl (inF_ok r ha hb e1 q)
  · exact .inr (inG_ok r ha hb e q)
theorem CpD.notIn {C : Cn} : CpD C (fun x y H Q => rIn C.K true x y H Q ∨ rInA C.K true x y H Q) ninR := by
  intro wh H H0 H1 F σ a b x y c Q r ha hb e q
  unfold ninR inR at e
  split at e
  · rename_i c' e1
    cases e
    exact .inl (inF_ok (neg := true) r ha hb e1 q)
  · cases e1 : inG a b F with
    | none => rw [e1] at e; cases e
    | some c' =>
      rw [e1] at e
      cases e
      exact .inr (inG_ok (neg := true) r ha hb e1 q)
theorem CpD.isN {C : Cn} : CpD C (fun x y H Q => y = .non ∧ Q (.bl (decide (x = .non))) H) (isNone true) := by
  intro wh H H0 H1 F σ a b x y c Q r ha hb e q
  unfold isNone at e
  split at e
  · rename_i d
    cases e
    have hb : Rep C.K wh H .non y := hb
    have ha : Rep C.K wh H d x := ha
    cases hb
    refine ⟨rfl, ?_⟩
    cases ha <;> exact q
  · cases e
theorem CpD.notN {C : Cn} : CpD C (fun x y H Q => y = .non ∧ Q (.bl (!decide (x = .non))) H) (isNone false) := by
  intro wh H H0 H1 F σ a b x y c Q r ha hb e q
  unfold isNone at e
  split at e
  · rename_i d
    cases e
    have hb : Rep C.K wh H .non y := hb
    have ha : Rep C.K wh H d x := ha
    cases hb
    refine ⟨rfl, ?_⟩
    cases ha <;> exact q
  · cases e
end Z

end
section
set_option Elab.async false
set_option linter.all false
set_option maxRecDepth 100000
namespace Z
open PySem PySem.Spec PyProof.Rows L2

theorem cop_ok {X : Cx} (W : WX) (hu : X.A.units + 64 < cLine) (op : CmpOp) : ∃ r, OpR X (compareOp op) r ∧ CpD (cn X W) r (cop op) := by
  cases op with
  | Eq => exact ⟨_, op_eqD hu, CpD.eq⟩
  | NotEq => exact ⟨_, op_neD hu, CpD.ne⟩
  | Lt => exact ⟨_, op_lt.or op_lt_str, CpD.ints⟩
  | LtE => exact ⟨_, op_le.or op_le_str, CpD.ints⟩
  | Gt => exact ⟨_, op_gt.or op_gt_str, CpD.ints⟩
  | GtE => exact ⟨_, op_ge.or op_ge_str, CpD.ints⟩
  | Is => exact ⟨_, op_isN, CpD.isN⟩
  | IsNot => exact ⟨_, op_notN, CpD.notN⟩
  | In => exact ⟨_, op_in_seq.or (op_inA hu), CpD.isIn⟩
  | NotIn => exact ⟨_, op_notIn_seq.or (op_notInA hu), CpD.notIn⟩
section
variable {X : Cx} {W : WX} {a b c : Expr} {pos : Pos} {ma mb mc : Fm → Rs Rv} {op op' : CmpOp}
theorem pe_cmpD (hu : X.A.units + 64 < cLine) (ha : PE X a (tX (cn X W) ma)) (hb : PE X b (tX (cn X W) mb)) (hm : behindInMarks op b = false) :
    PE X (.Compare a [op] [b] pos) (tX (cn X W) fun F => (ma F).bind fun r1 F1 => (mb F1).bind fun r2 F2 => copR op r1 r2 F2) := by
  obtain ⟨r, o, d⟩ := cop_ok (X := X) W hu op
  exact (pe_cmpR o ha hb hm).imp fun σ H Q q => tX_bin d.opD q
theorem tT_cmp {C : Cn} {r : R2} {f : Rv → Rv → Fm → Option Bool} (d : CpD C r f) {σ : L2.St} {H : Hp} {Q : Bool → Hp → Prop}
    (h : tT C (fun F => (ma F).bind fun r1 F1 => (mb F1).bind fun r2 F2 => ofO (f r1 r2 F2) fun c => .ok c F2) σ H Q) : tTest (tOp r (tX C ma) (tX C mb)) σ H Q := by
  obtain ⟨wh, F, rl, h⟩ := h
  refine ⟨wh, F, rl, okW.seq h fun r1 F1 wh1 H1 x1 rl1 h1 v1 hv1 => ?_⟩
  refine ⟨wh1, F1, rl1, okW.seq h1 fun r2 F2 wh2 H2 x2 rl2 h2 v2 hv2 => ?_⟩
  obtain ⟨c, e, h3⟩ := okW.ofO h2
  exact d wh2 H2 H H1 F2 σ r1 r2 v1 v2 c _ rl2 (hv1.mono x2) hv2 e ⟨c, rfl, h3.ret rl2 x2 (x1.trans x2)⟩
theorem pt_cmpD (hu : X.A.units + 64 < cLine) (ha : PE X a (tX (cn X W) ma)) (hb : PE X b (tX (cn X W) mb)) (hm : behindInMarks op b = false) :
    PT X (.Compare a [op] [b] pos) (tT (cn X W) fun F => (ma F).bind fun r1 F1 => (mb F1).bind fun r2 F2 => ofO (cop op r1 r2 F2) fun c => .ok c F2) := by
  obtain ⟨r, o, d⟩ := cop_ok (X := X) W hu op
  exact (pt_cmpR o ha hb hm).imp fun σ H Q q => tT_cmp d q
theorem tX_chain {C : Cn} {r r' : R2} {f f' : Rv → Rv → Fm → Option Bool} (d : CpD C r f) (d' : CpD C r' f') {σ : L2.St} {H : Hp} {Q : VK}
    (h : tX C (fun F => (ma F).bind fun r1 F1 => (mb F1).bind fun r2 F2 => ofO (f r1 r2 F2) fun k => if k then (mc F2).bind fun r3 F3 => (ofO (f' r2 r3 F3) fun c => okS (.bl c) F3) else okS (.bl false) F2) σ H Q) :
    tChain r r' (tX C ma) (tX C mb) (tX C mc) σ H Q := by
  obtain ⟨wh, F, rl, h⟩ := h
  refine ⟨wh, F, rl, okW.seq h fun r1 F1 wh1 H1 x1 rl1 h1 v1 hv1 => ?_⟩
  refine ⟨wh1, F1, rl1, okW.seq h1 fun r2 F2 wh2 H2 x2 rl2 h2 v2 hv2 => ?_⟩
  obtain ⟨c, e, h3⟩ := okW.ofO h2
  refine d wh2 H2 H H1 F2 σ r1 r2 v1 v2 c _ rl2 (hv1.mono x2) hv2 e ⟨c, rfl, ?_⟩
  cases c with
  | false =>
    refine iteF ?_
    exact h3.ret rl2 x2 (x1.trans x2) _ (Rep.bl false)
  | true =>
    refine iteT ?_
    refine ⟨wh2, F2, rl2, okW.seq (show okW C wh2 H2 σ ((mc F2).bind _) _ from h3) fun r3 F3 wh3 H3 x3 rl3 h4 v3 hv3 => ?_⟩
    obtain ⟨c', e', h5⟩ := okW.ofO h4
    exact d' wh3 H3 H1 H2 F3 σ r2 r3 v2 v3 c' _ rl3 (hv2.mono x3) hv3 e' (h5.ret rl3 x3 (x2.trans x3) (x1.trans (x2.trans x3)) _ (Rep.bl c'))
theorem pe_chnD (hu : X.A.units + 64 < cLine) (ha : PE X a (tX (cn X W) ma)) (hb : PE X b (tX (cn X W) mb)) (hc : PE X c (tX (cn X W) mc)) (hm : lastMarks [op, op'] [b, c] = false) :
    PE X (.Compare a [op, op'] [b, c] pos) (tX (cn X W) fun F => (ma F).bind fun r1 F1 => (mb F1).bind fun r2 F2 => ofO (cop op r1 r2 F2) fun k => if k then (mc F2).bind fun r3 F3 => copR op' r2 r3 F3 else okS (.bl false) F2) := by
  obtain ⟨r, o, d⟩ := cop_ok (X := X) W hu op
  obtain ⟨r', o', d'⟩ := cop_ok (X := X) W hu op'
  exact (pe_chain o o' ha hb hc hm).imp fun σ H Q q => tX_chain d d' q
theorem tT_chain {C : Cn} {r r' : R2} {f f' : Rv → Rv → Fm → Option Bool} (d : CpD C r f) (d' : CpD C r' f') {σ : L2.St} {H : Hp} {Q : Bool → Hp → Prop}
    (h : tT C (fun F => (ma F).bind fun r1 F1 => (mb F1).bind fun r2 F2 => ofO (f r1 r2 F2) fun k => if k then (mc F2).bind fun r3 F3 => (ofO (f' r2 r3 F3) fun c => .ok c F3) else .ok false F2) σ H Q) :
    tTest (tChain r r' (tX C ma) (tX C mb) (tX C mc)) σ H Q := by
  obtain ⟨wh, F, rl, h⟩ := h
  refine ⟨wh, F, rl, okW.seq h fun r1 F1 wh1 H1 x1 rl1 h1 v1 hv1 => ?_⟩
  refine ⟨wh1, F1, rl1, okW.seq h1 fun r2 F2 wh2 H2 x2 rl2 h2 v2 hv2 => ?_⟩
  obtain ⟨c, e, h3⟩ := okW.ofO h2
  refine d wh2 H2 H H1 F2 σ r1 r2 v1 v2 c _ rl2 (hv1.mono x2) hv2 e ⟨c, rfl, ?_⟩
  cases c with
  | false =>
    refine iteF ?_
    exact ⟨false, rfl, h3.ret rl2 x2 (x1.trans x2)⟩
  | true =>
    refine iteT ?_
    refine ⟨wh2, F2, rl2, okW.seq (show okW C wh2 H2 σ ((mc F2).bind _) _ from h3) fun r3 F3 wh3 H3 x3 rl3 h4 v3 hv3 => ?_⟩
    obtain ⟨c', e', h5⟩ := okW.ofO h4
    exact d' wh3 H3 H1 H2 F3 σ r2 r3 v2 v3 c' _ rl3 (hv2.mono x3) hv3 e' ⟨c', rfl, h5.ret rl3 x3 (x2.trans x3) (x1.trans (x2.trans x3))⟩
theorem pt_chnD (hu : X.A.units + 64 < cLine) (ha : PE X a (tX (cn X W) ma)) (hb : PE X b (tX (cn X W) mb)) (hc : PE X c (tX (cn X W) mc)) (hm : lastMarks [op, op'] [b, c] = false) :
    PT X (.Compare a [op, op'] [b, c] pos) (tT (cn X W) fun F => (ma F).bind fun r1 F1 => (mb F1).bind fun r2 F2 => ofO (cop op r1 r2 F2) fun k => if k then (mc F2).bind fun r3 F3 => (ofO (cop op' r2 r3 F3) fun c => .ok c F3) else .ok false F2) := by
  obtain ⟨r, o, d⟩ := cop_ok (X := X) W hu op
  obtain ⟨r', o', d'⟩ := cop_ok (X := X) W hu op'
  exact (pt_chain o o' ha hb hc hm).imp fun σ H Q q => tT_chain d d' q
/-! ### values as tests, not, and, or, if else -/
theorem tT_val {C : Cn} {σ : L2.St} {H : Hp} {Q : Bool → Hp → Prop} (h : tT C (fun F => (ma F).bind fun r F1 => match r with
    | .sh (.bl b) => .ok b F1
    | _ => .bad) σ H Q) : tB (tX C ma) σ H Q := by
  obtain ⟨wh, F, rl, h⟩ := h
  refine ⟨wh, F, rl, okW.seq h fun r1 F1 wh1 H1 x1 rl1 h1 v1 hv1 => ?_⟩
  split at h1
  · rename_i b
    exact ⟨b, hv1.bl, h1.ret rl1 x1⟩
  · exact h1.elim
theorem pt_valD (ha : PE X a (tX (cn X W) ma)) (he : ∀ whole, isTrue a X.env whole = (do let v ← whole; standAt a.pos; holding [v] (truthy v))) :
    PT X a (tT (cn X W) fun F => (ma F).bind fun r F1 => match r with
    | .sh (.bl b) => .ok b F1
    | _ => .bad) := (pt_val ha he).imp fun σ H Q q => tT_val q
theorem pe_notD (ha : PE X a (tX (cn X W) ma)) : PE X (.UnaryOp .Not a pos) (tX (cn X W) fun F => (ma F).bind fun r F1 => notR r F1) := by
  refine (pe_not ha).imp fun σ H Q h => ?_
  obtain ⟨wh, F, rl, h⟩ := h
  refine ⟨wh, F, rl, okW.seq h fun r1 F1 wh1 H1 x1 rl1 h1 v1 hv1 => ?_⟩
  unfold notR at h1
  split at h1
  · rename_i b
    exact ⟨b, hv1.bl, h1.ret rl1 x1 _ (Rep.bl _)⟩
  · exact h1.elim
theorem pe_negD (ha : PE X a (tX (cn X W) ma)) : PE X (.UnaryOp .USub a pos) (tX (cn X W) fun F => (ma F).bind fun r F1 => negR r F1) := by
  refine (pe_un un_neg ha).imp fun σ H Q h => ?_
  obtain ⟨wh, F, rl, h⟩ := h
  refine ⟨wh, F, rl, okW.seq h fun r1 F1 wh1 H1 x1 rl1 h1 v1 hv1 => ?_⟩
  unfold negR at h1
  split at h1
  · rename_i i
    exact ⟨i, hv1.int, h1.ret rl1 x1 _ (Rep.int _)⟩
  · exact h1.elim
variable {mt mu : Fm → Rs Bool} {rest : List Expr}
theorem pt_notD (ha : PT X a (tT (cn X W) mt)) : PT X (.UnaryOp .Not a pos) (tT (cn X W) fun F => (mt F).bind fun b F1 => .ok (!b) F1) := by
  refine (pt_not ha).imp fun σ H Q h => ?_
  obtain ⟨wh, F, rl, h⟩ := h
  exact ⟨wh, F, rl, okW.seq h fun b F1 wh1 H1 x1 rl1 h1 => h1.ret rl1 x1⟩
theorem pe_ifD (ht : PT X c (tT (cn X W) mt)) (ha : PE X a (tX (cn X W) ma)) (hb : PE X b (tX (cn X W) mb)) : PE X (.IfExp c a b pos) (tX (cn X W) fun F => (mt F).bind fun k F1 => if k then ma F1 else mb F1) := by
  refine (pe_ifExp ht ha hb).imp fun σ H Q h => ?_
  obtain ⟨wh, F, rl, h⟩ := h
  refine ⟨wh, F, rl, okW.seq h fun k F1 wh1 H1 x1 rl1 h1 => ?_⟩
  cases k with
  | true => exact iteT ⟨wh1, F1, rl1, (show okW _ _ _ _ (ma F1) _ from h1).imp fun rv wh2 H2 x2 q v hv => q (x1.trans x2) v (RR.base x1 hv)⟩
  | false => exact iteF ⟨wh1, F1, rl1, (show okW _ _ _ _ (mb F1) _ from h1).imp fun rv wh2 H2 x2 q v hv => q (x1.trans x2) v (RR.base x1 hv)⟩
theorem pw_andD (ha : PT X a (tT (cn X W) mt)) (hb : PW X (.BoolOp .And (b :: rest) pos) (tT (cn X W) mu)) : PW X (.BoolOp .And (a :: b :: rest) pos) (tT (cn X W) fun F => (mt F).bind fun k F1 => if k then mu F1 else .ok false F1) := by
  refine (pw_and ha hb).imp fun σ H Q h => ?_
  obtain ⟨wh, F, rl, h⟩ := h
  refine ⟨wh, F, rl, okW.seq h fun k F1 wh1 H1 x1 rl1 h1 => ?_⟩
  cases k with
  | true => exact iteT ⟨wh1, F1, rl1, (show okW _ _ _ _ (mu F1) _ from h1).imp fun rv wh2 H2 x2 q => q (x1.trans x2)⟩
  | false => exact iteF (h1.ret rl1 x1)
theorem pw_orD (ha : PT X a (tT (cn X W) mt)) (hb : PW X (.BoolOp .Or (b :: rest) pos) (tT (cn X W) mu)) : PW X (.BoolOp .Or (a :: b :: rest) pos) (tT (cn X W) fun F => (mt F).bind fun k F1 => if k then .ok true F1 else mu F1) := by
  refine (pw_or ha hb).imp fun σ H Q h => ?_
  obtain ⟨wh, F, rl, h⟩ := h
  refine ⟨wh, F, rl, okW.seq h fun k F1 wh1 H1 x1 rl1 h1 => ?_⟩
  cases k with
  | true => exact iteT (h1.ret rl1 x1)
  | false => exact iteF ⟨wh1, F1, rl1, (show okW _ _ _ _ (mu F1) _ from h1).imp fun rv wh2 H2 x2 q => q (x1.trans x2)⟩
theorem pe_andD (ha : PE X a (tX (cn X W) ma)) (hb : PE X (.BoolOp .And (b :: rest) pos) (tX (cn X W) mb)) : PE X (.BoolOp .And (a :: b :: rest) pos) (tX (cn X W) fun F => (ma F).bind fun r F1 => match r with
    | .sh (.bl c) => if c then mb F1 else okS (.bl false) F1
    | _ => .bad) := by
  refine (pe_and ha hb).imp fun σ H Q h => ?_
  obtain ⟨wh, F, rl, h⟩ := h
  refine ⟨wh, F, rl, okW.seq h fun r1 F1 wh1 H1 x1 rl1 h1 v1 hv1 => ?_⟩
  split at h1
  · rename_i k
    refine ⟨k, hv1.bl, ?_⟩
    cases k with
    | true => exact iteT ⟨wh1, F1, rl1, (show okW _ _ _ _ (mb F1) _ from h1).imp fun rv wh2 H2 x2 q v hv => q (x1.trans x2) v (RR.base x1 hv)⟩
    | false => exact iteF (h1.ret rl1 x1 _ (Rep.bl _))
  · exact h1.elim
theorem pe_orD (ha : PE X a (tX (cn X W) ma)) (hb : PE X (.BoolOp .Or (b :: rest) pos) (tX (cn X W) mb)) : PE X (.BoolOp .Or (a :: b :: rest) pos) (tX (cn X W) fun F => (ma F).bind fun r F1 => match r with
    | .sh (.bl c) => if c then okS (.bl true) F1 else mb F1
    | _ => .bad) := by
  refine (pe_or ha hb).imp fun σ H Q h => ?_
  obtain ⟨wh, F, rl, h⟩ := h
  refine ⟨wh, F, rl, okW.seq h fun r1 F1 wh1 H1 x1 rl1 h1 v1 hv1 => ?_⟩
  split at h1
  · rename_i k
    refine ⟨k, hv1.bl, ?_⟩
    cases k with
    | true => exact iteT (h1.ret rl1 x1 _ (Rep.bl _))
    | false => exact iteF ⟨wh1, F1, rl1, (show okW _ _ _ _ (mb F1) _ from h1).imp fun rv wh2 H2 x2 q v hv => q (x1.trans x2) v (RR.base x1 hv)⟩
  · exact h1.elim
end
end Z

end
section
set_option Elab.async false
set_option linter.all false
set_option maxRecDepth 100000
namespace Z
open PySem PySem.Spec PyProof.Rows L2
section
variable {X : Cx} {W : WX} {a b c : Expr} {pos : Pos} {ma mb mc : Fm → Rs Rv}
/-! ### names, constants -/
theorem pe_varD {i : Nat} {x : Str} (hN : X.N[i]? = some x) (hv : Vis X.env.scope x) (hd : (x == ("__debug__" : Str)) = false) (hcd : (x == ("__classdict__" : Str)) = false) (Γ : Tb) :
    PE X (.Name x pos) (tX (cn X W) ((Z.X.var i).den Γ)) := by
  refine (pe_var hN hv hd hcd).imp fun σ H Q h => ?_
  obtain ⟨wh, F, rl, h⟩ := h
  have h' : okW (cn X W) wh H σ (match F[i]? with
    | some (.sh d) => okS d F
    | some (.ow _) => .ok (.ow i) F
    | some (.io _) => .ok (.ow i) F
    | _ => .bad) fun rv wh' H' => ∀ v, RR X.K H wh' H' σ rv v → Q v H' := h
  split at h'
  · rename_i d hF
    obtain ⟨v, e, hd⟩ := rl.rs i _ hF
    exact ⟨v, e, okS_ret h' rl hd⟩
  · rename_i d hF
    obtain ⟨a, vs, e, _⟩ := rl.rs i _ hF
    exact ⟨_, e, h'.ret rl _ e⟩
  · rename_i d hF
    obtain ⟨a, vs, e, _⟩ := rl.rs i _ hF
    exact ⟨_, e, h'.ret rl _ e⟩
  · exact h'.elim
theorem tC_ok {C : Cn} {d : D} {v : V} (hd : ∀ wh H, Rep C.K wh H d v) {σ : L2.St} {H : Hp} {Q : VK} (h : tX C (fun F => okS d F) σ H Q) : tC v σ H Q := by
  obtain ⟨wh, F, rl, h⟩ := h
  exact okS_ret h rl (hd _ _)
theorem pe_constD {e : Expr} {d : D} {v : V} (h : PE X e (tC v)) (hd : ∀ wh H, Rep X.K wh H d v) : PE X e (tX (cn X W) fun F => okS d F) := h.imp fun σ H Q q => tC_ok (C := cn X W) hd q
/-! ### subscripts -/
def rIxD' (K : PySem.W.Frag) : R2 := rIx K
theorem OpD.idx {C : Cn} : OpD C (rIx C.K) idxR := by
  intro wh H H0 H1 F σ a b x y Q r ha hb h
  unfold idxR at h
  split at h
  · rename_i i
    rw [hb.int]
    split at h
    · rename_i z
      rw [ha.str]
      obtain ⟨hl, h⟩ := okW.ite h
      obtain ⟨c, e, h⟩ := okW.ofO h
      exact .inr (.inr ⟨z, i, c, rfl, rfl, line_ok hl, e, okS_ret h r (.str _)⟩)
    · split at h
      · rename_i k xs e1
        obtain ⟨d, e, h⟩ := okW.ofO h
        obtain ⟨a1, vs, rfl, r1, t1, -, l1⟩ := view_ok r ha e1
        unfold atI at e
        rw [r1.length] at e
        obtain ⟨n, e2, e3⟩ := Option.bind_eq_some_iff.mp e
        obtain ⟨v, e4, hv⟩ := r1.get e3
        have ev : atI vs i = some v := by
          unfold atI
          rw [e2]
          exact e4
        by_cases z : k = .t
        · exact .inr (.inl ⟨a1, vs, i, v, rfl, rfl, t1 z, ev, okS_ret h r hv⟩)
        · exact .inl ⟨a1, vs, i, v, rfl, rfl, l1 z, ev, okS_ret h r hv⟩
      · exact h.elim
  · exact h.elim
theorem pe_idxD (ha : PE X a (tX (cn X W) ma)) (hb : PE X b (tX (cn X W) mb)) (hs : PlainIx b) : PE X (.Subscript a b pos) (tX (cn X W) fun F => (ma F).bind fun r1 F1 => (mb F1).bind fun r2 F2 => idxR r1 r2 F2) :=
  (pe_ix ix_seq ha hb hs).imp fun σ H Q q => tX_bin (C := cn X W) OpD.idx q
/-! ### slices -/
def tO (C : Cn) (m : Fm → Rs (Option Int)) : TO := fun σ H Q => ∃ wh F, Rl C.K wh H F σ ∧ okW C wh H σ (m F) fun o _ H' => Q o H'
theorem po_noneD : PO X none (tO (cn X W) fun F => .ok none F) := ⟨fun pins s σ H Q I h => po_none.run pins s σ H Q I (by
  obtain ⟨wh, F, rl, h⟩ := h
  exact h.ret rl)⟩
theorem po_someD (ha : PE X a (tX (cn X W) ma)) : PO X (some a) (tO (cn X W) fun F => (ma F).bind fun rv F1 => match rv with
    | .sh (.int i) => .ok (some i) F1
    | _ => .bad) := ⟨fun pins s σ H Q I h => (po_some ha).run pins s σ H Q I (by
  obtain ⟨wh, F, rl, h⟩ := h
  refine ⟨wh, F, rl, okW.seq h fun r1 F1 wh1 H1 x1 rl1 h1 v1 hv1 => ?_⟩
  split at h1
  · rename_i i
    exact ⟨i, hv1.int, h1.ret rl1 x1⟩
  · exact h1.elim)⟩
theorem sl_seqD : SlR X (fun x lo hi H Q => rSlL X.K x lo hi H Q ∨ rSlA X.K x lo hi H Q) := sl_list.or sl_tupA
theorem cut_len {xs : List D} {vs : List V} (h : xs.length = vs.length) (lo hi : Option Int) : HT.sIx xs.length 0 lo = HT.sIx vs.length 0 lo ∧ HT.sIx xs.length xs.length hi = HT.sIx vs.length vs.length hi := by rw [h]; exact ⟨rfl, rfl⟩
theorem RepL.cut {K : PySem.W.Frag} {wh : Who} {H : Hp} {xs : List D} {vs : List V} (r : RepL K wh H xs vs) (lo hi : Option Int) : RepL K wh H (cutD xs lo hi) (cutV vs lo hi) := by
  unfold cutD cutV
  rw [r.length]
  exact (r.drop _).take _
theorem pe_slcD {lo hi : Option Expr} {p2 : Pos} {ml mh : Fm → Rs (Option Int)} (ha : PE X a (tX (cn X W) ma)) (hl : PO X lo (tO (cn X W) ml)) (hh : PO X hi (tO (cn X W) mh)) :
    PE X (.Subscript a (.Slice lo hi none p2) pos) (tX (cn X W) fun F => (ma F).bind fun r1 F1 => (ml F1).bind fun l F2 => (mh F2).bind fun h F3 => slcR r1 l h F3) := by
  refine (pe_slice sl_seqD ha hl hh).imp fun σ H Q h => ?_
  obtain ⟨wh, F, rl, h⟩ := h
  refine ⟨wh, F, rl, okW.seq h fun r1 F1 wh1 H1 x1 rl1 h1 v1 hv1 => ?_⟩
  refine ⟨wh1, F1, rl1, okW.seq h1 fun l F2 wh2 H2 x2 rl2 h2 => ?_⟩
  refine ⟨wh2, F2, rl2, okW.seq h2 fun u F3 wh3 H3 x3 rl3 h3 => ?_⟩
  have h4 : okW (cn X W) wh3 H3 σ (slcR r1 l u F3) (fun rv wh' H' => ∀ v, RR X.K H3 wh' H' σ rv v → Q v H') := h3.imp fun rv wh4 H4 x4 q v hv =>
    q (x3.trans x4) (x2.trans (x3.trans x4)) (x1.trans (x2.trans (x3.trans x4))) v (RR.base (x1.trans (x2.trans x3)) hv)
  have hv3 := hv1.mono (x2.trans x3)
  unfold slcR at h4
  split at h4
  · rename_i xs e1
    obtain ⟨a1, vs, rfl, g1, -, -, l1⟩ := view_ok rl3 hv3 e1
    exact .inl ⟨a1, vs, rfl, l1 (fun z => (nomatch z)), fun p n => fr_ret h4 rl3 (g1.cut _ _) p n⟩
  · rename_i xs e1
    obtain ⟨a1, vs, rfl, g1, -, -, l1⟩ := view_ok rl3 hv3 e1
    exact .inl ⟨a1, vs, rfl, l1 (fun z => (nomatch z)), fun p n => fr_ret h4 rl3 (g1.cut _ _) p n⟩
  · rename_i xs e1
    obtain ⟨a1, vs, rfl, g1, t1, -, -⟩ := view_ok rl3 hv3 e1
    refine .inr ⟨a1, vs, rfl, t1 rfl, fun z => ?_, fun _ p n => tup_ret h4 rl3 (g1.cut _ _) p n⟩
    refine okS_ret h4 rl3 (.tup (t1 rfl) ?_)
    have hc : cutD xs l u = xs := by
      unfold cutD
      rw [g1.length, z.1, z.2, List.drop_zero, Nat.sub_zero]
      exact List.take_of_length_le (Nat.le_of_eq g1.length)
    rw [hc]
    exact g1
  · exact h4.elim
/-! ### lists of values -/
theorem pa_nilD : PA X [] (tA (cn X W) fun F => .ok [] F) := pa_nil.imp fun σ H Q h => by
  obtain ⟨wh, F, rl, h⟩ := h
  exact h.ret rl _ .nil
variable {es : List Expr} {ms : Fm → Rs (List Rv)}
theorem pa_consD (ha : PE X a (tX (cn X W) ma)) (hs : PA X es (tA (cn X W) ms)) (hst : starEach (a :: es) X.env = (false, eval a X.env) :: starEach es X.env) :
    PA X (a :: es) (tA (cn X W) fun F => (ma F).bind fun rv F1 => (ms F1).bind fun rs F2 => .ok (rv :: rs) F2) := by
  refine (pa_cons ha hs hst).imp fun σ H Q h => ?_
  obtain ⟨wh, F, rl, h⟩ := h
  refine ⟨wh, F, rl, okW.seq h fun r1 F1 wh1 H1 x1 rl1 h1 v1 hv1 => ?_⟩
  refine ⟨wh1, F1, rl1, okW.seq h1 fun rs F2 wh2 H2 x2 rl2 h2 vs hvs => ?_⟩
  exact h2.ret rl2 x2 (x1.trans x2) _ (.cons (hv1.mono x2) (hvs.base x1))
/-- a list of shares -/
def tAS (C : Cn) (m : Fm → Rs (List D)) : TA := fun σ H Q => ∃ wh F, Rl C.K wh H F σ ∧ okW C wh H σ (m F) fun ds wh' H' => ∀ vs, RepL C.K wh' H' ds vs → Q vs H'
theorem pa_nilS : PA X [] (tAS (cn X W) fun F => .ok [] F) := pa_nil.imp fun σ H Q h => by
  obtain ⟨wh, F, rl, h⟩ := h
  exact h.ret rl _ .nil
/-- what follows a shared result -/
def unS {β : Type} (k : D → Fm → Rs β) : Rv → Fm → Rs β
  | .sh d, F => k d F
  | _, _ => .bad
theorem shM_bind {β : Type} (m : Fm → Rs Rv) (k : D → Fm → Rs β) (F : Fm) : ((m F).bind fun rv F1 => (share rv F1).bind k) = (shM m F).bind (unS k) := by
  unfold shM
  cases m F with
  | bad => rfl
  | ex e F => rfl
  | ok rv F1 =>
    show (share rv F1).bind k = ((share rv F1).bind fun d F2 => Rs.ok (Rv.sh d) F2).bind (unS k)
    cases share rv F1 <;> rfl
theorem pe_shD (ha : PE X a (tX (cn X W) ma)) : PE X a (tX (cn X W) (shM ma)) := ha.imp fun σ H Q q => tX_sh q
theorem okW.seqS {C : Cn} {wh : Who} {H : Hp} {σ : L2.St} {F : Fm} {β : Type} {k : D → Fm → Rs β} {P : β → Who → Hp → Prop} {P' : Rv → Who → Hp → Prop}
    (h : okW C wh H σ ((ma F).bind fun rv F1 => (share rv F1).bind k) P)
    (i : ∀ d F1 wh1 H1, Ext wh H wh1 H1 → Rl C.K wh1 H1 F1 σ → okW C wh1 H1 σ (k d F1) (fun b wh2 H2 => Ext wh H wh2 H2 → P b wh2 H2) → P' (.sh d) wh1 H1) : okW C wh H σ (shM ma F) P' := by
  rw [shM_bind] at h
  refine okW.seq h fun r1 F1 wh1 H1 x1 rl1 h1 => ?_
  cases r1 with
  | sh d => exact i d F1 wh1 H1 x1 rl1 h1
  | fr _ => exact h1.elim
  | ow _ => exact h1.elim
variable {mss : Fm → Rs (List D)}
theorem pa_consS (ha : PE X a (tX (cn X W) ma)) (hs : PA X es (tAS (cn X W) mss)) (hst : starEach (a :: es) X.env = (false, eval a X.env) :: starEach es X.env) :
    PA X (a :: es) (tAS (cn X W) fun F => (ma F).bind fun rv F1 => (share rv F1).bind fun d F2 => (mss F2).bind fun ds F3 => .ok (d :: ds) F3) := by
  refine (pa_cons (pe_shD ha) hs hst).imp fun σ H Q h => ?_
  obtain ⟨wh, F, rl, h⟩ := h
  refine ⟨wh, F, rl, okW.seqS (ma := ma) h fun d F1 wh1 H1 x1 rl1 h1 v1 hv1 => ?_⟩
  refine ⟨wh1, F1, rl1, okW.seq h1 fun rs F2 wh2 H2 x2 rl2 h2 vs hvs => ?_⟩
  exact h2.ret rl2 x2 (x1.trans x2) _ (.cons (Rep.mono x2 hv1) hvs)
theorem pe_tupD {k : Nat} (hs : PA X es (tAS (cn X W) mss)) : PE X (.Tuple es k pos) (tX (cn X W) fun F => (mss F).bind fun ds F1 => if line ds.length then okS (.tup ds) F1 else .bad) := by
  refine (pe_tup hs).imp fun σ H Q h => ?_
  obtain ⟨wh, F, rl, h⟩ := h
  refine ⟨wh, F, rl, okW.seq h fun ds F1 wh1 H1 x1 rl1 h1 vs hvs => ?_⟩
  obtain ⟨hl, h1⟩ := okW.ite h1
  refine ⟨by rw [← hvs.length]; exact line_ok hl, fun p n => tup_ret (h1.imp fun rv wh2 H2 x2 q v hv => q (x1.trans x2) v (RR.base x1 hv)) rl1 hvs p n⟩
theorem pe_lstD (hs : PA X es (tAS (cn X W) mss)) : PE X (.List es pos) (tX (cn X W) fun F => (mss F).bind fun ds F1 => if line ds.length then .ok (.fr ds) F1 else .bad) := by
  refine (pe_lst hs).imp fun σ H Q h => ?_
  obtain ⟨wh, F, rl, h⟩ := h
  refine ⟨wh, F, rl, okW.seq h fun ds F1 wh1 H1 x1 rl1 h1 vs hvs => ?_⟩
  obtain ⟨hl, h1⟩ := okW.ite h1
  refine ⟨by rw [← hvs.length]; exact line_ok hl, fun p n => fr_ret (h1.imp fun rv wh2 H2 x2 q v hv => q (x1.trans x2) v (RR.base x1 hv)) rl1 hvs p n⟩
/-! ### built-in functions -/
/-- a built-in's rule by its meaning -/
def ClD (C : Cn) (r : List V → Hp → VK → Prop) (f : List Rv → Fm → Rs Rv) : Prop := ∀ (wh : Who) (H H0 : Hp) (F : Fm) (σ : L2.St) (as : List Rv) (xs : List V) (Q : VK), Rl C.K wh H F σ → RRL C.K H0 wh H σ as xs →
  okW C wh H σ (f as F) (fun rv wh' H' => ∀ v, RR C.K H wh' H' σ rv v → Q v H') → r xs H Q
theorem tX_cl {C : Cn} {r : List V → Hp → VK → Prop} {f : List Rv → Fm → Rs Rv} (hf : ClD C r f) {σ : L2.St} {H : Hp} {Q : VK}
    (h : tX C (fun F => (ms F).bind fun rs F1 => f rs F1) σ H Q) : tCB r (tA C ms) σ H Q := by
  obtain ⟨wh, F, rl, h⟩ := h
  refine ⟨wh, F, rl, okW.seq h fun rs F1 wh1 H1 x1 rl1 h1 vs hvs => ?_⟩
  exact hf wh1 H1 H F1 σ rs vs Q rl1 hvs (h1.imp fun rv wh2 H2 x2 q v hv => q (x1.trans x2) v (RR.base x1 hv))
end
theorem RRL.one {K : PySem.W.Frag} {H0 : Hp} {wh : Who} {H : Hp} {σ : L2.St} {a : Rv} {vs : List V} (h : RRL K H0 wh H σ [a] vs) : ∃ v, vs = [v] ∧ RR K H0 wh H σ a v := by
  cases h with
  | cons h r => cases r; exact ⟨_, rfl, h⟩
theorem RRL.two {K : PySem.W.Frag} {H0 : Hp} {wh : Who} {H : Hp} {σ : L2.St} {a b : Rv} {vs : List V} (h : RRL K H0 wh H σ [a, b] vs) : ∃ v u, vs = [v, u] ∧ RR K H0 wh H σ a v ∧ RR K H0 wh H σ b u := by
  cases h with
  | cons h r =>
    obtain ⟨u, rfl, h2⟩ := r.one
    exact ⟨_, _, rfl, h, h2⟩
/-! ### the built-in functions' meanings -/
theorem ClD.len {C : Cn} : ClD C (fun xs H Q => ∃ x n, xs = [x] ∧ LenV C.K x H n ∧ Q (.int n) H) lenR := by
  intro wh H H0 F σ as xs Q r hv h
  unfold lenR at h
  split at h
  · rename_i a
    obtain ⟨v, rfl, hw⟩ := hv.one
    split at h
    · rename_i y
      obtain ⟨hl, h⟩ := okW.ite h
      refine ⟨v, y.length, rfl, ?_, okS_ret h r (.int _)⟩
      rw [hw.str]
      exact ⟨line_ok hl, rfl⟩
    · split at h
      · rename_i k ys e1
        obtain ⟨a1, vs, rfl, r1, t1, -, l1⟩ := view_ok r hw e1
        refine ⟨_, ys.length, rfl, ?_, okS_ret h r (.int _)⟩
        by_cases z : k = .t
        · exact .inr ⟨vs, t1 z, r1.length⟩
        · exact .inl ⟨vs, l1 z, r1.length⟩
      · exact h.elim
  · exact h.elim
theorem ClD.int {C : Cn} : ClD C (fun xs H Q => (∃ i, xs = [.int i] ∧ Q (.int i) H) ∨ ∃ k, xs = [.bl k] ∧ Q (.int (if k then 1 else 0)) H) intR := by
  intro wh H H0 F σ as xs Q r hv h
  unfold intR at h
  split at h
  · obtain ⟨v, rfl, hw⟩ := hv.one
    rw [hw.int]
    exact .inl ⟨_, rfl, okS_ret h r (.int _)⟩
  · obtain ⟨v, rfl, hw⟩ := hv.one
    rw [hw.bl]
    exact .inr ⟨_, rfl, okS_ret h r (.int _)⟩
  · exact h.elim
theorem ClD.ord {C : Cn} : ClD C (fun xs H Q => ∃ x, xs = [.str x] ∧ x.length = 1 ∧ Q (.int (x.cps.getD 0 0 : Nat)) H) ordR := by
  intro wh H H0 F σ as xs Q r hv h
  unfold ordR at h
  split at h
  · obtain ⟨v, rfl, hw⟩ := hv.one
    rw [hw.str]
    obtain ⟨hl, h⟩ := okW.ite h
    exact ⟨_, rfl, by simpa using hl, okS_ret h r (.int _)⟩
  · exact h.elim
theorem ClD.tuple {C : Cn} : ClD C (fun xs H Q => ∃ p ys, xs = [.ref p] ∧ ((SqL C.K H p ys ∧ ∀ l, H l = none → Q (.ref l) (upd H l (.tup ys))) ∨ (SqT C.K H p ys ∧ Q (.ref p) H))) tupleR := by
  intro wh H H0 F σ as xs Q r hv h
  unfold tupleR at h
  split at h
  · obtain ⟨v, rfl, hw⟩ := hv.one
    split at h
    · rename_i k ys e1
      obtain ⟨a1, vs, rfl, r1, t1, -, l1⟩ := view_ok r hw e1
      refine ⟨a1, vs, rfl, ?_⟩
      by_cases z : k = .t
      · exact .inr ⟨t1 z, okS_ret h r (.tup (t1 z) r1)⟩
      · exact .inl ⟨l1 z, fun p n => tup_ret h r r1 p n⟩
    · exact h.elim
  · exact h.elim
theorem ClD.list {C : Cn} : ClD C (fun xs H Q => ∃ p ys, xs = [.ref p] ∧ (SqL C.K H p ys ∨ SqT C.K H p ys) ∧ ∀ l, H l = none → Q (.ref l) (upd H l (.lst ys))) listR := by
  intro wh H H0 F σ as xs Q r hv h
  unfold listR at h
  split at h
  · obtain ⟨v, rfl, hw⟩ := hv.one
    split at h
    · rename_i k ys e1
      obtain ⟨a1, vs, rfl, r1, t1, -, l1⟩ := view_ok r hw e1
      refine ⟨a1, vs, rfl, ?_, fun p n => fr_ret h r r1 p n⟩
      by_cases z : k = .t
      · exact .inr (t1 z)
      · exact .inl (l1 z)
    · exact h.elim
  · exact h.elim
theorem bools_ok {K : PySem.W.Frag} {wh : Who} {H : Hp} : ∀ {ds : List D} {vs : List V} {bs : List Bool}, RepL K wh H ds vs → boolsD ds = some bs → vs = bs.map V.bl
  | _, _, _, .nil, e => by cases e; rfl
  | .bl b :: ds, _, bs, .cons h r, e => by
    unfold boolsD at e
    obtain ⟨cs, e1, e2⟩ := Option.map_eq_some_iff.mp e
    cases h
    rw [← e2, bools_ok r e1]
    rfl
  | .non :: _, _, _, .cons _ _, e => by cases e
  | .int _ :: _, _, _, .cons _ _, e => by cases e
  | .str _ :: _, _, _, .cons _ _, e => by cases e
  | .tup _ :: _, _, _, .cons _ _, e => by cases e
  | .lst _ :: _, _, _, .cons _ _, e => by cases e
  | .fz _ :: _, _, _, .cons _ _, e => by cases e
theorem ClD.all {C : Cn} : ClD C (rAll C.K) allR := by
  intro wh H H0 F σ as xs Q r hv h
  unfold allR at h
  split at h
  · obtain ⟨v, rfl, hw⟩ := hv.one
    split at h
    · rename_i ys e1
      obtain ⟨bs, e2, h⟩ := okW.ofO h
      obtain ⟨a1, vs, rfl, r1, t1, -, l1⟩ := view_ok r hw e1
      have e := bools_ok r1 e2
      subst e
      exact ⟨a1, bs, rfl, l1 (fun z => (nomatch z)), okS_ret h r (.bl _)⟩
    · exact h.elim
  · exact h.elim
theorem ClD.any {C : Cn} : ClD C (rAny C.K) anyR := by
  intro wh H H0 F σ as xs Q r hv h
  unfold anyR at h
  split at h
  · obtain ⟨v, rfl, hw⟩ := hv.one
    split at h
    · rename_i ys e1
      obtain ⟨bs, e2, h⟩ := okW.ofO h
      obtain ⟨a1, vs, rfl, r1, t1, -, l1⟩ := view_ok r hw e1
      have e := bools_ok r1 e2
      subst e
      exact ⟨a1, bs, rfl, l1 (fun z => (nomatch z)), okS_ret h r (.bl _)⟩
    · exact h.elim
  · exact h.elim
theorem ClD.max {C : Cn} : ClD C (fun xs H Q => ∃ i j, xs = [.int i, .int j] ∧ Q (.int (if j > i then j else i)) H) maxR := by
  intro wh H H0 F σ as xs Q r hv h
  unfold maxR at h
  split at h
  · obtain ⟨v, u, rfl, h1, h2⟩ := hv.two
    rw [h1.int, h2.int]
    exact ⟨_, _, rfl, okS_ret h r (.int _)⟩
  · exact h.elim
theorem ClD.min {C : Cn} : ClD C (fun xs H Q => ∃ i j, xs = [.int i, .int j] ∧ Q (.int (if j < i then j else i)) H) minR := by
  intro wh H H0 F σ as xs Q r hv h
  unfold minR at h
  split at h
  · obtain ⟨v, u, rfl, h1, h2⟩ := hv.two
    rw [h1.int, h2.int]
    exact ⟨_, _, rfl, okS_ret h r (.int _)⟩
  · exact h.elim
theorem pe_bltD {X : Cx} {W : WX} {f : Blt} {p pos : Pos} {e : Expr} {es : List Expr} {ms : Fm → Rs (List Rv)} (hc : X.calm = true) (hm : X.mg f.name = none) (hg : Gl X f.name) (ha : PA X (e :: es) (tA (cn X W) ms))
    (he : starEach (e :: es) X.env = (false, eval e X.env) :: starEach es X.env) (hpl : (backTo pos (starEach es X.env)).any (·.1) = false) :
    PE X (.Call (.Name f.name p) (e :: es) [] pos) (tX (cn X W) fun F => (ms F).bind fun rs F1 => bltR f rs F1) := by
  cases f with
  | len => exact (pe_callB call_len hg hm PySem.boot_len ha (by decide) (by decide) he hpl).imp fun σ H Q q => tX_cl (C := cn X W) ClD.len q
  | int => exact (pe_callTy call_int1 hg hm (by decide +kernel) ha (by decide) (by decide) he hpl).imp fun σ H Q q => tX_cl (C := cn X W) ClD.int q
  | ord => exact (pe_callB call_ord hg hm (by decide +kernel) ha (by decide) (by decide) he hpl).imp fun σ H Q q => tX_cl (C := cn X W) ClD.ord q
  | tuple => exact (pe_callTy call_tuple_of hg hm (by decide +kernel) ha (by decide) (by decide) he hpl).imp fun σ H Q q => tX_cl (C := cn X W) ClD.tuple q
  | list => exact (pe_callTy call_list_of hg hm (by decide +kernel) ha (by decide) (by decide) he hpl).imp fun σ H Q q => tX_cl (C := cn X W) ClD.list q
  | all => exact (pe_callB (cr_all hc) hg hm (by decide +kernel) ha (by decide) (by decide) he hpl).imp fun σ H Q q => tX_cl (C := cn X W) ClD.all q
  | any => exact (pe_callB (cr_any hc) hg hm (by decide +kernel) ha (by decide) (by decide) he hpl).imp fun σ H Q q => tX_cl (C := cn X W) ClD.any q
  | max => exact (pe_callB (call_max2 hc) hg hm (by decide +kernel) ha (by decide) (by decide) he hpl).imp fun σ H Q q => tX_cl (C := cn X W) ClD.max q
  | min => exact (pe_callB (call_min2 hc) hg hm (by decide +kernel) ha (by decide) (by decide) he hpl).imp fun σ H Q q => tX_cl (C := cn X W) ClD.min q
end Z

end
section
set_option Elab.async false
set_option linter.all false
set_option maxRecDepth 100000
namespace Z
open PySem PySem.Spec PyProof.Rows L2
/-! ### what is walked -/
def Walks (K : PySem.W.Frag) (J : L2.It) (ds : List D) (wh : Who) (H : Hp) : Prop := ∀ wh1 H1, Ext wh H wh1 H1 →
  (∀ i d, ds[i]? = some d → J.go i H1 ∧ ∀ x H2, J.yld i H1 x H2 → (H2 = H1 ∨ ∃ T o, H1 T = none ∧ H2 = upd H1 T o) ∧ ((∀ a, H1 a = none → wh1 a = .no) → Rep K wh1 H2 d x)) ∧ ∀ i, ds.length ≤ i → J.stop i H1
def tI (C : Cn) (m : Fm → Rs (List D)) : TI := fun σ H R => ∃ wh F, Rl C.K wh H F σ ∧ okW C wh H σ (m F) fun ds wh' H' => ∀ J, Walks C.K J ds wh' H' → R J H'
section
variable {K : PySem.W.Frag} {wh : Who} {H : Hp}
theorem Walks.list {a : Addr} {ds : List D} {vs : List V} (hs : ∀ wh1 H1, Ext wh H wh1 H1 → SqL K H1 a vs) (hr : RepL K wh H ds vs) : Walks K (Itl K a) ds wh H := fun wh1 H1 x => by
  refine ⟨fun i d hd => ?_, fun i hi => ⟨vs, hs _ _ x, by rw [← hr.length]; exact hi⟩⟩
  obtain ⟨v, h1, h2⟩ := hr.get hd
  refine ⟨⟨vs, v, hs _ _ x, h1⟩, fun y H2 hy => ?_⟩
  obtain ⟨rfl, hy⟩ := hy
  have e := hy vs (hs _ _ x)
  rw [h1] at e
  cases e
  exact ⟨.inl rfl, fun _ => h2.mono x⟩
theorem Walks.tup {a : Addr} {ds : List D} {vs : List V} (hs : SqT K H a vs) (hr : RepL K wh H ds vs) : Walks K (Itt K a) ds wh H := fun wh1 H1 x => by
  refine ⟨fun i d hd => ?_, fun i hi => ⟨vs, x.sqT hs, by rw [← hr.length]; exact hi⟩⟩
  obtain ⟨v, h1, h2⟩ := hr.get hd
  refine ⟨⟨vs, v, x.sqT hs, h1⟩, fun y H2 hy => ?_⟩
  obtain ⟨rfl, hy⟩ := hy
  have e := hy vs (x.sqT hs)
  rw [h1] at e
  cases e
  exact ⟨.inl rfl, fun _ => h2.mono x⟩
theorem Walks.str (z : Str) : Walks K (Its z) (z.cps.toList.map fun c => .str ⟨#[c]⟩) wh H := fun wh1 H1 x => by
  refine ⟨fun i d hd => ?_, fun i hi => (by have q := hi; simp at q; exact q)⟩
  rw [List.getElem?_map] at hd
  obtain ⟨c, h1, h2⟩ := Option.map_eq_some_iff.mp hd
  have hi : i < z.cps.toList.length := (List.getElem?_eq_some_iff.mp h1).1
  refine ⟨by have q := hi; (try simp at q); exact q, fun y H2 hy => ?_⟩
  obtain ⟨rfl, c', h3, rfl⟩ := hy
  rw [← Array.getElem?_toList, h1] at h3
  cases h3
  subst h2
  exact ⟨.inl rfl, fun _ => .str _⟩
theorem Walks.rng (lo : Int) (n : Nat) : Walks K (Itr lo n) ((List.range n).map fun (k : Nat) => .int (lo + (k : Int))) wh H := fun wh1 H1 x => by
  refine ⟨fun i d hd => ?_, fun i hi => (by have q := hi; simp at q; exact q)⟩
  rw [List.getElem?_map] at hd
  obtain ⟨c, h1, h2⟩ := Option.map_eq_some_iff.mp hd
  obtain ⟨hi, h3⟩ := List.getElem?_eq_some_iff.mp h1
  rw [List.getElem_range] at h3
  subst h3
  subst h2
  refine ⟨by have q := hi; (try simp at q); exact q, fun y H2 hy => ?_⟩
  obtain ⟨rfl, rfl⟩ := hy
  exact ⟨.inl rfl, fun _ => .int _⟩
theorem Walks.rngC (lo c : Int) (n : Nat) : Walks K (Itc lo c n) ((List.range n).map fun (k : Nat) => .int (lo + (k : Int) * c)) wh H := fun wh1 H1 x => by
  refine ⟨fun i d hd => ?_, fun i hi => (by have q := hi; simp at q; exact q)⟩
  rw [List.getElem?_map] at hd
  obtain ⟨c, h1, h2⟩ := Option.map_eq_some_iff.mp hd
  obtain ⟨hi, h3⟩ := List.getElem?_eq_some_iff.mp h1
  rw [List.getElem_range] at h3
  subst h3
  subst h2
  refine ⟨by have q := hi; (try simp at q); exact q, fun y H2 hy => ?_⟩
  obtain ⟨rfl, rfl⟩ := hy
  exact ⟨.inl rfl, fun _ => .int _⟩
theorem enumD_get : ∀ {ds : List D} {k i : Nat} {e : D}, (enumD k ds)[i]? = some e → ∃ d, ds[i]? = some d ∧ e = .tup [.int ((k + i : Nat) : Int), d]
  | [], _, _, _, h => by simp [enumD] at h
  | d :: ds, k, 0, e, h => by simp [enumD] at h; exact ⟨d, rfl, by rw [← h]; rfl⟩
  | d :: ds, k, i + 1, e, h => by
    obtain ⟨d', h1, h2⟩ := enumD_get (ds := ds) (k := k + 1) (i := i) (e := e) (by simpa [enumD] using h)
    exact ⟨d', by simpa using h1, by rw [h2, Nat.add_right_comm, Nat.add_assoc]⟩
theorem enumD_len : ∀ (k : Nat) (ds : List D), (enumD k ds).length = ds.length
  | _, [] => rfl
  | k, _ :: ds => congrArg Nat.succ (enumD_len (k + 1) ds)
/-- a new tuple, as it is laid -/
theorem Rep.newTup {T : Addr} {xs : List V} {ds : List D} {wh1 : Who} {H1 : Hp} (s : ∀ a, H1 a = none → wh1 a = .no) (n : H1 T = none) (hr : RepL K wh1 H1 ds xs) : Rep K wh1 (upd H1 T (.tup xs)) (.tup ds) (.ref T) :=
  .tup (.of upd_same) (hr.mono (.new s n))
theorem Walks.enumL {a : Addr} {ds : List D} {vs : List V} (hs : ∀ wh1 H1, Ext wh H wh1 H1 → SqL K H1 a vs) (hr : RepL K wh H ds vs) : Walks K (Ite K a) (enumD 0 ds) wh H := fun wh1 H1 x => by
  refine ⟨fun i e he => ?_, fun i hi => ⟨vs, hs _ _ x, by rw [← hr.length, ← enumD_len 0]; exact hi⟩⟩
  obtain ⟨d, hd, rfl⟩ := enumD_get he
  obtain ⟨v, h1, h2⟩ := hr.get hd
  refine ⟨⟨vs, v, hs _ _ x, h1⟩, fun y H2 hy => ?_⟩
  obtain ⟨T, w, rfl, n, rfl, hy⟩ := hy
  have e := hy vs (hs _ _ x)
  rw [h1] at e
  cases e
  refine ⟨.inr ⟨T, _, n, rfl⟩, fun s => .newTup s n (.cons ?_ (.cons (h2.mono x) .nil))⟩
  rw [Nat.zero_add]
  exact .int _
theorem zipL_get : ∀ {ds es : List D} {i : Nat} {e : D}, (zipL ds es)[i]? = some e → ∃ d d', ds[i]? = some d ∧ es[i]? = some d' ∧ e = .tup [d, d']
  | [], _, _, _, h => by simp [zipL] at h
  | _ :: _, [], _, _, h => by simp [zipL] at h
  | d :: ds, d' :: es, 0, e, h => by simp [zipL] at h; exact ⟨d, d', rfl, rfl, h.symm⟩
  | d :: ds, d' :: es, i + 1, e, h => by
    obtain ⟨d1, d2, h1, h2, h3⟩ := zipL_get (ds := ds) (es := es) (i := i) (e := e) (by simpa [zipL] using h)
    exact ⟨d1, d2, by simpa using h1, by simpa using h2, h3⟩
theorem zipL_len : ∀ (ds es : List D), (zipL ds es).length = min ds.length es.length
  | [], _ => by simp [zipL]
  | _ :: _, [] => by simp [zipL]
  | _ :: ds, _ :: es => by
    show (zipL ds es).length + 1 = min (ds.length + 1) (es.length + 1)
    rw [zipL_len ds es]
    omega
theorem Walks.zipL {a b : Addr} {ds es : List D} {vs us : List V} (hs : ∀ wh1 H1, Ext wh H wh1 H1 → SqL K H1 a vs) (ht : ∀ wh1 H1, Ext wh H wh1 H1 → SqL K H1 b us) (hr : RepL K wh H ds vs) (hq : RepL K wh H es us) : Walks K (Itz K a b) (Z.zipL ds es) wh H := fun wh1 H1 x => by
  refine ⟨fun i e he => ?_, fun i hi => ⟨vs, us, hs _ _ x, ht _ _ x, by rw [← hr.length, ← hq.length]; rw [zipL_len] at hi; omega⟩⟩
  obtain ⟨d, d', hd, hd', rfl⟩ := zipL_get he
  obtain ⟨v, h1, h2⟩ := hr.get hd
  obtain ⟨u, g1, g2⟩ := hq.get hd'
  refine ⟨⟨vs, us, v, u, hs _ _ x, ht _ _ x, h1, g1⟩, fun y H2 hy => ?_⟩
  obtain ⟨T, w, w', rfl, n, rfl, hy, hy'⟩ := hy
  have e := hy vs (hs _ _ x)
  rw [h1] at e
  cases e
  have e := hy' us (ht _ _ x)
  rw [g1] at e
  cases e
  exact ⟨.inr ⟨T, _, n, rfl⟩, fun s => .newTup s n (.cons (h2.mono x) (.cons (g2.mono x) .nil))⟩
theorem Walks.zipT {a b : Addr} {ds es : List D} {vs us : List V} (hs : SqT K H a vs) (ht : SqT K H b us) (hr : RepL K wh H ds vs) (hq : RepL K wh H es us) : Walks K (RZ.ItzT K a b) (Z.zipL ds es) wh H := fun wh1 H1 x => by
  refine ⟨fun i e he => ?_, fun i hi => ⟨vs, us, x.sqT hs, x.sqT ht, by rw [← hr.length, ← hq.length]; rw [zipL_len] at hi; omega⟩⟩
  obtain ⟨d, d', hd, hd', rfl⟩ := zipL_get he
  obtain ⟨v, h1, h2⟩ := hr.get hd
  obtain ⟨u, g1, g2⟩ := hq.get hd'
  refine ⟨⟨vs, us, v, u, x.sqT hs, x.sqT ht, h1, g1⟩, fun y H2 hy => ?_⟩
  obtain ⟨T, w, w', rfl, n, rfl, hy, hy'⟩ := hy
  have e := hy vs (x.sqT hs)
  rw [h1] at e
  cases e
  have e := hy' us (x.sqT ht)
  rw [g1] at e
  cases e
  exact ⟨.inr ⟨T, _, n, rfl⟩, fun s => .newTup s n (.cons (h2.mono x) (.cons (g2.mono x) .nil))⟩
/-- a list that is a share stays as it is -/
theorem Rep.lstS {ds : List D} {v : V} (h : Rep K wh H (.lst ds) v) : ∃ a vs, v = .ref a ∧ RepL K wh H ds vs ∧ ∀ wh1 H1, Ext wh H wh1 H1 → SqL K H1 a vs := by
  cases h with
  | @lst a vs _ s h r => exact ⟨a, vs, rfl, r, fun wh1 H1 x => .of (x.keep a _ h (by rw [s]; rfl))⟩
theorem Rep.fzS {ds : List D} {v : V} (h : Rep K wh H (.fz ds) v) : ∃ a vs, v = .ref a ∧ RepL K wh H ds vs ∧ ∀ wh1 H1, Ext wh H wh1 H1 → SqL K H1 a vs := by
  cases h with
  | @fz a vs _ s r => exact ⟨a, vs, rfl, r, fun wh1 H1 x => s.elim (fun ⟨s, h⟩ => .inl (x.rdF s h)) .inr⟩
end
/-! ### iterables -/
section
variable {X : Cx} {W : WX} {tg a b c : Expr} {ma mb mc : Fm → Rs Rv}
theorem _root_.L2.PI.imp {t t' : TI} (h : PI X tg a t) (i : ∀ σ H R, t' σ H R → t σ H R) : PI X tg a t' := ⟨fun pins s σ H R I q => h.run pins s σ H R I (i σ H R q)⟩
theorem _root_.L2.PI.or {t t' : TI} (h : PI X tg a t) (h' : PI X tg a t') : PI X tg a (fun σ H R => t σ H R ∨ t' σ H R) := ⟨fun pins s σ H R I q => q.elim (h.run pins s σ H R I) (h'.run pins s σ H R I)⟩
def seqI (m : Fm → Rs Rv) : Fm → Rs (List D) := fun F => (m F).bind fun rv F1 => (share rv F1).bind fun d F2 => ofO (itemsD d) fun ds => .ok ds F2
theorem pi_seqD (ha : PE X a (tX (cn X W) ma)) : PI X tg a (tI (cn X W) (seqI ma)) := by
  refine ((pi_list (pe_shD ha)).or ((pi_tup (pe_shD ha)).or (pi_str (pe_shD ha)))).imp fun σ H R h => ?_
  obtain ⟨wh, F, rl, h⟩ := h
  have h : okW (cn X W) wh H σ ((ma F).bind fun rv F1 => (share rv F1).bind fun d F2 => ofO (itemsD d) fun ds => .ok ds F2) _ := h
  have key := shM_bind ma (fun d F2 => ofO (itemsD d) fun ds => .ok ds F2) F
  cases q : shM ma F with
  | bad => rw [key, q] at h; exact h.elim
  | ex e F1 =>
    refine .inl ⟨wh, F, rl, ?_⟩
    rw [key, q] at h
    rw [q]
    exact h
  | ok rv F1 =>
    have seq : ∀ {P' : Rv → Who → Hp → Prop}, (∀ d F1 wh1 H1, rv = .sh d → Ext wh H wh1 H1 → Rl X.K wh1 H1 F1 σ → okW (cn X W) wh1 H1 σ (ofO (itemsD d) fun ds => .ok ds F1) (fun ds wh2 H2 => Ext wh H wh2 H2 → ∀ J, Walks X.K J ds wh2 H2 → R J H2) → P' (.sh d) wh1 H1) → okW (cn X W) wh H σ (shM ma F) P' := fun {P'} i => by
      rw [key] at h
      obtain ⟨h1, h2, h3⟩ := okW.bind h
      rw [q]
      intro wh1 H1 x1 rl1
      have h4 := h1 rv F1 q wh1 H1 x1
      cases rv with
      | sh d => exact i d F1 wh1 H1 rfl x1 rl1 h4
      | fr _ => exact h4.elim
      | ow _ => exact h4.elim
    cases rv with
    | fr _ => rw [key, q] at h; exact h.elim
    | ow _ => rw [key, q] at h; exact h.elim
    | sh d =>
      cases d with
      | non => rw [key, q] at h; exact h.elim
      | bl _ => rw [key, q] at h; exact h.elim
      | int _ => rw [key, q] at h; exact h.elim
      | str z =>
        refine .inr (.inr ⟨wh, F, rl, seq fun d F1 wh1 H1 e x1 rl1 h1 v hv => ?_⟩)
        cases e
        exact ⟨z, hv.str, h1.ret rl1 x1 _ (.str z)⟩
      | tup ds =>
        refine .inr (.inl ⟨wh, F, rl, seq fun d F1 wh1 H1 e x1 rl1 h1 v hv => ?_⟩)
        cases e
        have hv : Rep X.K wh1 H1 (.tup ds) v := hv
        cases hv with
        | tup hs hr => exact ⟨_, rfl, ⟨_, hs⟩, h1.ret rl1 x1 _ (.tup hs hr)⟩
      | lst ds =>
        refine .inl ⟨wh, F, rl, seq fun d F1 wh1 H1 e x1 rl1 h1 v hv => ?_⟩
        cases e
        obtain ⟨b, vs, rfl, hr, hs⟩ := Rep.lstS hv
        exact ⟨b, rfl, ⟨_, hs _ _ rl1.refl⟩, h1.ret rl1 x1 _ (.list hs hr)⟩
      | fz ds =>
        refine .inl ⟨wh, F, rl, seq fun d F1 wh1 H1 e x1 rl1 h1 v hv => ?_⟩
        cases e
        obtain ⟨b, vs, rfl, hr, hs⟩ := Rep.fzS hv
        exact ⟨b, rfl, ⟨_, hs _ _ rl1.refl⟩, h1.ret rl1 x1 _ (.list hs hr)⟩
theorem small_ok {i : Int} (h : small i = true) : -(2 ^ 62) ≤ i ∧ i < 2 ^ 62 := by
  rw [small_eq] at h
  exact of_decide_eq_true h
variable {p pos : Pos}
theorem pi_rng1D (hg : Gl X "range") (hm : X.mg "range" = none) (ha : PE X a (tX (cn X W) ma)) (hs : starEach [a] X.env = [(false, eval a X.env)]) :
    PI X tg (.Call (.Name "range" p) [a] [] pos) (tI (cn X W) fun F => (ma F).bind fun r1 F1 => ofO (rng1 [r1]) fun ds => .ok ds F1) := by
  refine (pi_range1 hg hm (pa_cons ha pa_nil (by rw [hs]; rfl)) hs).imp fun σ H R h => ?_
  obtain ⟨wh, F, rl, h⟩ := h
  refine ⟨wh, F, rl, okW.seq h fun r1 F1 wh1 H1 x1 rl1 h1 v1 hv1 => ?_⟩
  obtain ⟨ds, e, h1⟩ := okW.ofO h1
  unfold rng1 at e
  split at e
  · rename_i j e0
    cases e0
    split at e
    · rename_i hj
      cases e
      obtain ⟨h3, h4⟩ := small_ok hj
      refine ⟨j, by rw [hv1.int], h3, h4, h1.ret rl1 x1 _ ?_⟩
      have w := Walks.rng (K := X.K) (wh := wh1) (H := H1) 0 j.toNat
      simp only [Int.zero_add] at w
      exact w
    · cases e
  · cases e
theorem pi_rng2D (hg : Gl X "range") (hm : X.mg "range" = none) (ha : PE X a (tX (cn X W) ma)) (hb : PE X b (tX (cn X W) mb)) (hs : starEach [a, b] X.env = [(false, eval a X.env), (false, eval b X.env)]) (hs2 : starEach [b] X.env = [(false, eval b X.env)]) :
    PI X tg (.Call (.Name "range" p) [a, b] [] pos) (tI (cn X W) fun F => (ma F).bind fun r1 F1 => (mb F1).bind fun r2 F2 => ofO (rng2 [r1, r2]) fun ds => .ok ds F2) := by
  refine (pi_range2 hg hm (pa_cons ha (pa_cons hb pa_nil (by rw [hs2]; rfl)) (by rw [hs, hs2])) hs hs2).imp fun σ H R h => ?_
  obtain ⟨wh, F, rl, h⟩ := h
  refine ⟨wh, F, rl, okW.seq h fun r1 F1 wh1 H1 x1 rl1 h1 v1 hv1 => ?_⟩
  refine ⟨wh1, F1, rl1, okW.seq h1 fun r2 F2 wh2 H2 x2 rl2 h2 v2 hv2 => ?_⟩
  obtain ⟨ds, e, h2⟩ := okW.ofO h2
  unfold rng2 at e
  split at e
  · rename_i i j e0
    cases e0
    split at e
    · rename_i hj
      cases e
      obtain ⟨g1, g2⟩ := Bool.and_eq_true_iff.mp hj
      obtain ⟨h3, h4⟩ := small_ok g1
      obtain ⟨h5, h6⟩ := small_ok g2
      exact ⟨i, j, by rw [hv1.int, hv2.int], ⟨h3, h4, h5, h6⟩, h2.ret rl2 x2 (x1.trans x2) _ (Walks.rng i (j - i).toNat)⟩
    · cases e
  · cases e
theorem pi_rng3D (hg : Gl X "range") (hm : X.mg "range" = none) (ha : PE X a (tX (cn X W) ma)) (hb : PE X b (tX (cn X W) mb)) (hc : PE X c (tX (cn X W) mc))
    (hs : starEach [a, b, c] X.env = (false, eval a X.env) :: starEach [b, c] X.env) (hs2 : starEach [b, c] X.env = (false, eval b X.env) :: starEach [c] X.env) (hs3 : starEach [c] X.env = (false, eval c X.env) :: starEach [] X.env) :
    PI X tg (.Call (.Name "range" p) [a, b, c] [] pos) (tI (cn X W) fun F => (ma F).bind fun r1 F1 => (mb F1).bind fun r2 F2 => (mc F2).bind fun r3 F3 => ofO (rng3 [r1, r2, r3]) fun ds => .ok ds F3) := by
  refine (pi_range3 hg hm (pa_cons ha (pa_cons hb (pa_cons hc pa_nil hs3) hs2) hs) hs (by rw [hs2, hs3]; rfl)).imp fun σ H R h => ?_
  obtain ⟨wh, F, rl, h⟩ := h
  refine ⟨wh, F, rl, okW.seq h fun r1 F1 wh1 H1 x1 rl1 h1 v1 hv1 => ?_⟩
  refine ⟨wh1, F1, rl1, okW.seq h1 fun r2 F2 wh2 H2 x2 rl2 h2 v2 hv2 => ?_⟩
  refine ⟨wh2, F2, rl2, okW.seq h2 fun r3 F3 wh3 H3 x3 rl3 h3 v3 hv3 => ?_⟩
  obtain ⟨ds, e, h3⟩ := okW.ofO h3
  unfold rng3 at e
  split at e
  · rename_i i j k e0
    cases e0
    split at e
    · rename_i hj
      cases e
      rw [rngOk_eq] at hj
      obtain ⟨g1, g2⟩ := Bool.and_eq_true_iff.mp hj
      obtain ⟨g3, g4⟩ := of_decide_eq_true g1
      exact ⟨i, j, k, (Builtin.Range.rangeSize i j k).toNat, by rw [hv1.int, hv2.int, hv3.int], ⟨g3, g4, g2, PyProof.Rows.rangeSize_toNat i j k⟩, h3.ret rl3 x3 (x2.trans x3) (x1.trans (x2.trans x3)) _ (Walks.rngC i k _)⟩
    · cases e
  · cases e
theorem _root_.Z.okW.seqS' {C : Cn} {wh : Who} {H : Hp} {σ : L2.St} {F : Fm} {m : Fm → Rs Rv} {β : Type} {k : D → Fm → Rs β} {P : β → Who → Hp → Prop} (h : okW C wh H σ ((m F).bind fun rv F1 => (share rv F1).bind k) P) {rv : Rv} {F1 : Fm} (q : shM m F = .ok rv F1) :
    ∃ d, rv = .sh d ∧ okW C wh H σ (k d F1) P := by
  rw [shM_bind, q] at h
  cases rv with
  | sh d => exact ⟨d, rfl, h⟩
  | fr _ => exact h.elim
  | ow _ => exact h.elim
variable {elts : List Expr} {kk : Nat} {tpos : Pos}
theorem pi_enumD (hg : Gl X "enumerate") (hm : X.mg "enumerate" = none) (ha : PE X a (tX (cn X W) ma)) (hs : starEach [a] X.env = [(false, eval a X.env)]) :
    PI X (.Tuple elts kk tpos) (.Call (.Name "enumerate" p) [a] [] pos) (tI (cn X W) fun F => (ma F).bind fun rv F1 => (share rv F1).bind fun d F2 => ofO (seqD d) fun ds => .ok (enumD 0 ds) F2) := by
  refine (pi_enum hg hm (pa_cons (pe_shD ha) pa_nil (by rw [hs]; rfl)) hs).imp fun σ H R h => ?_
  obtain ⟨wh, F, rl, h⟩ := h
  refine ⟨wh, F, rl, okW.seqS (ma := ma) h fun d F1 wh1 H1 x1 rl1 h1 v1 hv1 => ?_⟩
  obtain ⟨ds, e, h1⟩ := okW.ofO h1
  cases d with
  | lst ys =>
    cases e
    obtain ⟨b, vs, rfl, hr, hs⟩ := Rep.lstS hv1
    exact ⟨b, vs, rfl, hs _ _ rl1.refl, h1.ret rl1 x1 _ (.enumL hs hr)⟩
  | _ => cases e
theorem pi_zipD (hg : Gl X "zip") (hm : X.mg "zip" = none) (ha : PE X a (tX (cn X W) ma)) (hb : PE X b (tX (cn X W) mb)) (hs : starEach [a, b] X.env = (false, eval a X.env) :: starEach [b] X.env) (hs2 : starEach [b] X.env = (false, eval b X.env) :: starEach [] X.env) :
    PI X (.Tuple elts kk tpos) (.Call (.Name "zip" p) [a, b] [] pos) (tI (cn X W) fun F => (ma F).bind fun rv F1 => (share rv F1).bind fun d F2 => (mb F2).bind fun rw F3 => (share rw F3).bind fun e F4 => ofO (zipD d e) fun ds => .ok ds F4) := by
  refine (RZ.pi_zipA hg hm (pa_cons (pe_shD ha) (pa_cons (pe_shD hb) pa_nil hs2) hs) hs (by rw [hs2]; rfl)).imp fun σ H R h => ?_
  obtain ⟨wh, F, rl, h⟩ := h
  refine ⟨wh, F, rl, okW.seqS (ma := ma) h fun d F1 wh1 H1 x1 rl1 h1 v1 hv1 => ?_⟩
  refine ⟨wh1, F1, rl1, okW.seqS (ma := mb) h1 fun e F2 wh2 H2 x2 rl2 h2 v2 hv2 => ?_⟩
  obtain ⟨ds, e0, h2⟩ := okW.ofO h2
  have hv1' : Rep X.K wh2 H2 d v1 := Rep.mono x2 hv1
  have hv2 : Rep X.K wh2 H2 e v2 := hv2
  unfold zipD at e0
  split at e0
  · cases e0
    cases hv1' with
    | tup s1 r1 =>
      cases hv2 with
      | tup s2 r2 => exact ⟨_, _, _, _, rfl, .inr ⟨s1, s2, h2.ret rl2 x2 (x1.trans x2) _ (.zipT s1 s2 r1 r2)⟩⟩
  · cases e0
    obtain ⟨b1, vs, rfl, r1, s1⟩ := Rep.lstS hv1'
    obtain ⟨b2, us, rfl, r2, s2⟩ := Rep.lstS hv2
    exact ⟨_, _, _, _, rfl, .inl ⟨s1 _ _ rl2.refl, s2 _ _ rl2.refl, h2.ret rl2 x2 (x1.trans x2) _ (.zipL s1 s2 r1 r2)⟩⟩
  · cases e0
end
end Z

end
section
set_option Elab.async false
set_option linter.all false
set_option maxRecDepth 100000
namespace Z
open PySem PySem.Spec PyProof.Rows L2
/-! ### slots taken by names -/
def Out (is : List Nat) (σ σ' : L2.St) : Prop := σ'.length = σ.length ∧ ∀ i, i ∉ is → σ'[i]? = σ[i]?
theorem Out.refl (is : List Nat) (σ : L2.St) : Out is σ σ := ⟨rfl, fun _ _ => rfl⟩
theorem Out.trans {is : List Nat} {σ σ1 σ2 : L2.St} (a : Out is σ σ1) (b : Out is σ1 σ2) : Out is σ σ2 := ⟨b.1.trans a.1, fun i h => (b.2 i h).trans (a.2 i h)⟩
theorem Out.set {is : List Nat} {σ : L2.St} {i : Nat} {x : Option V} (h : i ∈ is) : Out is σ (σ.set i x) := ⟨List.length_set, fun j hj => List.getElem?_set_ne (fun e => hj (by rw [← e]; exact h))⟩
theorem Out.sub {is js : List Nat} {σ σ' : L2.St} (h : Out is σ σ') (s : ∀ i ∈ is, i ∈ js) : Out js σ σ' := ⟨h.1, fun i hi => h.2 i fun z => hi (s i z)⟩
theorem wipe_at : ∀ (σ : L2.St) (is : List Nat) (i : Nat), (wipe σ is)[i]? = if i ∈ is ∧ i < σ.length then some none else σ[i]?
  | σ, [], i => by simp [wipe]
  | σ, j :: is, i => by
    unfold wipe
    by_cases e : i = j
    · subst e
      by_cases hl : i < σ.length
      · rw [List.getElem?_set_self (by rw [wipe_length]; exact hl), if_pos ⟨List.mem_cons_self, hl⟩]
      · rw [if_neg fun z => hl z.2, List.getElem?_eq_none (by rw [List.length_set, wipe_length]; omega), List.getElem?_eq_none (by omega)]
    · rw [List.getElem?_set_ne (Ne.symm e), wipe_at σ is i]
      have : (i ∈ j :: is ∧ i < σ.length) ↔ (i ∈ is ∧ i < σ.length) := by simp [e]
      simp only [this]
theorem wipe_out' {is : List Nat} {σ σ' : L2.St} (h : Out is σ σ') : wipe σ' is = wipe σ is := by
  apply List.ext_getElem?
  intro i
  rw [wipe_at, wipe_at, h.1]
  by_cases hi : i ∈ is
  · by_cases hl : i < σ.length
    · rw [if_pos ⟨hi, hl⟩, if_pos ⟨hi, hl⟩]
    · rw [if_neg fun z => hl z.2, if_neg fun z => hl z.2, List.getElem?_eq_none (by rw [h.1]; omega), List.getElem?_eq_none (by omega)]
  · rw [if_neg fun z => hi z.1, if_neg fun z => hi z.1, h.2 i hi]
theorem out_wipe (is : List Nat) (σ : L2.St) : Out is σ (wipe σ is) := ⟨wipe_length σ is, fun i hi => by rw [wipe_at, if_neg fun z => hi z.1]⟩
section
variable {K : PySem.W.Frag} {wh : Who} {H : Hp} {F : Fm} {σ : L2.St}
theorem notIo_ok {i : Nat} (h : notIo F i = true) : i < F.length ∧ ∀ xs, F[i]? ≠ some (.io xs) := by
  unfold notIo at h
  split at h
  · cases h
  · rename_i s hs e
    refine ⟨(List.getElem?_eq_some_iff.mp e).1, fun xs z => ?_⟩
    rw [e] at z
    cases z
    exact hs _ rfl
  · cases h
def gNames : List Nat → TGs
  | [] => gNil
  | i :: is => gCons (gName i) (gNames is)
def tgR (K : PySem.W.Frag) : Tgt → TG
  | .name i => gName i
  | .tup is => gTup K is.length (gNames is)
def Tgt.ix : Tgt → List Nat
  | .name i => [i]
  | .tup is => is
theorem setL_reads : ∀ {is : List Nat} {ds : List D} {vs : List V} {F F' : Fm} {wh : Who} {σ : L2.St} {Q : L2.St → Hp → Prop}, Rl K wh H F σ → RepL K wh H ds vs → setL is ds F = some F' →
    (∀ wh' σ', Ext wh H wh' H → Rl K wh' H F' σ' → Out is σ σ' → Q σ' H) → gNames is vs σ H Q
  | [], [], _, F, F', wh, σ, Q, r, .nil, e, k => by
    cases e
    exact ⟨rfl, k wh σ r.refl r (.refl _ _)⟩
  | i :: is, d :: ds, v :: vs, F, F', wh, σ, Q, r, .cons h hs, e, k => by
    unfold setL at e
    split at e
    · rename_i hn
      obtain ⟨h1, h2⟩ := notIo_ok hn
      obtain ⟨x1, r1⟩ := r.setS h1 h2 h
      exact ⟨v, vs, rfl, setL_reads r1 (hs.mono x1) e fun wh' σ' x2 r2 o => k wh' σ' (x1.trans x2) r2 ((Out.set List.mem_cons_self).trans (o.sub fun j hj => List.mem_cons_of_mem _ hj))⟩
    · cases e
  | [], _ :: _, _, _, _, _, _, _, _, _, e, _ => by cases e
  | _ :: _, [], _, _, _, _, _, _, _, _, e, _ => by cases e
theorem RepL.nil_inv {vs : List V} (h : RepL K wh H [] vs) : vs = [] := by cases h; rfl
theorem RepL.cons_inv {d : D} {ds : List D} {vs : List V} (h : RepL K wh H (d :: ds) vs) : ∃ u us, vs = u :: us ∧ Rep K wh H d u ∧ RepL K wh H ds us := by cases h with | cons a b => exact ⟨_, _, rfl, a, b⟩
theorem setL_len : ∀ {is : List Nat} {ds : List D} {F F' : Fm}, setL is ds F = some F' → ds.length = is.length
  | [], [], _, _, _ => rfl
  | i :: is, d :: ds, F, F', e => by
    unfold setL at e
    split at e
    · exact congrArg Nat.succ (setL_len e)
    · cases e
  | [], _ :: _, _, _, e => by cases e
  | _ :: _, [], _, _, e => by cases e
theorem setT_reads {tg : Tgt} {d : D} {v : V} {F' : Fm} {Q : L2.St → Hp → Prop} (r : Rl K wh H F σ) (h : Rep K wh H d v) (e : setT tg d F = some F') (k : ∀ wh' σ', Ext wh H wh' H → Rl K wh' H F' σ' → Out tg.ix σ σ' → Q σ' H) : tgR K tg v σ H Q := by
  cases tg with
  | name i =>
    obtain ⟨u, r', e1, q⟩ := setL_reads (vs := [v]) r (.cons h .nil) e k
    cases e1
    exact q.2
  | tup is =>
    cases d with
    | tup ds =>
      have e : setL is ds F = some F' := e
      cases h with
      | @tup a vs _ s hr => exact ⟨a, vs, rfl, s, by rw [← hr.length]; exact setL_len e, setL_reads r hr e k⟩
    | _ => cases e
/-! ### slots forgotten -/
theorem Rl.killL (r : Rl K wh H F σ) : ∀ (is : List Nat), (∀ i ∈ is, ∀ xs, F[i]? ≠ some (.io xs)) → ∃ wh', Ext wh H wh' H ∧ Rl K wh' H (killL F is) (wipe σ is)
  | [], _ => ⟨wh, r.refl, r⟩
  | i :: is, hn => by
    obtain ⟨wh1, x1, r1⟩ := Rl.killL r is fun j hj => hn j (List.mem_cons_of_mem _ hj)
    have hk : ∀ (is : List Nat) (F : Fm) (j : Nat) (xs : List D), (Z.killL F is)[j]? = some (.io xs) → F[j]? = some (.io xs) := by
      intro is
      induction is with
      | nil => intro F j xs h; exact h
      | cons k ks ih =>
        intro F j xs h
        unfold Z.killL at h
        by_cases e : j = k
        · subst e
          by_cases hl : j < (Z.killL F ks).length
          · rw [set_get hl] at h; cases h
          · rw [List.getElem?_eq_none (by rw [List.length_set]; omega)] at h; cases h
        · rw [List.getElem?_set_ne (Ne.symm e)] at h
          exact ih F j xs h
    obtain ⟨x2, r2⟩ := r1.kill i (fun xs z => hn i List.mem_cons_self xs (hk _ _ _ _ z)) (σ' := (wipe σ is).set i none) List.length_set fun j e => List.getElem?_set_ne (Ne.symm e)
    exact ⟨_, x1.trans x2, r2⟩
/-- an io slot was one ahead -/
theorem Rl.io_back {wh0 : Who} {H0 : Hp} {F0 : Fm} {σ0 : L2.St} (r0 : Rl K wh0 H0 F0 σ0) (r : Rl K wh H F σ) (x : Ext wh0 H0 wh H) {i : Nat} {xs : List D} (h : F[i]? = some (.io xs)) : ∃ ys, F0[i]? = some (.io ys) ∧ σ0[i]? = σ[i]? := by
  obtain ⟨a, vs, h1, h2, _⟩ := r.rs i _ h
  obtain ⟨ys, g1, g2⟩ := r0.ownI a i (x.io a i h2)
  exact ⟨ys, g1, g2.trans h1.symm⟩
/-- plain slots are put back -/
theorem restore_at (F0 : Fm) : ∀ (is : List Nat) (F : Fm) (i : Nat), (restore F0 F is)[i]? = if i ∈ is ∧ i < F.length then some (F0[i]?.getD .un) else F[i]?
  | [], F, i => by simp [restore]
  | j :: is, F, i => by
    unfold restore
    have hl : (restore F0 F is).length = F.length := by
      clear i
      induction is with
      | nil => rfl
      | cons k ks ih => unfold restore; rw [List.length_set]; exact ih
    by_cases e : i = j
    · subst e
      by_cases hi : i < F.length
      · rw [set_get (by rw [hl]; exact hi), if_pos ⟨List.mem_cons_self, hi⟩]
      · rw [if_neg fun z => hi z.2, List.getElem?_eq_none (by rw [List.length_set, hl]; omega), List.getElem?_eq_none (by omega)]
    · rw [List.getElem?_set_ne (Ne.symm e), restore_at F0 is F i]
      have : (i ∈ j :: is ∧ i < F.length) ↔ (i ∈ is ∧ i < F.length) := by simp [e]
      simp only [this]
theorem restore_len (F0 : Fm) : ∀ (is : List Nat) (F : Fm), (restore F0 F is).length = F.length
  | [], _ => rfl
  | i :: is, F => by unfold restore; rw [List.length_set, restore_len F0 is F]
theorem Rl.restore {wh0 : Who} {H0 : Hp} {F0 : Fm} {own : List Nat} (r0 : Rl K wh0 H0 F0 σ) (hp : own.all (plainSlot F0) = true) (x : Ext wh0 H0 wh H) (r : Rl K wh H F (wipe σ own)) (hF : ∀ i ∈ own, ∀ xs, F[i]? ≠ some (.ow xs) ∧ F[i]? ≠ some (.io xs)) : Rl K wh H (restore F0 F own) σ := by
  have hl : σ.length = F.length := by rw [← r.len, wipe_length]
  refine ⟨by rw [restore_len]; exact hl, fun i s hs => ?_, fun a i q => ?_, fun a i q => ?_, r.dom⟩
  · rw [restore_at] at hs
    split at hs
    · rename_i hi
      have hpi := (List.all_eq_true.mp hp) i hi.1
      unfold plainSlot at hpi
      cases q : F0[i]? with
      | none => rw [q] at hpi; cases hpi
      | some t =>
        rw [q] at hs hpi
        cases hs
        cases t with
        | un => trivial
        | sh d =>
          obtain ⟨v, h1, h2⟩ := r0.rs i _ q
          exact ⟨v, h1, h2.mono x⟩
        | ow _ => cases hpi
        | io _ => cases hpi
    · rename_i hi
      refine RS.slots ?_ (r.rs i s hs)
      rw [wipe_at]
      by_cases h1 : i ∈ own
      · have h2 : ¬ i < F.length := fun z => hi ⟨h1, z⟩
        rw [if_neg (fun z => h2 (by rw [← hl]; exact z.2))]
      · rw [if_neg fun z => h1 z.1]
  · obtain ⟨xs, g1, g2⟩ := r.own a i q
    have h1 : i ∉ own := fun z => (hF i z xs).1 g1
    refine ⟨xs, ?_, ?_⟩
    · rw [restore_at, if_neg fun z => h1 z.1]; exact g1
    · rw [wipe_at, if_neg fun z => h1 z.1] at g2; exact g2
  · obtain ⟨xs, g1, g2⟩ := r.ownI a i q
    have h1 : i ∉ own := fun z => (hF i z xs).2 g1
    refine ⟨xs, ?_, ?_⟩
    · rw [restore_at, if_neg fun z => h1 z.1]; exact g1
    · rw [wipe_at, if_neg fun z => h1 z.1] at g2; exact g2
/-! ### a list that nobody owns grows -/
mutual
theorem Rep.updT {a : Addr} {vs us : List V} (h : wh a = .no) (ha : H a = some (.lst vs)) : ∀ {d : D} {v : V}, Rep K wh H d v → Rep K wh (upd H a (.lst us)) d v
  | _, _, .non => .non
  | _, _, .bl b => .bl b
  | _, _, .int i => .int i
  | _, _, .str x => .str x
  | _, _, .tup q r => .tup (q.elim (fun q => .inl (q.elim (fun q => .inl (by rw [upd_ne (fun z => by subst z; rw [ha] at q; cases q)]; exact q)) fun ⟨o, q⟩ => .inr ⟨o, by rw [upd_ne (fun z => by subst z; rw [ha] at q; cases q)]; exact q⟩)) .inr) (RepL.updT h ha r)
  | _, _, .lst s q r => .lst s (by rw [upd_ne (fun z => by subst z; rw [h] at s; cases s)]; exact q) (RepL.updT h ha r)
  | _, _, .fz q r => .fz (q.elim (fun ⟨s, q⟩ => .inl ⟨s, q.elim (fun q => .inl (by rw [upd_ne (fun z => by subst z; rw [h] at s; cases s)]; exact q)) fun ⟨o, q⟩ => .inr ⟨o, by rw [upd_ne (fun z => by subst z; rw [h] at s; cases s)]; exact q⟩⟩) .inr) (RepL.updT h ha r)
theorem RepL.updT {a : Addr} {vs us : List V} (h : wh a = .no) (ha : H a = some (.lst vs)) : ∀ {ds : List D} {xs : List V}, RepL K wh H ds xs → RepL K wh (upd H a (.lst us)) ds xs
  | _, _, .nil => .nil
  | _, _, .cons q r => .cons (Rep.updT h ha q) (RepL.updT h ha r)
end
theorem Rl.updT (r : Rl K wh H F σ) {a : Addr} {vs us : List V} (h : wh a = .no) (ha : H a = some (.lst vs)) : Rl K wh (upd H a (.lst us)) F σ := by
  refine ⟨r.len, fun i s hs => ?_, r.own, r.ownI, fun b hb => ?_⟩
  · have q := r.rs i s hs
    cases s with
    | un => trivial
    | sh d => obtain ⟨v, h1, h2⟩ := q; exact ⟨v, h1, h2.updT h ha⟩
    | ow xs => obtain ⟨b, ws, h1, h2, h3, h4⟩ := q; exact ⟨b, ws, h1, h2, by rw [upd_ne (fun z => by subst z; rw [h] at h2; cases h2)]; exact h3, h4.updT h ha⟩
    | io xs => obtain ⟨b, ws, h1, h2, h3, h4⟩ := q; exact ⟨b, ws, h1, h2, by rw [upd_ne (fun z => by subst z; rw [h] at h2; cases h2)]; exact h3, h4.updT h ha⟩
  · rw [upd_ne (fun z => by subst z; exact hb h)]
    exact r.dom b hb
/-- what is new may change -/
theorem Ext.updT {wh0 : Who} {H0 : Hp} (x : Ext wh0 H0 wh H) {a : Addr} {o : HO} (h : H0 a = none) : Ext wh0 H0 wh (upd H a o) :=
  ⟨fun b u e n => by rw [upd_ne (ne_of_none e h)]; exact x.keep b u e n, fun b u e n => by rw [upd_ne (ne_of_none e h)]; exact x.keepI b u e n, x.shr, x.tmp, fun b n => by
    by_cases z : b = a
    · subst z; rw [upd_same]; exact fun z => (nomatch z)
    · rw [upd_ne z]; exact x.dom b n, x.src, x.io⟩
end
theorem okW.noX {C : Cn} {W' : WX} {α : Type} {wh : Who} {H : Hp} {σ : L2.St} {r : Rs α} {P : α → Who → Hp → Prop} (h : okW C wh H σ (Z.noX r) P) : okW ⟨C.K, C.mg, W'⟩ wh H σ r P := by
  cases r with
  | ok a F => exact h
  | ex e F => exact h.elim
  | bad => exact h
end Z

end
section
set_option Elab.async false
set_option linter.all false
set_option maxRecDepth 100000
namespace Z
open PySem PySem.Spec PyProof.Rows L2
theorem okW.noXb {C : Cn} {α β : Type} {wh : Who} {H : Hp} {σ : L2.St} {r : Rs α} {k : α → Fm → Rs β} {P : β → Who → Hp → Prop} (h : okW C wh H σ ((Z.noX r).bind k) P) : ∃ a F, r = .ok a F ∧ okW C wh H σ (k a F) P := by
  cases r with
  | ok a F => exact ⟨a, F, rfl, h⟩
  | ex e F => exact h.elim
  | bad => exact h.elim
theorem killL_at : ∀ (is : List Nat) (F : Fm) (i : Nat), (killL F is)[i]? = if i ∈ is ∧ i < F.length then some .un else F[i]?
  | [], F, i => by simp [killL]
  | j :: is, F, i => by
    unfold killL
    have hl : (killL F is).length = F.length := by
      clear i
      induction is with
      | nil => rfl
      | cons k ks ih => unfold killL; rw [List.length_set]; exact ih
    by_cases e : i = j
    · subst e
      by_cases hi : i < F.length
      · rw [set_get (by rw [hl]; exact hi), if_pos ⟨List.mem_cons_self, hi⟩]
      · rw [if_neg fun z => hi z.2, List.getElem?_eq_none (by rw [List.length_set, hl]; omega), List.getElem?_eq_none (by omega)]
    · rw [List.getElem?_set_ne (Ne.symm e), killL_at is F i]
      have : (i ∈ j :: is ∧ i < F.length) ↔ (i ∈ is ∧ i < F.length) := by simp [e]
      simp only [this]
theorem killL_plain {is : List Nat} {F : Fm} {i : Nat} (h : i ∈ is) (xs : List D) : (killL F is)[i]? ≠ some (.ow xs) ∧ (killL F is)[i]? ≠ some (.io xs) := by
  rw [killL_at]
  by_cases hl : i < F.length
  · rw [if_pos ⟨h, hl⟩]
    exact ⟨fun z => (by cases z), fun z => (by cases z)⟩
  · rw [if_neg fun z => hl z.2, List.getElem?_eq_none (by omega)]
    exact ⟨fun z => (by cases z), fun z => (by cases z)⟩
abbrev W0 : WX := fun _ _ _ _ => False
noncomputable def lcM (own : List Nat) (tg : Tgt) (mi : Fm → Rs (List D)) (mt : Fm → Rs Bool) (me : Fm → Rs Rv) : Fm → Rs Rv := fun F => (mi F).bind fun ds F1 =>
  if own.all (plainSlot F1) then (lcLoop own tg mt me ds [] (killL F1 own)).bind fun acc F2 => .ok (.fr acc) (restore F1 F2 own) else .bad
theorem tX_lc {C : Cn} {own : List Nat} {tg : Tgt} {mi : Fm → Rs (List D)} {mt : Fm → Rs Bool} {me : Fm → Rs Rv} (hsub : ∀ i ∈ tg.ix, i ∈ own) {σ : L2.St} {H : Hp} {Q : VK} (h : tX C (lcM own tg mi mt me) σ H Q) :
    tLc (tI C mi) (tgR C.K tg) (tT ⟨C.K, C.mg, W0⟩ mt) (tX ⟨C.K, C.mg, W0⟩ (shM me)) own σ H Q := by
  obtain ⟨wh, F, rl, h⟩ := h
  refine ⟨wh, F, rl, okW.seq h fun ds F1 wh1 H1 x1 rl1 h1 J hJ Da hD => ?_⟩
  obtain ⟨hp, h1⟩ := okW.ite h1
  have noio : ∀ i ∈ own, ∀ xs, F1[i]? ≠ some (.io xs) := fun i hi xs z => by
    have q := (List.all_eq_true.mp hp) i hi
    unfold plainSlot at q
    rw [z] at q
    cases q
  obtain ⟨wh2, x2, rl2⟩ := rl1.killL own noio
  let I : Nat → Hp → Prop := fun i Hc => ∃ wh' F' acc vs, Ext wh1 H1 wh' Hc ∧ Rl C.K wh' Hc F' (wipe σ own) ∧ (∀ i ∈ own, ∀ xs, F'[i]? ≠ some (.ow xs) ∧ F'[i]? ≠ some (.io xs)) ∧ wh' Da = .no ∧ Hc Da = some (.lst vs) ∧ RepL C.K wh' Hc acc vs ∧
    okW C wh1 H1 σ ((lcLoop own tg mt me (ds.drop i) acc F').bind fun acc F2 => .ok (.fr acc) (restore F1 F2 own)) (fun rv wh2 H2 => Ext wh H wh2 H2 → ∀ v, RR C.K H wh2 H2 σ rv v → Q v H2)
  refine ⟨fun i m Hc => m = ds.length - i ∧ i ≤ ds.length ∧ I i Hc, ⟨ds.length, by simp, Nat.zero_le _, ?_⟩, ?_⟩
  · have hw : wh2 Da = .no := rl2.free hD
    exact ⟨wh2, _, [], [], x2.trans (rl2.ext_new hD), rl2.new hD, fun i hi xs => killL_plain hi xs, hw, upd_same, .nil, h1⟩
  · rintro i m Hc ⟨rfl, hi, wh', F', acc, vs, x, r, hpl, hw, ha, hr, k⟩
    obtain ⟨wk1, wk2⟩ := hJ wh' Hc x
    by_cases hlt : i < ds.length
    · obtain ⟨d, hd⟩ : ∃ d, ds[i]? = some d := ⟨ds[i], List.getElem?_eq_getElem hlt⟩
      obtain ⟨go, yl⟩ := wk1 i d hd
      have hdr : ds.drop i = d :: ds.drop (i + 1) := by
        rw [List.drop_eq_getElem_cons hlt]
        rw [List.getElem?_eq_getElem hlt] at hd
        cases hd
        rfl
      rw [hdr] at k
      have k : okW C wh1 H1 σ ((ofO (setT tg d F') fun F1 => (noX (mt F1)).bind fun b F2 => if b then (noX (shM me F2)).bind fun rv F4 => match rv with
        | .sh y => if line (acc.length + 1) then lcLoop own tg mt me (ds.drop (i + 1)) (acc ++ [y]) (killL F4 own) else .bad
        | _ => .bad
        else lcLoop own tg mt me (ds.drop (i + 1)) acc (killL F2 own)).bind _) _ := k
      cases e1 : setT tg d F' with
      | none => rw [e1] at k; exact k.elim
      | some F3 =>
      rw [e1] at k
      have k : okW C wh1 H1 σ (((noX (mt F3)).bind fun b F2 => if b then (noX (shM me F2)).bind fun rv F4 => match rv with
        | .sh y => if line (acc.length + 1) then lcLoop own tg mt me (ds.drop (i + 1)) (acc ++ [y]) (killL F4 own) else .bad
        | _ => .bad
        else lcLoop own tg mt me (ds.drop (i + 1)) acc (killL F2 own)).bind _) _ := k
      cases e2 : mt F3 with
      | bad => rw [e2] at k; exact k.elim
      | ex _ _ => rw [e2] at k; exact k.elim
      | ok b F4 =>
      rw [e2] at k
      refine .inr ⟨go, I (i + 1), fun H' q => ⟨ds.length - (i + 1), by omega, rfl, hlt, q⟩, fun y H2 hy => ?_⟩
      obtain ⟨hH, hrep⟩ := yl y H2 hy
      have hrep := hrep fun _ z => r.free z
      -- behind the item
      have st : Ext wh' Hc wh' H2 ∧ Rl C.K wh' H2 F' (wipe σ own) := by
        rcases hH with rfl | ⟨T, o, n, rfl⟩
        · exact ⟨r.refl, r⟩
        · exact ⟨r.ext_new n, r.new n⟩
      obtain ⟨xa, ra⟩ := st
      refine setT_reads ra hrep e1 fun wh3 σ2 x3 r3 out => ?_
      have hout : Out own (wipe σ own) σ2 := out.sub hsub
      have hwp : wipe σ2 own = wipe σ own := (wipe_out' hout).trans (wipe_out' (out_wipe own σ))
      refine ⟨hwp, wh3, F3, r3, ?_⟩
      rw [e2]
      intro wh4 H4 x4 r4
      have xb : Ext wh' Hc wh4 H4 := xa.trans (x3.trans x4)
      have hda : Hc Da ≠ none := by rw [ha]; exact fun z => (nomatch z)
      cases b with
      | false =>
        refine iteF ?_
        obtain ⟨wh5, x5, r5⟩ := r4.killL own fun j hj xs z => by
          obtain ⟨ys, g, _⟩ := rl1.io_back r4 (x.trans xb) z
          exact noio j hj ys g
        rw [hwp] at r5
        have xc := xb.trans x5
        exact ⟨wh5, _, acc, vs, x.trans xc, r5, fun j hj xs => killL_plain hj xs, xc.tmp _ hw hda, xc.keep _ _ ha (by rw [hw]; rfl), hr.mono xc, k⟩
      | true =>
        refine iteT ?_
        have k : okW C wh1 H1 σ (((noX (shM me F4)).bind fun rv F4 => match rv with
          | .sh y => if line (acc.length + 1) then lcLoop own tg mt me (ds.drop (i + 1)) (acc ++ [y]) (killL F4 own) else .bad
          | _ => .bad).bind _) _ := k
        cases e3 : shM me F4 with
        | bad => rw [e3] at k; exact k.elim
        | ex _ _ => rw [e3] at k; exact k.elim
        | ok rv F5 =>
        rw [e3] at k
        cases rv with
        | fr _ => exact k.elim
        | ow _ => exact k.elim
        | sh dy =>
        have k : okW C wh1 H1 σ ((if line (acc.length + 1) then lcLoop own tg mt me (ds.drop (i + 1)) (acc ++ [dy]) (killL F5 own) else .bad).bind _) _ := k
        cases e4 : line (acc.length + 1) with
        | false => rw [e4] at k; exact k.elim
        | true =>
        rw [e4] at k
        refine ⟨wh4, F4, r4, ?_⟩
        rw [e3]
        intro wh5 H5 x5 r5 v hv
        have xc := xb.trans x5
        have hw5 : wh5 Da = .no := xc.tmp _ hw hda
        have ha5 : H5 Da = some (.lst vs) := xc.keep _ _ ha (by rw [hw]; rfl)
        have hr5 := hr.mono xc
        have hl : vs.length + 1 ≤ sizeLine := by rw [← hr5.length]; exact line_ok e4
        refine ⟨vs, ha5, hl, ?_⟩
        obtain ⟨wh6, x6, r6⟩ := r5.killL own fun j hj xs z => by
          obtain ⟨ys, g, _⟩ := rl1.io_back r5 (x.trans xc) z
          exact noio j hj ys g
        rw [hwp] at r6
        have xd := (x.trans xc).trans x6
        have hw6 : wh6 Da = .no := x6.tmp _ hw5 (by rw [ha5]; exact fun z => (nomatch z))
        exact ⟨wh6, _, acc ++ [dy], vs ++ [v], xd.updT hD, r6.updT hw6 ha5, fun j hj xs => killL_plain hj xs, hw6, upd_same, ((hr5.mono x6).append (.cons (Rep.mono x6 hv) .nil)).updT hw6 ha5, k⟩
    · have e : i = ds.length := by omega
      subst e
      rw [List.drop_length] at k
      refine .inl ⟨wk2 _ (Nat.le_refl _), ?_⟩
      have k : ∀ wh' H', Ext wh1 H1 wh' H' → Rl C.K wh' H' (restore F1 F' own) σ → (Ext wh H wh' H' → ∀ v, RR C.K H wh' H' σ (.fr acc) v → Q v H') := k
      exact k wh' Hc x (rl1.restore hp x r hpl) (x1.trans x) _ ⟨Da, vs, rfl, x1.back hD, hw, ha, hr⟩
theorem pe_lcD {X : Cx} {W : WX} {elt tge iter : Expr} {ifs : List Expr} {scope : Scope} {own : List (Str × Nat)} {pos : Pos} {tg : Tgt} {mi : Fm → Rs (List D)} {mt : Fm → Rs Bool} {me : Fm → Rs Rv} (hc : X.calm = true) (hN : X.N.Nodup)
    (hi : PI X tge iter (tI (cn X W) mi)) (ok : BlkOk X.N X.env.scope scope own) (hg : ∀ (s : Shared) (H : Hp) (C : Addr) (cl : List (Str × Addr)) (fp : List Addr), PG (X.blk s H scope (compEnvC scope cl C X.env) fp) tge (tgR X.K tg))
    (ht : ∀ (s : Shared) (H : Hp) (C : Addr) (cl : List (Str × Addr)) (fp : List Addr), PTs (X.blk s H scope (compEnvC scope cl C X.env) fp) ifs (tT (cn X W0) mt))
    (he : ∀ (s : Shared) (H : Hp) (C : Addr) (cl : List (Str × Addr)) (fp : List Addr), PE (X.blk s H scope (compEnvC scope cl C X.env) fp) elt (tX (cn X W0) me)) (hsub : ∀ i ∈ tg.ix, i ∈ own.map (·.2)) (hs : ∀ x, foldedSetIterable iter X.env x = pure x) :
    PE X (.ListComp elt [⟨tge, iter, ifs, 0⟩] scope pos) (tX (cn X W) (lcM (own.map (·.2)) tg mi mt me)) :=
  (pe_lc (te := tX (cn X W0) (shM me)) hc hN hi ok hg ht (fun s H C cl fp => (he s H C cl fp).imp fun σ H Q q => tX_sh q) hs).imp fun σ H Q q => tX_lc (C := cn X W) hsub q
end Z

end
section
set_option Elab.async false
set_option linter.all false
set_option maxRecDepth 100000
namespace Z
open PySem PySem.Spec PyProof.Rows L2
/-! ### statements -/
def okS' (C : Cn) (wh : Who) (H : Hp) (r : SR) (D : Ends) : Prop := match r with
  | .next F => ∀ σ' wh' H', Ext wh H wh' H' → Rl C.K wh' H' F σ' → D.nx σ' H'
  | .brk F => ∀ σ' wh' H', Ext wh H wh' H' → Rl C.K wh' H' F σ' → D.bk σ' H'
  | .cnt F => ∀ σ' wh' H', Ext wh H wh' H' → Rl C.K wh' H' F σ' → D.ct σ' H'
  | .ret rv F => ∀ σ' wh' H' v, Ext wh H wh' H' → Rl C.K wh' H' F σ' → RR C.K H wh' H' σ' rv v → D.rt v H'
  | .ex e F => ∀ σ' wh' H' cl d, Ext wh H wh' H' → Rl C.K wh' H' F σ' → ExR C wh' H' e cl d → C.W cl d σ' H'
  | .bad => False
def tS (C : Cn) (m : Fm → SR) : TS := fun D σ H => ∃ wh F, Rl C.K wh H F σ ∧ okS' C wh H (m F) D
section
variable {C : Cn} {wh wh1 : Who} {H H1 : Hp} {σ : L2.St} {F : Fm} {D : Ends}
theorem okS'.later {r : SR} (h : okS' C wh H r D) (x : Ext wh H wh1 H1) : okS' C wh1 H1 r D := by
  cases r with
  | next F => exact fun σ' wh' H' y rl => h σ' wh' H' (x.trans y) rl
  | brk F => exact fun σ' wh' H' y rl => h σ' wh' H' (x.trans y) rl
  | cnt F => exact fun σ' wh' H' y rl => h σ' wh' H' (x.trans y) rl
  | ret rv F => exact fun σ' wh' H' v y rl hv => h σ' wh' H' v (x.trans y) rl (RR.base x hv)
  | ex e F => exact fun σ' wh' H' cl d y rl he => h σ' wh' H' cl d (x.trans y) rl he
  | bad => exact h
theorem okS'.thn {α : Type} {r : Rs α} {k : α → Fm → SR} {P : α → Who → Hp → Prop} (h : okS' C wh H (r.thn k) D)
    (i : ∀ a F wh1 H1, Ext wh H wh1 H1 → Rl C.K wh1 H1 F σ → okS' C wh H (k a F) D → P a wh1 H1) : okW C wh H σ r P := by
  cases r with
  | ok a F => exact fun wh1 H1 x rl => i a F wh1 H1 x rl h
  | ex e F => exact fun wh' H' cl d x rl he => h σ wh' H' cl d x rl he
  | bad => exact h
theorem tS_seq {m1 m2 : Fm → SR} (h : tS C (fun F => (m1 F).seq m2) D σ H) : tSeq (tS C m1) (tS C m2) D σ H := by
  obtain ⟨wh, F, rl, h⟩ := h
  refine ⟨wh, F, rl, ?_⟩
  have h : okS' C wh H ((m1 F).seq m2) D := h
  cases q : m1 F with
  | next F1 =>
    rw [q] at h
    exact fun σ' wh' H' x rl' => ⟨wh', F1, rl', okS'.later (show okS' C wh H (m2 F1) D from h) x⟩
  | brk F => rw [q] at h; exact h
  | cnt F => rw [q] at h; exact h
  | ret rv F => rw [q] at h; exact h
  | ex e F => rw [q] at h; exact h
  | bad => rw [q] at h; exact h
theorem okS'.next {F : Fm} (h : okS' C wh H (.next F) D) (x : Ext wh H wh1 H1) {σ : L2.St} (r : Rl C.K wh1 H1 F σ) : D.nx σ H1 := h σ wh1 H1 x r
/-! ### stores -/
theorem Rep.relax' {K : PySem.W.Frag} {i : Nat} {d : Z.D} {v : V} (s : ∀ a, H a = none → wh a = .no) (h : Rep K wh H d v) : Rep K (relax wh i) H d v := Rep.mono (.relax s) h
/-- a store: either no answer, or the slot holds it; other shares stay, other new lists stay nobody's -/
theorem asgR_ok {wh0 : Who} {H0 : Hp} {i : Nat} {rv : Rv} {v : V} (r : Rl C.K wh H F σ) (x : Ext wh0 H0 wh H) (hv : RR C.K H0 wh H σ rv v) :
    asgR i rv F = .bad ∨ ∃ F2 wh2, asgR i rv F = .next F2 ∧ Ext wh0 H0 wh2 H ∧ Rl C.K wh2 H F2 (σ.set i (some v)) ∧ (∀ d u, Rep C.K wh H d u → Rep C.K wh2 H d u) ∧
      (∀ b, wh b = .no → (∀ xs, rv = .fr xs → v ≠ .ref b) → (rv = rv) → wh2 b = .no ∨ ∃ j, rv = .ow j) := by
  unfold asgR
  cases hn : notIo F i with
  | false => exact .inl rfl
  | true =>
    obtain ⟨h1, h2⟩ := notIo_ok hn
    have sh : ∀ {F1 : Fm} {d : Z.D} {wh1 : Who}, (∃ j, rv = .ow j) ∨ wh1 = wh → Ext wh0 H0 wh1 H → Rl C.K wh1 H F1 σ → Rep C.K wh1 H d v → (∀ d u, Rep C.K wh H d u → Rep C.K wh1 H d u) → F1.length = F.length → (∀ xs, F1[i]? ≠ some (.io xs)) →
        ∃ F2 wh2, SR.next (F1.set i (.sh d)) = .next F2 ∧ Ext wh0 H0 wh2 H ∧ Rl C.K wh2 H F2 (σ.set i (some v)) ∧ (∀ d u, Rep C.K wh H d u → Rep C.K wh2 H d u) ∧ (∀ b, wh b = .no → (∀ xs, rv = .fr xs → v ≠ .ref b) → (rv = rv) → wh2 b = .no ∨ ∃ j, rv = .ow j) := fun {F1 d wh1} hw x1 r1 hd hk hl hio => by
      obtain ⟨x2, r2⟩ := r1.setS (by rw [hl]; exact h1) hio hd
      refine ⟨_, _, rfl, x1.trans x2, r2, fun d u q => Rep.mono x2 (hk d u q), fun b hb _ _ => ?_⟩
      rcases hw with hw | hw
      · exact .inr hw
      · subst hw
        refine .inl ?_
        rw [relax_ne (by rw [hb]; exact fun z => (nomatch z))]
        exact hb
    cases rv with
    | fr xs =>
      obtain ⟨a, vs, rfl, g0, g1, g2, g3⟩ := hv
      refine .inr ⟨_, _, rfl, Ext.tag (t := .sl i) (x.trans (.relax fun _ z => r.free z)) g0 (fun j z => (nomatch z)), r.setO h1 h2 g1 g2 g3, fun d u q => ?_, fun b hb hne _ => .inl ?_⟩
      · exact (Rep.relax' (fun _ z => r.free z) q).tagN (by rw [relax_ne (by rw [g1]; exact fun z => (nomatch z)), g1]; exact fun z => (nomatch z))
      · rw [setW_ne (fun z => hne xs rfl (by rw [z])), relax_ne (by rw [hb]; exact fun z => (nomatch z))]
        exact hb
    | sh d => exact .inr (sh (.inr rfl) x r hv (fun _ _ q => q) rfl h2)
    | ow j =>
      cases q : share (.ow j) F with
      | bad =>
        refine .inl ?_
        show (share (.ow j) F).thn _ = _
        rw [q]
        rfl
      | ex e F1 => exact (share_ex q).elim
      | ok d F1 =>
        have q' : (match F[j]? with
          | some (.ow xs) => .ok (.lst xs) (F.set j (.sh (.lst xs)))
          | _ => .bad : Rs Z.D) = .ok d F1 := q
        split at q'
        · rename_i xs hF
          cases q'
          obtain ⟨a, wh1, e1, x1, r1, hd⟩ := r.freeze hF
          rw [show σ[j]? = some (some v) from hv] at e1
          cases e1
          refine .inr ?_
          show ∃ F2 wh2, (share (.ow j) F).thn _ = SR.next F2 ∧ _
          rw [q]
          refine sh (.inl ⟨j, rfl⟩) (x.trans x1) r1 hd (fun _ _ q => Rep.mono x1 q) List.length_set fun xs' z => ?_
          by_cases e : i = j
          · subst e
            rw [set_get (by exact h1)] at z
            cases z
          · rw [List.getElem?_set_ne (Ne.symm e)] at z
            exact h2 _ z
        · cases q'
theorem tS_asg {i : Nat} {m : Fm → Rs Rv} {t : TE} (ht : ∀ σ H Q, tX C m σ H Q → t σ H Q) (h : tS C (fun F => (m F).thn fun rv F1 => asgR i rv F1) D σ H) : tAsg t (gName i) D σ H := by
  obtain ⟨wh, F, rl, h⟩ := h
  refine ht _ _ _ ⟨wh, F, rl, okS'.thn h fun rv F1 wh1 H1 x1 rl1 h1 v hv => ?_⟩
  rcases asgR_ok (i := i) rl1 x1 hv with e | ⟨F2, wh2, e, x2, r2, _⟩
  · rw [e] at h1; exact h1.elim
  · rw [e] at h1
    exact h1.next x2 r2
/-! ### several at once -/
/-- no two new lists are one -/
def Dst : List Rv → List V → Prop
  | .fr _ :: rs, v :: vs => (∀ (j : Nat) xs, rs[j]? = some (Rv.fr xs) → vs[j]? ≠ some v) ∧ Dst rs vs
  | _ :: rs, _ :: vs => Dst rs vs
  | _, _ => True
def tP (C : Cn) (m : Fm → Rs (List Rv)) : TA := fun σ H Q => ∃ wh F, Rl C.K wh H F σ ∧ okW C wh H σ (m F) fun rs wh' H' => ∀ vs, RRL C.K H wh' H' σ rs vs → Dst rs vs → (∀ r ∈ rs, ∀ j, r ≠ .ow j) → Q vs H'
def own1M (m : Fm → Rs Rv) : Fm → Rs Rv := fun F => (m F).bind own1
theorem own1_ok {wh0 : Who} {H0 : Hp} {rv : Rv} {v : V} {r' : Rv} {F' : Fm} (r : Rl C.K wh H F σ) (x : Ext wh0 H0 wh H) (h : RR C.K H0 wh H σ rv v) (e : own1 rv F = .ok r' F') :
    ∃ wh', Ext wh0 H0 wh' H ∧ Rl C.K wh' H F' σ ∧ RR C.K H0 wh' H σ r' v ∧ ∀ j, r' ≠ .ow j := by
  have gen : ∀ {rv : Rv}, RR C.K H0 wh H σ rv v → ((share rv F).bind fun d F1 => Rs.ok (Rv.sh d) F1) = .ok r' F' → ∃ wh', Ext wh0 H0 wh' H ∧ Rl C.K wh' H F' σ ∧ RR C.K H0 wh' H σ r' v ∧ ∀ j, r' ≠ .ow j := fun {rv} h e => by
    cases q : share rv F with
    | bad => rw [q] at e; cases e
    | ex _ _ => rw [q] at e; cases e
    | ok d F1 =>
      rw [q] at e
      cases e
      obtain ⟨wh', x', rl', hd⟩ := share_ok r x h q
      exact ⟨wh', x', rl', hd, fun j z => (nomatch z)⟩
  cases rv with
  | fr xs => cases e; exact ⟨wh, x, r, h, fun j z => (nomatch z)⟩
  | sh d => exact gen (rv := .sh d) h e
  | ow j => exact gen (rv := .ow j) h e
theorem own1_ex {rv : Rv} {e : Ex} {F' : Fm} (h : own1 rv F = .ex e F') : False := by
  have gen : ∀ {rv : Rv}, ((share rv F).bind fun d F1 => Rs.ok (Rv.sh d) F1) = .ex e F' → False := fun {rv} h => by
    cases q : share rv F with
    | bad => rw [q] at h; cases h
    | ex _ _ => exact share_ex q
    | ok d F1 => rw [q] at h; cases h
  cases rv with
  | fr xs => cases h
  | sh d => exact gen (rv := .sh d) h
  | ow j => exact gen (rv := .ow j) h
theorem tX_own1 {m : Fm → Rs Rv} {P : Rv → Prop} {Q : VK} (h : ∃ wh F, Rl C.K wh H F σ ∧ okW C wh H σ (own1M m F) fun rv wh' H' => ∀ v, RR C.K H wh' H' σ rv v → (∀ j, rv ≠ .ow j) → Q v H') : tX C m σ H Q := by
  obtain ⟨wh, F, r, h⟩ := h
  refine ⟨wh, F, r, ?_⟩
  unfold own1M at h
  cases q : m F with
  | bad => rw [q] at h; exact h
  | ex e F1 => rw [q] at h; exact h
  | ok rv F1 =>
    rw [q] at h
    intro wh1 H1 x1 r1 v hv
    have h : okW C wh H σ (own1 rv F1) _ := h
    cases p : own1 rv F1 with
    | bad => rw [p] at h; exact h.elim
    | ex e F2 => exact (own1_ex p).elim
    | ok r' F2 =>
      rw [p] at h
      obtain ⟨wh', x', rl', hd, hj⟩ := own1_ok r1 x1 hv p
      exact h wh' H1 x' rl' v hd hj
/-- the values stored one after another -/
theorem parSet_ok : ∀ {is : List Nat} {rs : List Rv} {vs : List V} {F : Fm} {wh0 wh : Who} {H0 H : Hp} {σ : L2.St}, Rl C.K wh H F σ → Ext wh0 H0 wh H → RRL C.K H0 wh H σ rs vs → Dst rs vs → (∀ r ∈ rs, ∀ j, r ≠ .ow j) →
    parSet is rs F = .bad ∨ ∃ F2 wh2, parSet is rs F = .next F2 ∧ Ext wh0 H0 wh2 H ∧ Rl C.K wh2 H F2 ((is.zip vs).foldl (fun s p => s.set p.1 (some p.2)) σ)
  | [], [], _, F, wh0, wh, H0, H, σ, r, x, .nil, _, _ => .inr ⟨F, wh, rfl, x, r⟩
  | [], _ :: _, _, _, _, _, _, _, _, _, _, _, _, _ => .inl rfl
  | _ :: _, [], _, _, _, _, _, _, _, _, _, _, _, _ => .inl rfl
  | i :: is, rv :: rs, v :: vs, F, wh0, wh, H0, H, σ, r, x, .cons h hs, hd, hj => by
    rcases asgR_ok (i := i) r x h with e | ⟨F2, wh2, e, x2, r2, k1, k2⟩
    · left
      show (asgR i rv F).seq _ = _
      rw [e]
      rfl
    · have hd' : Dst rs vs := by
        cases rv with
        | fr xs => exact hd.2
        | sh d => simpa [Dst] using hd
        | ow j => simpa [Dst] using hd
      have hs' : RRL C.K H0 wh2 H (σ.set i (some v)) rs vs := by
        have hdf : ∀ (j : Nat) xs, rs[j]? = some (.fr xs) → (∃ ys, rv = .fr ys) → vs[j]? ≠ some v := fun j xs g ⟨ys, hy⟩ => by
          subst hy
          exact hd.1 j xs g
        clear e x2 r2 hd hd'
        have hjr : ∀ r ∈ rs, ∀ j, r ≠ .ow j := fun r hr => hj r (List.mem_cons_of_mem _ hr)
        have hrv : ∀ j, rv ≠ .ow j := hj rv List.mem_cons_self
        clear hj
        have go : ∀ {rs : List Rv} {vs : List V}, RRL C.K H0 wh H σ rs vs → (∀ (j : Nat) xs, rs[j]? = some (.fr xs) → (∃ ys, rv = .fr ys) → vs[j]? ≠ some v) → (∀ r ∈ rs, ∀ j, r ≠ .ow j) → RRL C.K H0 wh2 H (σ.set i (some v)) rs vs := by
          intro rs
          induction rs with
          | nil => intro vs hs _ _; cases hs; exact .nil
          | cons r0 rs ih =>
            intro vs hs hdf hjr
            cases hs with
            | @cons _ u _ us q qs =>
              refine .cons ?_ (ih qs (fun j xs g hy => by have := hdf (j + 1) xs (by simpa using g) hy; simpa using this) fun r hr => hjr r (List.mem_cons_of_mem _ hr))
              cases r0 with
              | sh d => exact k1 d u q
              | ow j => exact absurd rfl (hjr _ List.mem_cons_self j)
              | fr xs =>
                obtain ⟨a, ws, rfl, g0, g1, g2, g3⟩ := q
                have hb := k2 a g1 (fun ys hy z => by
                  have := hdf 0 xs rfl ⟨ys, hy⟩
                  exact this (by simp [z])) rfl
                rcases hb with hb | ⟨j, hb⟩
                · refine ⟨a, ws, rfl, g0, hb, g2, ?_⟩
                  have gl : ∀ {ds : List Z.D} {zs : List V}, RepL C.K wh H ds zs → RepL C.K wh2 H ds zs := by
                    intro ds
                    induction ds with
                    | nil => intro zs q; cases q; exact .nil
                    | cons d ds ihd => intro zs q; cases q with | cons a b => exact .cons (k1 _ _ a) (ihd b)
                  exact gl g3
                · exact absurd hb (hrv j)
        exact go hs hdf hjr
      rcases parSet_ok (is := is) r2 x2 hs' hd' (fun r hr => hj r (List.mem_cons_of_mem _ hr)) with e' | ⟨F3, wh3, e', x3, r3⟩
      · left
        show (asgR i rv F).seq _ = _
        rw [e]
        exact e'
      · right
        refine ⟨F3, wh3, ?_, x3, r3⟩
        show (asgR i rv F).seq _ = _
        rw [e]
        exact e'
end
end Z

end
section
set_option Elab.async false
set_option linter.all false
set_option maxRecDepth 100000
namespace PySem
open PySem PySem.Spec
end PySem
namespace Z
open PySem PySem.Spec PyProof.Rows L2
set_option maxHeartbeats 4000000 in
theorem list_extend_tuple (l : Addr) (items : Array Value) (n : Nat) (b : Addr) (items2 : Array Value) (n2 : Nat) (dd : Option Addr) (sl : Array (Option Value)) (hs0 : ¬(!items.isEmpty && Builtin.List.listTooLong (items.size + items2.size)) = true) (hs1 : items.size ≤ sizeLine) (hs2 : items.size + items2.size ≤ sizeLine + 1 := by seq_fits) :
    Meets (Builtin.«list.extend» ⟨[.ref l, .ref b], []⟩) (fun _ R s => s.heap.get? l = some { cls := .type "list", dict := none, data := .seq items n, slots := #[] } ∧ s.heap.get? b = some { cls := .type "tuple", dict := dd, data := .seq items2 n2, slots := sl } ∧ R (.ok (.ret Value.none)) { s with heap := s.heap.update l (Obj.mapSeq fun x => x ++ items2), toks := s.toks }) :=
  .of_wp fun prog w A R s h => by
    obtain ⟨hp, g, d, tk, os⟩ := s; obtain ⟨hl, hb, h⟩ := h; 
    have hz' : (items ++ items2).size ≤ sizeLine + 1 := by rw [Array.size_append]; exact hs2
    wp_walk using (wpAny_updateSeq hl rfl (hz := hs1) (_hz' := hz')), wpAny_loadPart' hl, wpAny_loadPart' hb; exact ⟨_, rfl, h⟩
def rExtendT (K : PySem.W.Frag) : V → List V → Hp → VK → Prop := fun x vs H Q => ∃ l b xs zs, x = .ref l ∧ vs = [.ref b] ∧ H l = some (.lst xs) ∧ SqT K H b zs ∧ xs.length + zs.length ≤ sizeLine ∧ Q .non (upd H l (.lst (xs ++ zs)))
theorem mt_extendT {X : Cx} : MtM X "list.extend" (rExtendT X.K) := by
  intro pins s σ H x vs v us Q I rx rv h
  obtain ⟨l, b, xs, zs, rfl, rfl, hH, hB, hz, q⟩ := h
  cases rx
  obtain ⟨u, rfl, ru⟩ := rv.one
  cases ru
  obtain ⟨z, its, n, r, hl, e⟩ := I.lstM hH
  obtain ⟨its2, r2, ⟨o, e2, c2, n2, d2⟩, _⟩ := I.tuple hB
  obtain ⟨oc, od, odt, osl⟩ := o
  have c2 : oc = .type "tuple" := c2
  have d2 : odt = .seq its2.toArray n2 := d2
  subst c2 d2
  have hl2 : zs.length = its2.length := r2.length
  have hsz : its.toArray.size + its2.toArray.size ≤ sizeLine := by rw [List.size_toArray, List.size_toArray]; omega
  have hlong : ¬ (!its.toArray.isEmpty && Builtin.List.listTooLong (its.toArray.size + its2.toArray.size)) = true := by
    rw [notLongL hsz, Bool.and_false]
    exact Bool.false_ne_true
  refine call_meets F.slot_list_extend ⟨_, e, rfl⟩ F.entry_list_extend (F.args_list_extend_2 _ _)
    (list_extend_tuple l its.toArray n b its2.toArray n2 od osl hlong (by rw [List.size_toArray]; omega) (by omega)) ⟨e, e2, ?_⟩
  refine ⟨.non, _, I.lset (its' := its ++ its2) hH e (by simp) (r.append r2) ?_, rfl, q⟩
  rw [List.length_append]
  omega
end Z

end
section
set_option Elab.async false
set_option linter.all false
set_option maxRecDepth 100000
namespace Z
open PySem PySem.Spec PyProof.Rows L2
section
variable {X : Cx} {W : WX} {a b c : Expr} {es : List Expr} {ma mb mc : Fm → Rs Rv} {ms : Fm → Rs (List Rv)} {pos : Pos}
/-! ### several values, new lists as they are -/
theorem okW.seq1 {C : Cn} {wh : Who} {H : Hp} {σ : L2.St} {F : Fm} {β : Type} {k : Rv → Fm → Rs β} {P : β → Who → Hp → Prop} {P' : Rv → Who → Hp → Prop}
    (h : okW C wh H σ ((ma F).bind fun rv F1 => (own1 rv F1).bind k) P)
    (i : ∀ r F1 wh1 H1, Ext wh H wh1 H1 → Rl C.K wh1 H1 F1 σ → okW C wh1 H1 σ (k r F1) (fun b wh2 H2 => Ext wh H wh2 H2 → P b wh2 H2) → P' r wh1 H1) : okW C wh H σ (own1M ma F) P' := by
  have e : ((ma F).bind fun rv F1 => (own1 rv F1).bind k) = (own1M ma F).bind k := by
    unfold own1M
    cases ma F with
    | bad => rfl
    | ex e F => rfl
    | ok rv F1 => rfl
  rw [e] at h
  exact okW.seq h i
theorem pa_nilP : PA X [] (tP (cn X W) fun F => .ok [] F) := pa_nil.imp fun σ H Q h => by
  obtain ⟨wh, F, rl, h⟩ := h
  exact h.ret rl _ .nil trivial (fun r hr => absurd hr (by simp))
theorem RRL.frs {K : PySem.W.Frag} {H0 : Hp} {wh : Who} {H : Hp} {σ : L2.St} : ∀ {rs : List Rv} {vs : List V} {j : Nat} {xs : List D} {v : V}, RRL K H0 wh H σ rs vs → rs[j]? = some (Rv.fr xs) → vs[j]? = some v → ∃ a, v = .ref a ∧ H0 a = none
  | _, _, _, _, _, .nil, e, _ => by simp at e
  | _, _, 0, _, _, .cons h _, e, g => by
    simp at e g
    subst e g
    obtain ⟨a, ws, rfl, g0, _⟩ := h
    exact ⟨a, rfl, g0⟩
  | _, _, j + 1, _, _, .cons _ r, e, g => RRL.frs (j := j) r (by simpa using e) (by simpa using g)
theorem pa_consP (ha : PE X a (tX (cn X W) ma)) (hs : PA X es (tP (cn X W) ms)) (hst : starEach (a :: es) X.env = (false, eval a X.env) :: starEach es X.env) :
    PA X (a :: es) (tP (cn X W) fun F => (ma F).bind fun rv F1 => (own1 rv F1).bind fun r F2 => (ms F2).bind fun rs F3 => .ok (r :: rs) F3) := by
  refine (pa_cons ha hs hst).imp fun σ H Q h => ?_
  obtain ⟨wh, F, rl, h⟩ := h
  refine tX_own1 (P := fun _ => True) ⟨wh, F, rl, okW.seq1 (ma := ma) h fun r F1 wh1 H1 x1 rl1 h1 v1 hv1 hj => ?_⟩
  refine ⟨wh1, F1, rl1, okW.seq h1 fun rs F2 wh2 H2 x2 rl2 h2 vs hvs hd hjs => ?_⟩
  refine h2.ret rl2 x2 (x1.trans x2) _ (.cons (hv1.mono x2) (hvs.base x1)) ?_ ?_
  · cases r with
    | sh d => simpa [Dst] using hd
    | ow j => simpa [Dst] using hd
    | fr xs =>
      refine ⟨fun j ys e z => ?_, hd⟩
      obtain ⟨b, e1, e2⟩ := RRL.frs hvs e z
      obtain ⟨a1, ws, e3, _, _, g2, _⟩ := hv1
      rw [e3] at e1
      cases e1
      rw [g2] at e2
      cases e2
  · intro r' hr
    rcases List.mem_cons.mp hr with e | hr
    · rw [e]; exact hj
    · exact hjs r' hr
/-! ### statements -/
theorem tS_par2 {C : Cn} {i j : Nat} {D : Ends} {σ : L2.St} {H : Hp} (h : tS C (fun F => (ms F).thn fun rs F1 => parSet [i, j] rs F1) D σ H) : tPar i j (tP C ms) D σ H := by
  obtain ⟨wh, F, rl, h⟩ := h
  refine ⟨wh, F, rl, okS'.thn h fun rs F1 wh1 H1 x1 rl1 h1 vs hvs hd hj => ?_⟩
  rcases parSet_ok (is := [i, j]) rl1 x1 hvs hd hj with e | ⟨F2, wh2, e, x2, r2⟩
  · rw [e] at h1; exact h1.elim
  · have hl : rs.length = 2 := by
      clear h1 r2 hvs hd hj
      match rs, e with
      | [], e => cases e
      | [r1], e =>
        exfalso
        have e : (asgR i r1 F1).seq (fun F1 => parSet [j] [] F1) = .next F2 := e
        cases q : asgR i r1 F1 <;> rw [q] at e <;> cases e
      | [_, _], _ => rfl
      | r1 :: r2 :: r3 :: rs, e =>
        exfalso
        have e : (asgR i r1 F1).seq (fun F1 => (asgR j r2 F1).seq fun F1 => parSet [] (r3 :: rs) F1) = .next F2 := e
        cases q : asgR i r1 F1 <;> rw [q] at e <;> try cases e
        rename_i G
        have e : (asgR j r2 G).seq (fun F1 => parSet [] (r3 :: rs) F1) = .next F2 := e
        cases q2 : asgR j r2 G <;> rw [q2] at e <;> cases e
    match rs, hl, hvs with
    | [r1, r2'], _, hvs =>
      obtain ⟨v, u, rfl, _, _⟩ := hvs.two
      rw [e] at h1
      exact ⟨v, u, rfl, h1.next x2 r2⟩
theorem parSet_len : ∀ {is : List Nat} {rs : List Rv} {F F2 : Fm}, parSet is rs F = .next F2 → rs.length = is.length
  | [], [], _, _, _ => rfl
  | [], _ :: _, _, _, e => by cases e
  | _ :: _, [], _, _, e => by cases e
  | i :: is, r :: rs, F, F2, e => by
    have e : (asgR i r F).seq (fun F1 => parSet is rs F1) = .next F2 := e
    cases q : asgR i r F with
    | next G => rw [q] at e; exact congrArg Nat.succ (parSet_len (show parSet is rs G = .next F2 from e))
    | brk _ => rw [q] at e; cases e
    | cnt _ => rw [q] at e; cases e
    | ret _ _ => rw [q] at e; cases e
    | ex _ _ => rw [q] at e; cases e
    | bad => rw [q] at e; cases e
theorem tS_par3 {C : Cn} {i j l : Nat} {D : Ends} {σ : L2.St} {H : Hp} (h : tS C (fun F => (ms F).thn fun rs F1 => parSet [i, j, l] rs F1) D σ H) : tPar3 i j l (tP C ms) D σ H := by
  obtain ⟨wh, F, rl, h⟩ := h
  refine ⟨wh, F, rl, okS'.thn h fun rs F1 wh1 H1 x1 rl1 h1 vs hvs hd hj => ?_⟩
  rcases parSet_ok (is := [i, j, l]) rl1 x1 hvs hd hj with e | ⟨F2, wh2, e, x2, r2⟩
  · rw [e] at h1; exact h1.elim
  · have hl := parSet_len e
    match rs, hl, hvs with
    | [q1, q2, q3], _, .cons (v := v) g1 hvs =>
      obtain ⟨u, w, rfl, _, _⟩ := hvs.two
      rw [e] at h1
      exact ⟨v, u, w, rfl, h1.next x2 r2⟩
/-- a tuple is unpacked into names -/
theorem gNames_par : ∀ {is : List Nat} {vs : List V} {σ : L2.St} {H : Hp} {Q : L2.St → Hp → Prop}, vs.length = is.length → Q ((is.zip vs).foldl (fun s p => s.set p.1 (some p.2)) σ) H → gNames is vs σ H Q
  | [], [], _, _, _, _, q => ⟨rfl, q⟩
  | i :: is, v :: vs, _, _, _, e, q => ⟨v, vs, rfl, gNames_par (is := is) (by simpa using e) q⟩
  | [], _ :: _, _, _, _, e, _ => by cases e
  | _ :: _, [], _, _, _, e, _ => by cases e
theorem RepL.rrl {K : PySem.W.Frag} {H0 : Hp} {wh : Who} {H : Hp} {σ : L2.St} : ∀ {ds : List D} {vs : List V}, RepL K wh H ds vs → RRL K H0 wh H σ (ds.map .sh) vs
  | _, _, .nil => .nil
  | _, _, .cons h r => .cons h r.rrl
theorem dst_sh : ∀ {ds : List D} {vs : List V}, Dst (ds.map .sh) vs
  | [], _ => by simp [Dst]
  | _ :: _, [] => by simp [Dst]
  | _ :: ds, _ :: vs => by simpa [Dst] using dst_sh (ds := ds) (vs := vs)
theorem tS_unp {C : Cn} {is : List Nat} {D : Ends} {σ : L2.St} {H : Hp} (h : tS C (fun F => (ma F).thn fun rv F1 => match view rv F1 with
    | some (.t, ds) => parSet is (ds.map .sh) F1
    | _ => .bad) D σ H) : tAsg (tX C ma) (gTup C.K is.length (gNames is)) D σ H := by
  obtain ⟨wh, F, rl, h⟩ := h
  refine ⟨wh, F, rl, okS'.thn h fun rv F1 wh1 H1 x1 rl1 h1 v hv => ?_⟩
  split at h1
  · rename_i ds e1
    obtain ⟨a1, vs, rfl, r1, t1, -, -⟩ := view_ok rl1 hv e1
    rcases parSet_ok (is := is) rl1 x1 (H0 := H) r1.rrl dst_sh (fun r hr j z => by
      obtain ⟨d, _, e⟩ := List.mem_map.mp hr
      rw [z] at e
      cases e) with e | ⟨F2, wh2, e, x2, r2⟩
    · rw [e] at h1; exact h1.elim
    · rw [e] at h1
      have hl : vs.length = is.length := by
        have := parSet_len e
        rw [List.length_map] at this
        rw [← r1.length, this]
      exact ⟨a1, vs, rfl, t1 rfl, hl, gNames_par hl (h1.next x2 r2)⟩
  · exact h1.elim
end
end Z

end
section
set_option Elab.async false
set_option linter.all false
set_option maxRecDepth 100000
namespace Z
open PySem PySem.Spec PyProof.Rows L2
section
variable {C : Cn} {σ : L2.St} {H : Hp} {D : Ends} {ma mk : Fm → Rs Rv} {mt : Fm → Rs Bool} {m1 m2 mb : Fm → SR}
theorem tS_ret (h : tS C (fun F => (ma F).thn fun rv F1 => .ret rv F1) D σ H) : tRet (tX C ma) D σ H := by
  obtain ⟨wh, F, rl, h⟩ := h
  exact ⟨wh, F, rl, okS'.thn h fun rv F1 wh1 H1 x1 rl1 h1 v hv => h1 σ wh1 H1 v x1 rl1 hv⟩
theorem tS_retN (h : tS C (fun F => .ret (.sh .non) F) D σ H) : tRetN D σ H := by
  obtain ⟨wh, F, rl, h⟩ := h
  exact h σ wh H .non rl.refl rl .non
theorem tS_next (h : tS C (fun F => .next F) D σ H) : tNext D σ H := by
  obtain ⟨wh, F, rl, h⟩ := h
  exact h σ wh H rl.refl rl
theorem tS_brk (h : tS C (fun F => .brk F) D σ H) : tBreak D σ H := by
  obtain ⟨wh, F, rl, h⟩ := h
  exact h σ wh H rl.refl rl
theorem tS_cnt (h : tS C (fun F => .cnt F) D σ H) : tCont D σ H := by
  obtain ⟨wh, F, rl, h⟩ := h
  exact h σ wh H rl.refl rl
theorem tS_drop (h : tS C (fun F => (ma F).thn fun _ F1 => .next F1) D σ H) : tDrop (tX C ma) D σ H := by
  obtain ⟨wh, F, rl, h⟩ := h
  exact ⟨wh, F, rl, okS'.thn h fun rv F1 wh1 H1 x1 rl1 h1 v hv => h1 σ wh1 H1 x1 rl1⟩
theorem tS_if (h : tS C (fun F => (mt F).thn fun c F1 => if c then m1 F1 else m2 F1) D σ H) : tIfS (tT C mt) (tS C m1) (tS C m2) D σ H := by
  obtain ⟨wh, F, rl, h⟩ := h
  refine ⟨wh, F, rl, okS'.thn h fun c F1 wh1 H1 x1 rl1 h1 => ?_⟩
  cases c with
  | true => exact iteT ⟨wh1, F1, rl1, okS'.later (show okS' C wh H (m1 F1) D from h1) x1⟩
  | false => exact iteF ⟨wh1, F1, rl1, okS'.later (show okS' C wh H (m2 F1) D from h1) x1⟩
theorem tS_aug {i : Nat} {op : Operator} (h : tS C (augM i op ma) D σ H) : (op = .Add ∧ tAug i (tX C ma) (ipI fun i j => i + j) D σ H) ∨ (op = .Sub ∧ tAug i (tX C ma) (ipI fun i j => i - j) D σ H) ∨
    (op ≠ .Add ∧ op ≠ .Sub) := by
  obtain ⟨wh, F, rl, h⟩ := h
  unfold augM at h
  split at h
  · rename_i a hF
    obtain ⟨v, e1, hv⟩ := rl.rs i _ hF
    cases hv
    by_cases e : op = .Add
    · subst e
      refine .inl ⟨rfl, .int a, e1, wh, F, rl, okS'.thn h fun rv F1 wh1 H1 x1 rl1 h1 v hv => ?_⟩
      split at h1
      · rename_i b _
        rw [hv.int]
        refine ⟨a, b, rfl, rfl, ?_⟩
        rcases asgR_ok (i := i) (rv := .sh (.int (a + b))) rl1 x1 (H0 := H) (Rep.int _) with e | ⟨F2, wh2, e, x2, r2, _⟩
        · rw [e] at h1; exact h1.elim
        · rw [e] at h1; exact h1.next x2 r2
      · rename_i z; exact absurd z (by decide)
      · exact h1.elim
    · by_cases e' : op = .Sub
      · subst e'
        refine .inr (.inl ⟨rfl, .int a, e1, wh, F, rl, okS'.thn h fun rv F1 wh1 H1 x1 rl1 h1 v hv => ?_⟩)
        split at h1
        · rename_i z; exact absurd z (by decide)
        · rename_i b _
          rw [hv.int]
          refine ⟨a, b, rfl, rfl, ?_⟩
          rcases asgR_ok (i := i) (rv := .sh (.int (a - b))) rl1 x1 (H0 := H) (Rep.int _) with e | ⟨F2, wh2, e, x2, r2, _⟩
          · rw [e] at h1; exact h1.elim
          · rw [e] at h1; exact h1.next x2 r2
        · exact h1.elim
      · exact .inr (.inr ⟨e, e'⟩)
  · exact h.elim
/-! ### lists changed in place -/
theorem okS'.seqS {α : Type} {wh : Who} {F : Fm} {k : Z.D → Fm → SR} {P : Rv → Who → Hp → Prop} (h : okS' C wh H ((shM ma F).thn fun rv F2 => match rv with
      | .sh d => k d F2
      | _ => .bad) D)
    (i : ∀ d F1 wh1 H1, Ext wh H wh1 H1 → Rl C.K wh1 H1 F1 σ → okS' C wh H (k d F1) D → P (.sh d) wh1 H1) : okW C wh H σ (shM ma F) P := by
  refine okS'.thn h fun rv F1 wh1 H1 x1 rl1 h1 => ?_
  cases rv with
  | sh d => exact i d F1 wh1 H1 x1 rl1 h1
  | fr _ => exact h1.elim
  | ow _ => exact h1.elim
theorem tS_app {i : Nat} (h : tS C (appM i ma) D σ H) : tDrop (tBM C.K "list" rAppend (tVar i) (tCons (tX C (shM ma)) tNil)) D σ H := by
  obtain ⟨wh, F, rl, h⟩ := h
  unfold appM at h
  split at h
  · rename_i xs0 e0
    obtain ⟨s0, a0, vs0, g1, g2, g3, g4, g5, g6⟩ := ownAt_ok rl e0
    refine ⟨.ref a0, g3, .inl ⟨rfl, vs0, .of g5⟩, wh, F, rl, okS'.seqS (α := Unit) h fun d F1 wh1 H1 x1 rl1 h1 v hv => ?_⟩
    unfold appR at h1
    split at h1
    · rename_i s hs
      split at h1
      · rename_i xs ho
        split at h1
        · rename_i hl
          obtain ⟨a, vs, q1, q2, q3, q4⟩ := rl1.at hs ho
          rw [g3] at q1
          cases q1
          obtain ⟨x2, r2⟩ := rl1.put (ys := xs ++ [d]) (us := vs ++ [v]) hs ho g3 (q4.append (.cons hv .nil))
          refine ⟨a0, vs, v, rfl, rfl, q3, ?_, h1.next (x1.trans x2) r2⟩
          have := line_ok hl
          rw [q4.length] at this
          exact this
        · exact h1.elim
      · exact h1.elim
    · exact h1.elim
  · exact h.elim
theorem tS_ext {i : Nat} (h : tS C (extM i ma) D σ H) : tDrop (tBM C.K "list" (fun x xs H Q => rExtend x xs H Q ∨ rExtendT C.K x xs H Q) (tVar i) (tCons (tX C ma) tNil)) D σ H := by
  obtain ⟨wh, F, rl, h⟩ := h
  unfold extM at h
  split at h
  · rename_i xs0 e0
    obtain ⟨s0, a0, vs0, g1, g2, g3, g4, g5, g6⟩ := ownAt_ok rl e0
    refine ⟨.ref a0, g3, .inl ⟨rfl, vs0, .of g5⟩, wh, F, rl, okS'.thn h fun rv F1 wh1 H1 x1 rl1 h1 v hv => ?_⟩
    unfold extR at h1
    split at h1
    · rename_i s hs
      split at h1
      · rename_i xs k ys ho e1
        split at h1
        · rename_i hl
          obtain ⟨hl, hk⟩ := Bool.and_eq_true_iff.mp hl
          obtain ⟨a, vs, q1, q2, q3, q4⟩ := rl1.at hs ho
          rw [g3] at q1
          cases q1
          obtain ⟨b, us, rfl, r1, t1, l1, -⟩ := view_ok rl1 hv e1
          obtain ⟨x2, r2⟩ := rl1.put (ys := xs ++ ys) (us := vs ++ us) hs ho g3 (q4.append r1)
          have hz : vs.length + us.length ≤ sizeLine := by rw [← q4.length, ← r1.length]; exact line_ok hl
          cases k with
          | t => exact .inr ⟨a0, b, vs, us, rfl, rfl, q3, t1 rfl, hz, h1.next (x1.trans x2) r2⟩
          | l => exact .inl ⟨a0, b, vs, us, rfl, rfl, q3, l1 rfl, hz, h1.next (x1.trans x2) r2⟩
          | f => cases hk
        · exact h1.elim
      · exact h1.elim
    · exact h1.elim
  · exact h.elim
theorem ixN_len {n m : Nat} {j : Int} (h : n = m) : ixN n j = ixN m j := by rw [h]
theorem tS_put {i : Nat} (h : tS C (putM i mk ma) D σ H) : tAsg (tX C (shM ma)) (gSub (tVar i) (tX C mk) rSetL) D σ H := by
  obtain ⟨wh, F, rl, h⟩ := h
  refine ⟨wh, F, rl, okS'.seqS (α := Unit) (k := fun d F2 => match ownAt F2 i with
      | some _ => (mk F2).thn fun kv F3 => putR i kv d F3
      | none => .bad) h fun d F1 wh1 H1 x1 rl1 h1 v hv => ?_⟩
  split at h1
  · rename_i xs0 e0
    obtain ⟨s0, a0, vs0, g1, g2, g3, g4, g5, g6⟩ := ownAt_ok rl1 e0
    refine ⟨.ref a0, g3, wh1, F1, rl1, okS'.thn (okS'.later h1 x1) fun kv F2 wh2 H2 x2 rl2 h2 u hu => ?_⟩
    unfold putR at h2
    split at h2
    · rename_i s j hs
      split at h2
      · rename_i xs ho
        split at h2
        · rename_i n hn
          obtain ⟨a, vs, q1, q2, q3, q4⟩ := rl2.at hs ho
          rw [g3] at q1
          cases q1
          have hv2 : Rep C.K wh2 H2 d v := Rep.mono x2 hv
          obtain ⟨x3, r3⟩ := rl2.put (ys := xs.set n d) (us := vs.set n v) hs ho g3 (q4.set hv2 n)
          refine ⟨a0, vs, j, n, rfl, hu.int, q3, ?_, h2.next (x2.trans x3) r3⟩
          rw [← q4.length]
          exact hn
        · exact h2.elim
      · exact h2.elim
    · exact h2.elim
  · exact h1.elim
/-! ### loops -/
theorem Rl.killD {K : PySem.W.Frag} {wh : Who} {F : Fm} (r : Rl K wh H F σ) : ∀ is : List Nat, ∃ wh', Ext wh H wh' H ∧ Rl K wh' H (killD F is) σ
  | [] => ⟨wh, r.refl, r⟩
  | i :: is => by
    obtain ⟨wh1, x1, r1⟩ := Rl.killD r is
    unfold Z.killD kill1
    split
    · exact ⟨wh1, x1, r1⟩
    · rename_i hn
      obtain ⟨x2, r2⟩ := r1.kill i (fun xs z => hn xs z) (σ' := σ) rfl fun _ _ => rfl
      exact ⟨_, x1.trans x2, r2⟩
theorem okS'.kill {wh : Who} {F : Fm} {is : List Nat} (h : okS' C wh H (.next (killD F is)) D) {wh1 : Who} {H1 : Hp} {σ : L2.St} (x : Ext wh H wh1 H1) (r : Rl C.K wh1 H1 F σ) : D.nx σ H1 := by
  obtain ⟨wh2, x2, r2⟩ := r.killD is
  exact h σ wh2 H1 (x.trans x2) r2
theorem tS_for {tg : Tgt} {mi : Fm → Rs (List Z.D)} {dead : List Nat} (h : tS C (fun F => (mi F).thn fun ds F1 => forM tg mb dead ds F1) D σ H) : tFor (tI C mi) (tgR C.K tg) (tS C mb) D σ H := by
  obtain ⟨wh, F, rl, h⟩ := h
  refine ⟨wh, F, rl, okS'.thn h fun ds F1 wh1 H1 x1 rl1 h1 J hJ => ?_⟩
  refine ⟨fun i m σ' Hc => m = ds.length - i ∧ i ≤ ds.length ∧ ∃ wh' F', Rl C.K wh' Hc F' σ' ∧ Ext wh1 H1 wh' Hc ∧ okS' C wh' Hc (forM tg mb dead (ds.drop i) F') D, ⟨ds.length, by simp, Nat.zero_le _, wh1, F1, rl1, rl1.refl, okS'.later h1 x1⟩, ?_⟩
  rintro i m σ' Hc ⟨rfl, hi, wh', F', r, x, k⟩
  obtain ⟨wk1, wk2⟩ := hJ wh' Hc x
  by_cases hlt : i < ds.length
  · obtain ⟨d, hd⟩ : ∃ d, ds[i]? = some d := ⟨ds[i], List.getElem?_eq_getElem hlt⟩
    obtain ⟨go, yl⟩ := wk1 i d hd
    have hdr : ds.drop i = d :: ds.drop (i + 1) := by
      rw [List.drop_eq_getElem_cons hlt]
      rw [List.getElem?_eq_getElem hlt] at hd
      cases hd
      rfl
    rw [hdr] at k
    have k : okS' C wh' Hc (match setT tg d (killD F' dead) with
      | none => .bad
      | some F1 => match mb F1 with
        | .next F2 => forM tg mb dead (ds.drop (i + 1)) F2
        | .cnt F2 => forM tg mb dead (ds.drop (i + 1)) F2
        | .brk F2 => .next (killD F2 dead)
        | r => r) D := k
    cases e1 : setT tg d (killD F' dead) with
    | none => rw [e1] at k; exact k.elim
    | some F3 =>
    rw [e1] at k
    have k : okS' C wh' Hc (match mb F3 with
        | .next F2 => forM tg mb dead (ds.drop (i + 1)) F2
        | .cnt F2 => forM tg mb dead (ds.drop (i + 1)) F2
        | .brk F2 => .next (killD F2 dead)
        | r => r) D := k
    refine .inr ⟨go, fun σ2 H2 => ∃ wh' F', Rl C.K wh' H2 F' σ2 ∧ Ext wh1 H1 wh' H2 ∧ okS' C wh' H2 (forM tg mb dead (ds.drop (i + 1)) F') D, fun σ2 H2 q => ⟨ds.length - (i + 1), by omega, rfl, hlt, q⟩, fun y H2 hy => ?_⟩
    obtain ⟨hH, hrep⟩ := yl y H2 hy
    have hrep := hrep fun _ z => r.free z
    have st : Ext wh' Hc wh' H2 ∧ Rl C.K wh' H2 F' σ' := by
      rcases hH with rfl | ⟨T, o, n, rfl⟩
      · exact ⟨r.refl, r⟩
      · exact ⟨r.ext_new n, r.new n⟩
    obtain ⟨xa, ra⟩ := st
    obtain ⟨whb, xb, rb⟩ := ra.killD dead
    refine setT_reads rb (Rep.mono xb hrep) e1 fun wh3 σ2 x3 r3 out => ?_
    have xc : Ext wh' Hc wh3 H2 := xa.trans (xb.trans x3)
    refine ⟨wh3, F3, r3, ?_⟩
    cases e2 : mb F3 with
    | next F2 =>
      rw [e2] at k
      exact fun σ4 wh4 H4 x4 r4 => ⟨wh4, F2, r4, x.trans (xc.trans x4), okS'.later k (xc.trans x4)⟩
    | cnt F2 =>
      rw [e2] at k
      exact fun σ4 wh4 H4 x4 r4 => ⟨wh4, F2, r4, x.trans (xc.trans x4), okS'.later k (xc.trans x4)⟩
    | brk F2 =>
      rw [e2] at k
      exact fun σ4 wh4 H4 x4 r4 => okS'.kill k (xc.trans x4) r4
    | ret rv F2 =>
      rw [e2] at k
      exact fun σ4 wh4 H4 v x4 r4 hv => okS'.later (D := D) k xc σ4 wh4 H4 v x4 r4 hv
    | ex e F2 =>
      rw [e2] at k
      exact fun σ4 wh4 H4 cl dd x4 r4 hv => okS'.later (D := D) k xc σ4 wh4 H4 cl dd x4 r4 hv
    | bad => rw [e2] at k; exact k
  · have e : i = ds.length := by omega
    subst e
    rw [List.drop_length] at k
    exact .inl ⟨wk2 _ (Nat.le_refl _), okS'.kill (show okS' C wh' Hc (.next (killD F' dead)) D from k) r.refl r⟩
theorem tS_whl {dead : List Nat} (n : Nat) (h : tS C (fun F => whlM mt mb dead n F) D σ H) : tWhile (tT C mt) (tS C mb) D σ H := by
  obtain ⟨wh, F, rl, h⟩ := h
  refine ⟨fun n σ' Hc => ∃ wh' F', Rl C.K wh' Hc F' σ' ∧ okS' C wh' Hc (whlM mt mb dead n F') D, ⟨n, wh, F, rl, h⟩, ?_⟩
  rintro m σ' Hc ⟨wh', F', r, k⟩
  cases m with
  | zero => exact k.elim
  | succ m =>
    obtain ⟨whb, xb, rb⟩ := r.killD dead
    have k : okS' C wh' Hc ((mt (killD F' dead)).thn fun c F1 => if c then match mb F1 with
      | .next F2 => whlM mt mb dead m F2
      | .cnt F2 => whlM mt mb dead m F2
      | .brk F2 => .next (killD F2 dead)
      | r => r
      else .next F1) D := k
    refine ⟨whb, _, rb, okS'.thn (okS'.later k xb) fun c F1 wh1 H1 x1 rl1 h1 => ?_⟩
    cases c with
    | false => exact iteF (okS'.next (show okS' C whb Hc (.next F1) D from h1) x1 rl1)
    | true =>
      refine iteT ⟨fun σ2 H2 => ∃ wh' F', Rl C.K wh' H2 F' σ2 ∧ okS' C wh' H2 (whlM mt mb dead m F') D, fun σ2 H2 q => ⟨m, Nat.lt_succ_self m, q⟩, wh1, F1, rl1, ?_⟩
      have k : okS' C whb Hc (match mb F1 with
        | .next F2 => whlM mt mb dead m F2
        | .cnt F2 => whlM mt mb dead m F2
        | .brk F2 => .next (killD F2 dead)
        | r => r) D := h1
      cases e2 : mb F1 with
      | next F2 =>
        rw [e2] at k
        exact fun σ4 wh4 H4 x4 r4 => ⟨wh4, F2, r4, okS'.later k (x1.trans x4)⟩
      | cnt F2 =>
        rw [e2] at k
        exact fun σ4 wh4 H4 x4 r4 => ⟨wh4, F2, r4, okS'.later k (x1.trans x4)⟩
      | brk F2 =>
        rw [e2] at k
        exact fun σ4 wh4 H4 x4 r4 => okS'.kill k (x1.trans x4) r4
      | ret rv F2 =>
        rw [e2] at k
        exact fun σ4 wh4 H4 v x4 r4 hv => okS'.later (D := D) k x1 σ4 wh4 H4 v x4 r4 hv
      | ex e F2 =>
        rw [e2] at k
        exact fun σ4 wh4 H4 cl dd x4 r4 hv => okS'.later (D := D) k x1 σ4 wh4 H4 cl dd x4 r4 hv
      | bad => rw [e2] at k; exact k
end
end Z

end
section
set_option Elab.async false
set_option linter.all false
set_option maxRecDepth 100000
namespace Z
open PySem PySem.Spec PyProof.Rows L2
/-! ### calls of the program's own defs -/
mutual
theorem Rep.rel {K : PySem.W.Frag} {wh wh' : Who} {H : Hp} (h : ∀ a, wh a = .sh → wh' a = .sh) : ∀ {d : D} {v : V}, Rep K wh H d v → Rep K wh' H d v
  | _, _, .non => .non
  | _, _, .bl b => .bl b
  | _, _, .int i => .int i
  | _, _, .str x => .str x
  | _, _, .tup q r => .tup q (RepL.rel h r)
  | _, _, .lst s q r => .lst (h _ s) q (RepL.rel h r)
  | _, _, .fz q r => .fz (q.elim (fun ⟨s, q⟩ => .inl ⟨h _ s, q⟩) .inr) (RepL.rel h r)
theorem RepL.rel {K : PySem.W.Frag} {wh wh' : Who} {H : Hp} (h : ∀ a, wh a = .sh → wh' a = .sh) : ∀ {ds : List D} {vs : List V}, RepL K wh H ds vs → RepL K wh' H ds vs
  | _, _, .nil => .nil
  | _, _, .cons q r => .cons (Rep.rel h q) (RepL.rel h r)
end
section
open Classical
noncomputable def calW (P : Addr → Nat → Prop) (wh : Who) : Who := fun a => if wh a = .sh then .sh else if h : ∃ j, P a j then .io h.choose else .no
variable {P : Addr → Nat → Prop} {wh : Who} {a : Addr} {i j : Nat}
theorem calW.sh (h : wh a = .sh) : calW P wh a = .sh := by unfold calW; rw [if_pos h]
theorem calW.ofSh (h : calW P wh a = .sh) : wh a = .sh := by
  unfold calW at h
  split at h
  · assumption
  · split at h <;> cases h
theorem calW.sl : calW P wh a ≠ .sl i := fun h => by
  unfold calW at h
  split at h
  · cases h
  · split at h <;> cases h
theorem calW.ofIo (h : calW P wh a = .io j) : P a j := by
  unfold calW at h
  split at h
  · cases h
  · split at h
    · rename_i q
      cases h
      exact q.choose_spec
    · cases h
theorem calW.io (h : P a j) (s : wh a ≠ .sh) (u : ∀ j', P a j' → j' = j) : calW P wh a = .io j := by
  have q : ∃ j, P a j := ⟨j, h⟩
  unfold calW
  rw [if_neg s, dif_pos q, u _ q.choose_spec]
theorem calW.no (h : ∀ j, ¬ P a j) (s : wh a ≠ .sh) : calW P wh a = .no := by
  unfold calW
  rw [if_neg s, dif_neg fun ⟨j, q⟩ => h j q]
end
theorem RRL.getR {K : PySem.W.Frag} {H0 : Hp} {wh : Who} {H : Hp} {σ : L2.St} : ∀ {rs : List Rv} {vs : List V} {j : Nat} {r : Rv}, RRL K H0 wh H σ rs vs → rs[j]? = some r → ∃ v, vs[j]? = some v ∧ RR K H0 wh H σ r v
  | _, _, _, _, .nil, e => by simp at e
  | _, _, 0, _, .cons h _, e => by simp at e; subst e; exact ⟨_, rfl, h⟩
  | _, _, j + 1, r, .cons _ q, e => by
    obtain ⟨v, h1, h2⟩ := RRL.getR (j := j) (r := r) q (by simpa using e)
    exact ⟨v, by simpa using h1, h2⟩
theorem RRL.length {K : PySem.W.Frag} {H0 : Hp} {wh : Who} {H : Hp} {σ : L2.St} : ∀ {rs : List Rv} {vs : List V}, RRL K H0 wh H σ rs vs → rs.length = vs.length
  | _, _, .nil => rfl
  | _, _, .cons _ q => congrArg Nat.succ q.length
theorem toSlots_get : ∀ {F : Fm} {rs : List Rv} {A : Fm}, toSlots F rs = some A → A.length = rs.length ∧ ∀ (j : Nat) (s : Sl), A[j]? = some s → (∃ d, rs[j]? = some (.sh d) ∧ s = .sh d) ∨ (∃ i xs, rs[j]? = some (.ow i) ∧ ownAt F i = some xs ∧ s = .io xs)
  | F, [], A, e => by
    cases e
    exact ⟨rfl, fun j s h => by simp at h⟩
  | F, .sh d :: rs, A, e => by
    unfold toSlots at e
    cases q : toSlots F rs with
    | none => rw [q] at e; cases e
    | some A' =>
      rw [q] at e
      cases e
      obtain ⟨h1, h2⟩ := toSlots_get q
      refine ⟨congrArg Nat.succ h1, fun j s h => ?_⟩
      cases j with
      | zero => cases h; exact .inl ⟨d, rfl, rfl⟩
      | succ j => exact h2 j s h
  | F, .ow i :: rs, A, e => by
    unfold toSlots at e
    cases p : ownAt F i with
    | none => rw [p] at e; cases e
    | some xs =>
      rw [p] at e
      cases q : toSlots F rs with
      | none => rw [q] at e; cases e
      | some A' =>
        rw [q] at e
        cases e
        obtain ⟨h1, h2⟩ := toSlots_get q
        refine ⟨congrArg Nat.succ h1, fun j s h => ?_⟩
        cases j with
        | zero => cases h; exact .inr ⟨i, xs, rfl, p, rfl⟩
        | succ j => exact h2 j s h
  | F, .fr _ :: rs, A, e => by
    unfold toSlots at e
    cases e
theorem owns_mem : ∀ {rs : List Rv} {j i : Nat}, rs[j]? = some (.ow i) → i ∈ owns rs
  | [], j, i, e => by simp at e
  | r :: rs, 0, i, e => by
    simp at e
    subst e
    exact List.mem_cons_self ..
  | r :: rs, j + 1, i, e => by
    have := owns_mem (rs := rs) (j := j) (i := i) (by simpa using e)
    cases r with
    | ow k => exact List.mem_cons_of_mem _ this
    | sh _ => exact this
    | fr _ => exact this
theorem owns_inj : ∀ {rs : List Rv} {j j' i : Nat}, (owns rs).Nodup → rs[j]? = some (.ow i) → rs[j']? = some (.ow i) → j = j'
  | [], j, j', i, _, e, _ => by simp at e
  | r :: rs, 0, 0, i, _, _, _ => rfl
  | r :: rs, 0, j' + 1, i, n, e, e' => by
    simp at e
    subst e
    have := owns_mem (rs := rs) (j := j') (i := i) (by simpa using e')
    exact absurd this (List.nodup_cons.mp n).1
  | r :: rs, j + 1, 0, i, n, e, e' => by
    simp at e'
    subst e'
    have := owns_mem (rs := rs) (j := j) (i := i) (by simpa using e)
    exact absurd this (List.nodup_cons.mp n).1
  | r :: rs, j + 1, j' + 1, i, n, e, e' => by
    have n' : (owns rs).Nodup := by
      cases r with
      | ow k => exact (List.nodup_cons.mp n).2
      | sh _ => exact n
      | fr _ => exact n
    rw [owns_inj (rs := rs) (j := j) (j' := j') (i := i) n' (by simpa using e) (by simpa using e')]
theorem backSlots_get : ∀ {F : Fm} {rs : List Rv} {A F' : Fm}, (owns rs).Nodup → backSlots F rs A = some F' → F'.length = F.length ∧ (∀ (j i : Nat), rs[j]? = some (.ow i) → ∃ ys, A[j]? = some (.io ys)) ∧
    ∀ (i : Nat) (s' : Sl), F'[i]? = some s' → (F[i]? = some s' ∧ ∀ j : Nat, rs[j]? ≠ some (.ow i)) ∨ (∃ (j : Nat) (ys : List D) (s : Sl) (xs : List D), rs[j]? = some (.ow i) ∧ A[j]? = some (.io ys) ∧ F[i]? = some s ∧ s.own = some xs ∧ s' = s.put ys)
  | F, [], [], F', _, e => by
    cases e
    exact ⟨rfl, fun j i h => by simp at h, fun i s' h => .inl ⟨h, fun j h => by simp at h⟩⟩
  | F, [], _ :: _, F', _, e => by simp [backSlots] at e
  | F, .sh d :: rs, [], F', _, e => by simp [backSlots] at e
  | F, .sh d :: rs, x :: A, F', n, e => by
    obtain ⟨h1, h2, h3⟩ := backSlots_get (F := F) (rs := rs) (A := A) (F' := F') n (by simpa [backSlots] using e)
    refine ⟨h1, fun j i h => ?_, fun i s' h => ?_⟩
    · cases j with
      | zero => simp at h
      | succ j => exact h2 j i (by simpa using h)
    · rcases h3 i s' h with ⟨g1, g2⟩ | ⟨j, ys, s, xs, g1, g2, g3, g4, g5⟩
      · refine .inl ⟨g1, fun j h => ?_⟩
        cases j with
        | zero => simp at h
        | succ j => exact g2 j (by simpa using h)
      · exact .inr ⟨j + 1, ys, s, xs, by simpa using g1, by simpa using g2, g3, g4, g5⟩
  | F, .fr _ :: rs, A, F', _, e => by simp [backSlots] at e
  | F, .ow i0 :: rs, [], F', _, e => by simp [backSlots] at e
  | F, .ow i0 :: rs, .un :: A, F', _, e => by simp [backSlots] at e
  | F, .ow i0 :: rs, .sh _ :: A, F', _, e => by simp [backSlots] at e
  | F, .ow i0 :: rs, .ow _ :: A, F', _, e => by simp [backSlots] at e
  | F, .ow i0 :: rs, .io ys0 :: A, F', n, e => by
    unfold backSlots at e
    cases p : F[i0]? with
    | none => rw [p] at e; cases e
    | some s0 =>
      rw [p] at e
      cases q : s0.own with
      | none => simp [q] at e
      | some xs0 =>
        simp [q] at e
        have n1 := List.nodup_cons.mp n
        obtain ⟨h1, h2, h3⟩ := backSlots_get n1.2 e
        have hl : i0 < F.length := by
          by_cases hl : i0 < F.length
          · exact hl
          · rw [List.getElem?_eq_none (by omega)] at p; cases p
        refine ⟨by rw [h1, List.length_set], fun j i h => ?_, fun i s' h => ?_⟩
        · cases j with
          | zero => exact ⟨ys0, rfl⟩
          | succ j => exact h2 j i (by simpa using h)
        · rcases h3 i s' h with ⟨g1, g2⟩ | ⟨j, ys, s, xs, g1, g2, g3, g4, g5⟩
          · by_cases hi : i = i0
            · subst hi
              rw [List.getElem?_set_self hl] at g1
              cases g1
              exact .inr ⟨0, ys0, s0, xs0, rfl, rfl, p, q, rfl⟩
            · rw [List.getElem?_set_ne (fun z => hi z.symm)] at g1
              refine .inl ⟨g1, fun j h => ?_⟩
              cases j with
              | zero => simp at h; exact hi h.symm
              | succ j => exact g2 j (by simpa using h)
          · by_cases hi : i = i0
            · subst hi
              exact absurd (owns_mem g1) n1.1
            · rw [List.getElem?_set_ne (fun z => hi z.symm)] at g3
              exact .inr ⟨j + 1, ys, s, xs, by simpa using g1, by simpa using g2, g3, g4, g5⟩
/-- whose a list is: the argument j is it -/
def argP (rs : List Rv) (vs : List V) (a : Addr) (j : Nat) : Prop := ∃ i, rs[j]? = some (.ow i) ∧ vs[j]? = some (.ref a)
section
variable {K : PySem.W.Frag} {wh : Who} {H H0 : Hp} {F A : Fm} {σ : L2.St} {rs : List Rv} {vs : List V}
theorem argP.at (r : Rl K wh H F σ) (q : RRL K H0 wh H σ rs vs) (t : toSlots F rs = some A) {a : Addr} {j i : Nat} (h : rs[j]? = some (.ow i)) (v : vs[j]? = some (.ref a)) :
    σ[i]? = some (some (.ref a)) ∧ ∃ s xs us, F[i]? = some s ∧ s.own = some xs ∧ (wh a).at i ∧ H a = some (.lst us) ∧ RepL K wh H xs us := by
  obtain ⟨u, e, g⟩ := q.getR h
  rw [v] at e
  cases e
  have g : σ[i]? = some (some (.ref a)) := g
  have ho : ∃ xs, ownAt F i = some xs := by
    obtain ⟨hl, hg⟩ := toSlots_get t
    have : j < A.length := by
      rw [hl]
      by_cases z : j < rs.length
      · exact z
      · rw [List.getElem?_eq_none (by omega)] at h; cases h
    rcases hg j _ (List.getElem?_eq_getElem this) with ⟨d, e, _⟩ | ⟨i', xs, e, o, _⟩
    · rw [h] at e; cases e
    · rw [h] at e
      cases e
      exact ⟨xs, o⟩
  obtain ⟨xs, ho⟩ := ho
  obtain ⟨s, a', us, g1, g2, g3, g4, g5, g6⟩ := ownAt_ok r ho
  rw [g] at g3
  cases g3
  exact ⟨g, s, xs, us, g1, g2, g4, g5, g6⟩

theorem argP.uniq (r : Rl K wh H F σ) (q : RRL K H0 wh H σ rs vs) (t : toSlots F rs = some A) (n : (owns rs).Nodup) {a : Addr} {j j' : Nat} (h : argP rs vs a j) (h' : argP rs vs a j') : j' = j := by
  obtain ⟨i, h1, h2⟩ := h
  obtain ⟨i', h1', h2'⟩ := h'
  obtain ⟨_, _, _, _, _, _, g, _⟩ := argP.at r q t h1 h2
  obtain ⟨_, _, _, _, _, _, g', _⟩ := argP.at r q t h1' h2'
  cases g.inj g'
  exact owns_inj n h1' h1
/-- the callee's view at its entry -/
theorem call_in (r : Rl K wh H F σ) (q : RRL K H0 wh H σ rs vs) (t : toSlots F rs = some A) (n : (owns rs).Nodup) : Rl K (calW (argP rs vs) wh) H A (vs.map some) where
  len := by rw [List.length_map, ← q.length, (toSlots_get t).1]
  rs := fun j s hs => by
    rcases (toSlots_get t).2 j s hs with ⟨d, e, rfl⟩ | ⟨i, xs, e, o, rfl⟩
    · obtain ⟨v, h1, h2⟩ := q.getR e
      exact ⟨v, by rw [List.getElem?_map, h1]; rfl, Rep.rel (fun a h => calW.sh h) h2⟩
    · obtain ⟨v, h1, h2⟩ := q.getR e
      obtain ⟨s', a, us, g1, g2, g3, g4, g5, g6⟩ := ownAt_ok r o
      have h2 : σ[i]? = some (some v) := h2
      rw [g3] at h2
      cases h2
      refine ⟨a, us, by rw [List.getElem?_map, h1]; rfl, ?_, g5, RepL.rel (fun a h => calW.sh h) g6⟩
      exact calW.io ⟨i, e, h1⟩ (fun z => by have := g4.nfr; rw [z] at this; cases this) fun j' hj => argP.uniq r q t n ⟨i, e, h1⟩ hj
  own := fun a i h => absurd h calW.sl
  ownI := fun a j h => by
    obtain ⟨i, h1, h2⟩ := calW.ofIo h
    have hj : j < A.length := by
      rw [(toSlots_get t).1]
      by_cases z : j < rs.length
      · exact z
      · rw [List.getElem?_eq_none (by omega)] at h1; cases h1
    rcases (toSlots_get t).2 j _ (List.getElem?_eq_getElem hj) with ⟨d, e, e'⟩ | ⟨i', xs, e, o, e'⟩
    · rw [h1] at e; cases e
    · exact ⟨xs, by rw [List.getElem?_eq_getElem hj, e'], by rw [List.getElem?_map, h2]; rfl⟩
  dom := fun a h => by
    cases z : wh a with
    | sh => exact r.dom a (by rw [z]; exact fun z => nomatch z)
    | sl i => exact r.dom a (by rw [z]; exact fun z => nomatch z)
    | io i => exact r.dom a (by rw [z]; exact fun z => nomatch z)
    | no =>
      by_cases p : ∃ j, argP rs vs a j
      · obtain ⟨j, i, h1, h2⟩ := p
        obtain ⟨_, _, _, _, _, _, g, _⟩ := argP.at r q t h1 h2
        have := g.nfr
        rw [z] at this
        cases this
      · exact absurd (calW.no (fun j h => p ⟨j, h⟩) (by rw [z]; exact fun z => nomatch z)) h
/-- the caller's view behind the call -/
def bakW (wh wh2 : Who) : Who := fun a => if wh2 a = .sh then .sh else match wh a with
  | .sl i => .sl i
  | .io i => .io i
  | _ => .no
theorem bakW.sh {wh2 : Who} {a : Addr} (h : wh2 a = .sh) : bakW wh wh2 a = .sh := by unfold bakW; rw [if_pos h]
theorem bakW.at {wh2 : Who} {a : Addr} {i : Nat} (h : (bakW wh wh2 a).at i) : wh a = bakW wh wh2 a ∧ wh2 a ≠ .sh := by
  unfold bakW at h ⊢
  split at h
  · rcases h with h | h <;> cases h
  · rename_i n
    rw [if_neg n]
    split at h
    · rename_i z; exact ⟨z, n⟩
    · rename_i z; exact ⟨z, n⟩
    · rcases h with h | h <;> cases h
theorem bakW.own {wh2 : Who} {a : Addr} {i : Nat} (h : (wh a).at i) (n : wh2 a ≠ .sh) : bakW wh wh2 a = wh a := by
  unfold bakW
  rw [if_neg n]
  rcases h with h | h <;> rw [h]
theorem bakW.no {wh2 : Who} {a : Addr} (h : wh a = .no) (n : wh2 a ≠ .sh) : bakW wh wh2 a = .no := by
  unfold bakW
  rw [if_neg n, h]
theorem call_own {wh2 : Who} {H2 : Hp} {A' F' : Fm} (r : Rl K wh H F σ) (q : RRL K H0 wh H σ rs vs) (t : toSlots F rs = some A) (n : (owns rs).Nodup)
    (x : Ext (calW (argP rs vs) wh) H wh2 H2) (r2 : Rl K wh2 H2 A' (vs.map some)) (b : backSlots F rs A' = some F') {a : Addr} {i : Nat} (h : (wh a).at i) :
    ((∀ j, ¬ argP rs vs a j) ∧ wh2 a = .no ∧ H2 a = H a) ∨ (∃ j, argP rs vs a j ∧ wh2 a = .io j) := by
  have ns : wh a ≠ .sh := fun z => by have := h.nfr; rw [z] at this; cases this
  have dn : H a ≠ none := r.dom a fun z => by have := h.nfr; rw [z] at this; cases this
  by_cases p : ∃ j, argP rs vs a j
  · obtain ⟨j, i', h1, h2⟩ := p
    obtain ⟨ys, e⟩ := (backSlots_get n b).2.1 j i' h1
    obtain ⟨a', us, g1, g2, g3, g4⟩ := r2.rs j _ e
    rw [List.getElem?_map, h2] at g1
    cases g1
    exact .inr ⟨j, ⟨i', h1, h2⟩, g2⟩
  · have p : ∀ j, ¬ argP rs vs a j := fun j h => p ⟨j, h⟩
    have c := calW.no p ns
    refine .inl ⟨p, x.tmp a c dn, ?_⟩
    cases z : H a with
    | none => exact absurd z dn
    | some o => exact x.keep a o z (by rw [c]; rfl)
theorem call_out {wh2 : Who} {H2 : Hp} {A' F' : Fm} (r : Rl K wh H F σ) (q : RRL K H0 wh H σ rs vs) (t : toSlots F rs = some A) (n : (owns rs).Nodup)
    (x : Ext (calW (argP rs vs) wh) H wh2 H2) (r2 : Rl K wh2 H2 A' (vs.map some)) (b : backSlots F rs A' = some F') :
    Ext wh H (bakW wh wh2) H2 ∧ Rl K (bakW wh wh2) H2 F' σ := by
  have own2 : ∀ a i, (wh a).at i → wh2 a ≠ .sh := fun a i h => by
    rcases call_own r q t n x r2 b h with ⟨_, z, _⟩ | ⟨j, _, z⟩ <;> rw [z] <;> exact fun z => nomatch z
  have noarg : ∀ a, (wh a).fr = true → ∀ j, ¬ argP rs vs a j := fun a h j ⟨i, h1, h2⟩ => by
    obtain ⟨_, _, _, _, _, _, g, _⟩ := argP.at r q t h1 h2
    rw [g.nfr] at h
    cases h
  have y : Ext wh H (bakW wh wh2) H2 := by
    refine ⟨fun a o h f => ?_, x.keepI, fun a h => bakW.sh (x.shr a (calW.sh h)), fun a h dn => ?_, x.dom, fun a h => r.free h, fun a i h => ?_⟩
    · cases z : wh a with
      | sh => exact x.keep a o h (by rw [calW.sh z]; rfl)
      | no => exact x.keep a o h (by rw [calW.no (noarg a f) (by rw [z]; exact fun z => nomatch z)]; rfl)
      | sl i => rw [z] at f; cases f
      | io i => rw [z] at f; cases f
    · have c := calW.no (wh := wh) (noarg a (by rw [h]; rfl)) (by rw [h]; exact fun z => nomatch z)
      exact bakW.no h (by rw [x.tmp a c dn]; exact fun z => nomatch z)
    · rw [(bakW.at (i := i) (.inr h)).1]; exact h
  refine ⟨y, ?_⟩
  obtain ⟨b1, b2, b3⟩ := backSlots_get n b
  have hget : ∀ {i : Nat} {s : Sl} {xs : List D}, F[i]? = some s → s.own = some xs → ∃ s' ys, F'[i]? = some s' ∧ (s' = s ∨ s' = s.put ys) := fun {i s xs} e o => by
    have hi : i < F'.length := by
      rw [b1]
      by_cases z : i < F.length
      · exact z
      · rw [List.getElem?_eq_none (by omega)] at e; cases e
    rcases b3 i _ (List.getElem?_eq_getElem hi) with ⟨e', _⟩ | ⟨j, ys, s1, xs1, _, _, e', _, e''⟩
    · rw [e] at e'; cases e'
      exact ⟨_, [], List.getElem?_eq_getElem hi, .inl rfl⟩
    · rw [e] at e'; cases e'
      exact ⟨_, ys, List.getElem?_eq_getElem hi, .inr e''⟩
  refine ⟨by rw [r.len, b1], fun i s' hs' => ?_, fun a i h => ?_, fun a i h => ?_, fun a h => ?_⟩
  · rcases b3 i s' hs' with ⟨e, na⟩ | ⟨j, ys, s, xs, h1, h2, h3, h4, rfl⟩
    · refine RS.mono y (fun a ha => ?_) (r.rs i s' e)
      have p : ∀ j, ¬ argP rs vs a j := fun j ⟨i', h1, h2⟩ => by
        obtain ⟨_, _, _, _, _, _, g, _⟩ := argP.at r q t h1 h2
        cases g.inj ha
        exact na j h1
      rcases call_own r q t n x r2 b ha with ⟨_, z, e⟩ | ⟨j, hj, _⟩
      · exact ⟨bakW.own ha (by rw [z]; exact fun z => nomatch z), e⟩
      · exact absurd hj (p j)
    · obtain ⟨v, g1, g2⟩ := q.getR h1
      have g2 : σ[i]? = some (some v) := g2
      obtain ⟨a, us, k1, k2, k3, k4⟩ := r2.rs j _ h2
      rw [List.getElem?_map, g1] at k1
      cases k1
      have ha : (wh a).at i := by
        obtain ⟨_, _, _, _, _, _, g, _⟩ := argP.at r q t h1 g1
        exact g
      have hb := bakW.own (wh2 := wh2) ha (own2 a i ha)
      have hk : RepL K (bakW wh wh2) H2 ys us := RepL.rel (fun a h => bakW.sh h) k4
      have rr := r.rs i s h3
      cases s with
      | un => cases h4
      | sh d => cases h4
      | ow zs =>
        obtain ⟨a', _, e1, e2, _⟩ := rr
        rw [g2] at e1; cases e1
        exact ⟨a, us, g2, by rw [hb]; exact e2, k3, hk⟩
      | io zs =>
        obtain ⟨a', _, e1, e2, _⟩ := rr
        rw [g2] at e1; cases e1
        exact ⟨a, us, g2, by rw [hb]; exact e2, k3, hk⟩
  · have hw := (bakW.at (i := i) (.inl h)).1
    rw [h] at hw
    obtain ⟨xs, e1, e2⟩ := r.own a i hw
    obtain ⟨s', ys, e3, e4⟩ := hget e1 rfl
    rcases e4 with rfl | rfl
    · exact ⟨_, e3, e2⟩
    · exact ⟨_, e3, e2⟩
  · have hw := (bakW.at (i := i) (.inr h)).1
    rw [h] at hw
    obtain ⟨xs, e1, e2⟩ := r.ownI a i hw
    obtain ⟨s', ys, e3, e4⟩ := hget e1 rfl
    rcases e4 with rfl | rfl
    · exact ⟨_, e3, e2⟩
    · exact ⟨_, e3, e2⟩
  · by_cases z : wh2 a = .sh
    · exact r2.dom a (by rw [z]; exact fun z => nomatch z)
    · refine x.dom a (r.dom a fun e => h (bakW.no e z))
end
/-- a def's promise -/
def spM (K : PySem.W.Frag) (mg : Str → Option Value) (np : Nat) (fn : Fn) : Sp := fun vs H Q E => vs.length = np ∧ ∃ (wh : Who) (A : Fm), Rl K wh H A (vs.map some) ∧ (∀ (i : Nat) (xs : List D), A[i]? ≠ some (.ow xs)) ∧
  okW ⟨K, mg, fun cl d _ H' => E cl d H'⟩ wh H (vs.map some) (fn A) fun (rv : Rv) wh' H' => ∀ v, (∀ j, rv ≠ Rv.ow j) → RR K H wh' H' (vs.map some) rv v → Q v H'
theorem toSlots_ow {F : Fm} {rs : List Rv} {A : Fm} (t : toSlots F rs = some A) (i : Nat) (xs : List D) : A[i]? ≠ some (.ow xs) := fun e => by
  rcases (toSlots_get t).2 i _ e with ⟨_, _, z⟩ | ⟨_, _, _, _, z⟩ <;> cases z
/-- the caller's step -/
theorem call_ok {C : Cn} {wh : Who} {H H0 : Hp} {F : Fm} {σ : L2.St} {rs : List Rv} {vs : List V} {np : Nat} {fn : Fn} (hfn : ∀ A : Fm, A.length ≠ np → fn A = .bad) {Q : VK} (r : Rl C.K wh H F σ) (q : RRL C.K H0 wh H σ rs vs)
    (h : okW C wh H σ (callR fn rs F) fun rv wh' H' => ∀ v, RR C.K H wh' H' σ rv v → Q v H') : spM C.K C.mg np fn vs H Q (WE C.W σ) := by
  unfold callR at h
  split at h
  · rename_i n
    obtain ⟨A, t, h⟩ := okW.ofO h
    have hl : vs.length = np := by
      by_cases z : A.length = np
      · rw [← z, (toSlots_get t).1, q.length]
      · rw [hfn A z] at h; exact h.elim
    refine ⟨hl, _, A, call_in r q t n, toSlots_ow t, ?_⟩
    cases e : fn A with
    | bad => rw [e] at h; exact h.elim
    | ok rv A' =>
      rw [e] at h
      obtain ⟨F', b, h⟩ := okW.ofO h
      intro wh2 H2 x r2 v no hv
      obtain ⟨y, r'⟩ := call_out r q t n x r2 b
      cases rv with
      | ow j => exact absurd rfl (no j)
      | sh d => exact h _ _ y r' v (Rep.rel (fun a h => bakW.sh h) hv)
      | fr xs =>
        obtain ⟨a, us, e1, e2, e3, e4, e5⟩ := hv
        exact h _ _ y r' v ⟨a, us, e1, e2, bakW.no (r.free e2) (by rw [e3]; exact fun z => nomatch z), e4, RepL.rel (fun a h => bakW.sh h) e5⟩
    | ex ee A' =>
      rw [e] at h
      obtain ⟨F', b, h⟩ := okW.ofO h
      intro wh2 H2 cl d x r2 ⟨c, k1, k2, k3⟩
      obtain ⟨y, r'⟩ := call_out r q t n x r2 b
      refine h _ _ cl d y r' ⟨c, k1, k2, k3.imp id fun ⟨a, fs, j1, j2, j3, j4⟩ => ⟨a, fs, j1, j2, j3, RepL.rel (fun a h => bakW.sh h) j4⟩⟩
  · exact h.elim
end Z

end
section
set_option Elab.async false
set_option linter.all false
set_option maxRecDepth 100000
namespace Z
open PySem PySem.Spec PyProof.Rows L2
/-! ### a def's body -/
theorem fnOf_len {Γ : Tb} {np n : Nat} {b : Ss} (A : Fm) (h : A.length ≠ np) : fnOf Γ np n b A = .bad := by
  unfold fnOf
  rw [if_neg h]
theorem ioB_get : ∀ {A F A' : Fm}, ioB A F = some A' → A'.length = A.length ∧ (∀ (i : Nat) (xs : List D), A[i]? = some (.io xs) → ∃ ys, F[i]? = some (.io ys)) ∧ (∀ (i : Nat) (s : Sl), A'[i]? = some s → s = .un ∨ ∃ ys xs, s = .io ys ∧ A[i]? = some (.io xs) ∧ F[i]? = some (.io ys))
  | [], F, A', e => by
    simp [ioB] at e
    subst e
    exact ⟨rfl, fun i xs h => by simp at h, fun i s h => by simp at h⟩
  | .un :: A, F, A', e => by simp [ioB] at e
  | .ow _ :: A, F, A', e => by simp [ioB] at e
  | .sh d :: A, [], A', e => by simp [ioB] at e
  | .io xs :: A, [], A', e => by simp [ioB] at e
  | .io xs :: A, .un :: F, A', e => by simp [ioB] at e
  | .io xs :: A, .sh _ :: F, A', e => by simp [ioB] at e
  | .io xs :: A, .ow _ :: F, A', e => by simp [ioB] at e
  | .sh d :: A, x :: F, A', e => by
    cases q : ioB A F with
    | none => simp [ioB, q] at e
    | some B =>
      simp [ioB, q] at e
      subst e
      obtain ⟨h1, h2, h3⟩ := ioB_get q
      refine ⟨congrArg Nat.succ h1, fun i xs h => ?_, fun i s h => ?_⟩
      · cases i with
        | zero => simp at h
        | succ i => exact h2 i xs (by simpa using h)
      · cases i with
        | zero => simp at h; exact .inl h.symm
        | succ i => exact h3 i s (by simpa using h)
  | .io zs :: A, .io us :: F, A', e => by
    cases q : ioB A F with
    | none => simp [ioB, q] at e
    | some B =>
      simp [ioB, q] at e
      subst e
      obtain ⟨h1, h2, h3⟩ := ioB_get q
      refine ⟨congrArg Nat.succ h1, fun i xs h => ?_, fun i s h => ?_⟩
      · cases i with
        | zero => exact ⟨us, rfl⟩
        | succ i => exact h2 i xs (by simpa using h)
      · cases i with
        | zero => simp at h; exact .inr ⟨us, zs, h.symm, rfl, rfl⟩
        | succ i => exact h3 i s (by simpa using h)
section
variable {K : PySem.W.Frag} {wh wh' : Who} {H H' : Hp} {A F A' : Fm} {vs : List V} {σ : L2.St}
/-- own lists of the body are nobody's behind it -/
def endW (wh : Who) : Who := fun a => match wh a with
  | .sl _ => .no
  | t => t
theorem endW.sh {a : Addr} : endW wh a = .sh ↔ wh a = .sh := by
  unfold endW
  cases wh a <;> simp
theorem endW.io {a : Addr} {i : Nat} : endW wh a = .io i ↔ wh a = .io i := by
  unfold endW
  cases wh a <;> simp
theorem body_io (r : Rl K wh H A (vs.map some)) (x : Ext wh H wh' H') (r' : Rl K wh' H' F σ) {i : Nat} {ys : List D} {zs : List D} (hA : A[i]? = some (.io zs)) (hF : F[i]? = some (.io ys)) :
    ∃ a us, (vs.map some)[i]? = some (some (.ref a)) ∧ wh a = .io i ∧ wh' a = .io i ∧ H' a = some (.lst us) ∧ RepL K wh' H' ys us := by
  obtain ⟨a, us, g1, g2, g3, g4⟩ := r'.rs i _ hF
  have h := x.io a i g2
  obtain ⟨xs, e1, e2⟩ := r.ownI a i h
  exact ⟨a, us, e2, h, g2, g3, g4⟩
theorem body_out (r : Rl K wh H A (vs.map some)) (hA : ∀ (i : Nat) (xs : List D), A[i]? ≠ some (.ow xs)) (x : Ext wh H wh' H') (r' : Rl K wh' H' F σ) (e : ioB A F = some A') :
    Ext wh H (endW wh') H' ∧ Rl K (endW wh') H' A' (vs.map some) := by
  obtain ⟨h1, h2, h3⟩ := ioB_get e
  refine ⟨⟨x.keep, x.keepI, fun a h => endW.sh.mpr (x.shr a h), fun a h n => ?_, x.dom, x.src, fun a i h => x.io a i (endW.io.mp h)⟩, ?_⟩
  · unfold endW
    rw [x.tmp a h n]
  refine ⟨by rw [r.len, h1], fun i s hs => ?_, fun a i h => ?_, fun a i h => ?_, fun a h => ?_⟩
  · rcases h3 i s hs with rfl | ⟨ys, xs, rfl, e1, e2⟩
    · trivial
    · obtain ⟨a, us, g1, g2, g3, g4, g5⟩ := body_io r x r' e1 e2
      exact ⟨a, us, g1, endW.io.mpr g3, g4, RepL.rel (fun a h => endW.sh.mpr h) g5⟩
  · unfold endW at h
    cases q : wh' a <;> rw [q] at h <;> cases h
  · have h := endW.io.mp h
    obtain ⟨xs, e1, e2⟩ := r.ownI a i (x.io a i h)
    have hi : i < A'.length := by
      rw [h1]
      by_cases z : i < A.length
      · exact z
      · rw [List.getElem?_eq_none (by omega)] at e1; cases e1
    rcases h3 i _ (List.getElem?_eq_getElem hi) with z | ⟨ys, zs, z, _⟩
    · obtain ⟨ys, q⟩ := h2 i xs e1
      exfalso
      clear h2 h3
      have : ∀ {A F A' : Fm} {i : Nat} {xs : List D}, ioB A F = some A' → A[i]? = some (.io xs) → A'[i]? ≠ some .un := by
        intro A F A' i xs e h
        revert h
        induction A generalizing F A' i with
        | nil => intro h; simp at h
        | cons s A ih =>
          cases F with
          | nil => cases s <;> simp [ioB] at e
          | cons t F =>
            cases s with
            | un => simp [ioB] at e
            | ow _ => simp [ioB] at e
            | sh d =>
              cases q : ioB A F with
              | none => simp [ioB, q] at e
              | some B =>
                simp [ioB, q] at e
                subst e
                cases i with
                | zero => intro h; simp at h
                | succ i => intro h; simpa using ih q (by simpa using h)
            | io zs =>
              cases t with
              | un => simp [ioB] at e
              | ow _ => simp [ioB] at e
              | sh _ => simp [ioB] at e
              | io us =>
                cases q : ioB A F with
                | none => simp [ioB, q] at e
                | some B =>
                  simp [ioB, q] at e
                  subst e
                  cases i with
                  | zero => intro _; simp
                  | succ i => intro h; simpa using ih q (by simpa using h)
      exact this e e1 (by rw [List.getElem?_eq_getElem hi, z])
    · exact ⟨ys, by rw [List.getElem?_eq_getElem hi, z], e2⟩
  · refine r'.dom a fun z => h ?_
    unfold endW
    rw [z]
end
/-- the frame at its entry -/
theorem Rl.start {K : PySem.W.Frag} {wh : Who} {H : Hp} {A : Fm} {vs : List V} (r : Rl K wh H A (vs.map some)) (n : Nat) : Rl K wh H (A ++ List.replicate n .un) (vs.map some ++ List.replicate n none) where
  len := by rw [List.length_append, List.length_append, r.len, List.length_replicate, List.length_replicate]
  rs := fun i s h => by
    by_cases z : i < A.length
    · rw [List.getElem?_append_left z] at h
      have q := r.rs i s h
      have e : (vs.map some ++ List.replicate n none)[i]? = (vs.map some)[i]? := List.getElem?_append_left (by rw [r.len]; exact z)
      cases s with
      | un => trivial
      | sh d => obtain ⟨v, h1, h2⟩ := q; exact ⟨v, e.trans h1, h2⟩
      | ow xs => obtain ⟨a, us, h1, h2⟩ := q; exact ⟨a, us, e.trans h1, h2⟩
      | io xs => obtain ⟨a, us, h1, h2⟩ := q; exact ⟨a, us, e.trans h1, h2⟩
    · rw [List.getElem?_append_right (by omega)] at h
      have : s = .un := by
        rw [List.getElem?_replicate] at h
        split at h
        · cases h; rfl
        · cases h
      rw [this]
      trivial
  own := fun a i h => by
    obtain ⟨xs, e1, e2⟩ := r.own a i h
    have z : i < A.length := by
      by_cases z : i < A.length
      · exact z
      · rw [List.getElem?_eq_none (by omega)] at e1; cases e1
    exact ⟨xs, by rw [List.getElem?_append_left z]; exact e1, by rw [List.getElem?_append_left (by rw [r.len]; exact z)]; exact e2⟩
  ownI := fun a i h => by
    obtain ⟨xs, e1, e2⟩ := r.ownI a i h
    have z : i < A.length := by
      by_cases z : i < A.length
      · exact z
      · rw [List.getElem?_eq_none (by omega)] at e1; cases e1
    exact ⟨xs, by rw [List.getElem?_append_left z]; exact e1, by rw [List.getElem?_append_left (by rw [r.len]; exact z)]; exact e2⟩
  dom := r.dom
/-- THE BODY: from the promise to what the statements want -/
theorem body_ok {K : PySem.W.Frag} {mg : Str → Option Value} {Γ : Tb} {np n : Nat} {b : Ss} {vs : List V} {H : Hp} {Q : VK} {E : XK} (h : spM K mg np (fnOf Γ np n b) vs H Q E) :
    tS ⟨K, mg, fun cl d _ H' => E cl d H'⟩ (b.den Γ) { nx := fun _ H' => Q .non H', rt := Q } (vs.map some ++ List.replicate (n - vs.length) none) H := by
  obtain ⟨hl, wh, A, r, hA, h⟩ := h
  have hl2 : A.length = np := by rw [← hl, ← r.len, List.length_map]
  refine ⟨wh, A ++ List.replicate (n - vs.length) .un, r.start _, ?_⟩
  unfold fnOf at h
  rw [if_pos hl2] at h
  rw [hl]
  cases q : b.den Γ (A ++ List.replicate (n - np) .un) with
  | next F =>
    rw [q] at h
    obtain ⟨A', e, h⟩ := okW.ofO h
    intro σ' wh' H' x r'
    obtain ⟨y, r2⟩ := body_out r hA x r' e
    exact h _ _ y r2 .non (fun j z => nomatch z) .non
  | brk F => rw [q] at h; exact h.elim
  | cnt F => rw [q] at h; exact h.elim
  | bad => rw [q] at h; exact h.elim
  | ex ee F =>
    rw [q] at h
    obtain ⟨A', e, h⟩ := okW.ofO h
    intro σ' wh' H' cl d x r' ⟨c, k1, k2, k3⟩
    obtain ⟨y, r2⟩ := body_out r hA x r' e
    exact h _ _ cl d y r2 ⟨c, k1, k2, k3.imp id fun ⟨a, fs, j1, j2, j3, j4⟩ => ⟨a, fs, j1, j2, j3, RepL.rel (fun a h => endW.sh.mpr h) j4⟩⟩
  | ret rv F =>
    rw [q] at h
    intro σ' wh' H' v x r' hv
    cases rv with
    | sh d =>
      obtain ⟨A', e, h⟩ := okW.ofO h
      obtain ⟨y, r2⟩ := body_out r hA x r' e
      exact h _ _ y r2 v (fun j z => nomatch z) (Rep.rel (fun a h => endW.sh.mpr h) hv)
    | fr xs =>
      obtain ⟨A', e, h⟩ := okW.ofO h
      obtain ⟨y, r2⟩ := body_out r hA x r' e
      obtain ⟨a, us, e1, e2, e3, e4, e5⟩ := hv
      exact h _ _ y r2 v (fun j z => nomatch z) ⟨a, us, e1, e2, by unfold endW; rw [e3], e4, RepL.rel (fun a h => endW.sh.mpr h) e5⟩
    | ow i =>
      obtain ⟨A', e, h⟩ := okW.ofO h
      obtain ⟨y, r2⟩ := body_out r hA x r' e
      split at h
      · rename_i xs hF
        obtain ⟨a, us, g1, g2, g3, g4⟩ := r'.rs i _ hF
        have hv : σ'[i]? = some (some v) := hv
        rw [g1] at hv
        cases hv
        have hn : H a = none := by
          cases z : H a with
          | none => rfl
          | some o =>
            exfalso
            have zn : H a ≠ none := by rw [z]; exact fun z => nomatch z
            cases w : wh a with
            | no => rw [x.tmp a w zn] at g2; cases g2
            | sh => rw [x.shr a w] at g2; cases g2
            | sl j =>
              obtain ⟨zs, k, _⟩ := r.own a j w
              exact hA j zs k
            | io j =>
              obtain ⟨zs, k1, k2⟩ := r.ownI a j w
              obtain ⟨ys, k3⟩ := (ioB_get e).2.1 j zs k1
              obtain ⟨a', us', j1, j2, j3, j4, j5⟩ := body_io r x r' k1 k3
              rw [k2] at j1
              cases j1
              rw [j3] at g2
              cases g2
        exact h _ _ y r2 _ (fun j z => nomatch z) ⟨a, us, rfl, hn, by unfold endW; rw [g2], g3, RepL.rel (fun a h => endW.sh.mpr h) g4⟩
      · exact h.elim
end Z

end
section
set_option Elab.async false
set_option linter.all false
set_option maxRecDepth 100000
namespace Z
open PySem PySem.Spec PyProof.Rows L2
/-! ### what stands around a body -/
structure Mx where
  N : List Str
  sc : Scope
  fb : Str → Bool
  nk : List Str
  kw : Nat → Option Kw
def FnAt (P : Program) (w : World) (K : PySem.W.Frag) (mg : Str → Option Value) (base : Heap) (A : Around) (nk : List Str) (kw : Nat → Option Kw) (x : Str) (fn : Fn) : Prop :=
  ∃ (f : Addr) (fd : FuncData) (ps : List Str) (k np : Nat), FnOk P w K mg base (L2.CX P w) k f fd ps (spM K mg np fn) ∧ Room k A ∧ mg x = some (.ref f) ∧ PySem.W.keepIn K (.ref f) = true ∧ (∀ A : Fm, A.length ≠ np → fn A = .bad) ∧
    (x ∉ nk → Binds K fd ps []) ∧ ∀ c q, kw c = some q → q.f = x → ∃ (g : List Value → List Value → List Value) (gV : List V → List V → List V), KBn K fd ps q.n q.ks g gV ∧
      ∀ (H0 : Hp) (wh : Who) (H : Hp) (σ : L2.St) (rs qs : List Rv) (vs zs : List V), RRL K H0 wh H σ rs (vs ++ zs) → vs.length = q.n → zs.length = q.ks.length → pickR rs q.ord = some qs → RRL K H0 wh H σ qs (gV vs zs)
def bltNames : List Str := ["len", "int", "ord", "tuple", "list", "all", "any", "max", "min", "range", "enumerate", "zip", "isinstance", "bool", "str"]
structure Envi (P : Program) (w : World) (K : PySem.W.Frag) (mg : Str → Option Value) (base : Heap) (A : Around) (Γ : Tb) (nk : List Str) : Prop where
  glb : ∀ x d, Γ.gc x = some d → ∃ v u, mg x = some u ∧ RelV v u ∧ ∀ wh H, Rep K wh H d v
  blt : ∀ x ∈ bltNames, mg x = none
  fn : ∀ x f, Γ.fn x = some f → FnAt P w K mg base A nk Γ.kw x f
structure Sit (X : Cx) (W : WX) (Γ : Tb) (m : Mx) : Prop where
  N : X.N = m.N
  nd : m.N.Nodup
  sc : X.env.scope = m.sc
  fb : ∀ x, m.fb x = true → X.fn x = true
  hc : X.calm = true
  hu : X.A.units + 64 < cLine
  tk : Takes X W
  kw : Γ.kw = m.kw
  env : Envi X.prog X.w X.K X.mg X.base X.A Γ m.nk
section
variable {X : Cx} {W : WX} {Γ : Tb} {m : Mx} {pos p : Pos} {x : Str} {e : Expr} {es : List Expr} {ms mz : Fm → Rs (List Rv)} {fn : Fn}
theorem Sit.gl (S : Sit X W Γ m) (h : m.sc.names.lookup x = some .globalImplicit) : Gl X x := by
  show X.env.scope.names.lookup x = _
  rw [S.sc]; exact h
/-! ### calls -/
theorem pe_callD (S : Sit X W Γ m) (F : FnAt X.prog X.w X.K X.mg X.base X.A m.nk Γ.kw x fn) (hx : x ∉ m.nk) (hg : Gl X x) (hdb : (x == ("__debug__" : Str)) = false) (ha : PA X (e :: es) (tA (cn X W) ms))
    (he : starEach (e :: es) X.env = (false, eval e X.env) :: starEach es X.env) (hpl : (backTo pos (starEach es X.env)).any (·.1) = false) :
    PE X (.Call (.Name x p) (e :: es) [] pos) (tX (cn X W) fun F => (ms F).bind fun rs F1 => callR fn rs F1) := by
  obtain ⟨f, fd, ps, k, np, ok, hr, hm, hk, hfn, hb, _⟩ := F
  refine (pe_callSD (dvs := []) (ds := []) ok hr hg hm hk (hb hx) .nil (passAt S.tk) ha hdb he hpl).imp fun σ H Q h => ?_
  obtain ⟨wh, F, rl, h⟩ := h
  refine ⟨wh, F, rl, okW.seq h fun rs F1 wh1 H1 x1 rl1 h1 vs hvs => ?_⟩
  show spM X.K X.mg np fn (vs ++ []) H1 Q (WE W σ)
  rw [List.append_nil]
  exact call_ok (C := cn X W) hfn rl1 hvs (h1.imp fun rv wh2 H2 x2 q v hv => q (x1.trans x2) v (RR.base x1 hv))
theorem RRL.app {K : PySem.W.Frag} {H0 : Hp} {wh : Who} {H : Hp} {σ : L2.St} : ∀ {rs qs : List Rv} {vs us : List V}, RRL K H0 wh H σ rs vs → RRL K H0 wh H σ qs us → RRL K H0 wh H σ (rs ++ qs) (vs ++ us)
  | _, _, _, _, .nil, s => s
  | _, _, _, _, .cons h r, s => .cons h (r.app s)
/-- run_fnN with a wish at the slots -/
theorem run_fnZ {CX : CXT} {k n : Nat} {f : Addr} {fd : FuncData} {ps ks : List Str} {sp : Sp} {E : XK} {g : List Value → List Value → List Value} {gV : List V → List V → List V} {pins : List (Addr × Obj)} {σ : L2.St} {H : Hp} {s : Shared} {Q : VK} {us ws : List Value} {vs zs : List V} (F : FnOk X.prog X.w X.K X.mg X.base CX k f fd ps sp) (hr : Room k X.A) (hb : KBn X.K fd ps n ks g gV) (hx : PassesAt CX X σ E)
    (I : L2.Inv X pins σ H s) (r : Vals vs us) (rz : Vals zs ws) (l1 : vs.length = n) (l2 : zs.length = ks.length) (h : sp (gV vs zs) H Q E) : wpAny (model X.prog X.w) X.A (call (.ref f) us (ks.zip ws)) (EP X pins σ Q) X.xe s := by
  have r2 := hb.rel r rz
  refine wpAny_call (codeAny_mono (F.run X.A X.stack s H ⟨us, ks.zip ws⟩ (g us ws) (gV vs zs) Q E hr I.env0 (hb.to s us ws I.kIn (r.length.symm.trans l1) (rz.length.symm.trans l2)) r2 h) fun r s' hq => ?_)
  cases r with
  | error e => exact hx pins H s e s' I hq
  | ok fl =>
    cases fl with
    | ret u => exact I.after hq
    | next => exact False.elim hq
    | brk => exact False.elim hq
    | cont => exact False.elim hq
theorem pe_callKD {kws : List Keyword} {c : Nat} {q : Kw} (S : Sit X W Γ m) (F : FnAt X.prog X.w X.K X.mg X.base X.A m.nk Γ.kw x fn) (hq : Γ.kw c = some q) (hx : q.f = x) (hg : Gl X x) (hdb : (x == ("__debug__" : Str)) = false)
    (ha : PA X (e :: es) (tA (cn X W) ms)) (hkw : PK X kws (tA (cn X W) mz)) (hall : (backToKw pos (keywordEach kws X.env)).all (·.1.isSome) = true) (hks : (backToKw pos (keywordEach kws X.env)).filterMap (·.1) = q.ks)
    (he : starEach (e :: es) X.env = (false, eval e X.env) :: starEach es X.env) (hpl : ((backTo pos (starEach (e :: es) X.env)).any (·.1) || (backToKw pos (keywordEach kws X.env)).any (·.1.isNone)) = false) :
    PE X (.Call (.Name x p) (e :: es) kws pos) (tX (cn X W) fun F => (ms F).bind fun rs F1 => (mz F1).bind fun zs F2 => if rs.length = q.n ∧ zs.length = q.ks.length then ofO (pickR (rs ++ zs) q.ord) fun qs => callR fn qs F2 else .bad) := by
  obtain ⟨f, fd, ps, k, np, ok, hr, hm, hk, hfn, _, hb⟩ := F
  obtain ⟨g, gV, kb, hp⟩ := hb c q hq hx
  refine ⟨fun pins s σ H Q I h => ?_⟩
  obtain ⟨wh, F, rl, h⟩ := h
  have h' : tA (cn X W) ms σ H fun vs H1 => tA (cn X W) mz σ H1 fun zs H2 => vs.length = q.n ∧ zs.length = q.ks.length ∧ spM X.K X.mg np fn (gV vs zs) H2 Q (WE W σ) := by
    refine ⟨wh, F, rl, okW.seq h fun rs F1 wh1 H1 x1 rl1 h1 vs hvs => ?_⟩
    refine ⟨wh1, F1, rl1, okW.seq h1 fun us F2 wh2 H2 x2 rl2 h2 zs hzs => ?_⟩
    split at h2
    · rename_i hl
      obtain ⟨l1, l2⟩ := hl
      obtain ⟨qs, e1, h2⟩ := okW.ofO h2
      have a1 : RRL X.K H wh2 H2 σ (rs ++ us) (vs ++ zs) := (hvs.mono x2).app (hzs.base x1)
      have m1 : vs.length = q.n := by rw [← hvs.length]; exact l1
      have m2 : zs.length = q.ks.length := by rw [← hzs.length]; exact l2
      refine ⟨m1, m2, call_ok (C := cn X W) hfn rl2 (hp H wh2 H2 σ _ _ _ _ a1 m1 m2 e1) (h2.imp fun rv wh3 H3 x3 k v hv => k (x2.trans x3) (x1.trans (x2.trans x3)) v (RR.base (x1.trans x2) hv))⟩
    · exact h2.elim
  refine wpAny_Call_Name_kw (ld_glob I hg hm ?_ hdb)
  refine PySem.W.callWith_KW (h₀ := X.base) I.ok.mod.kin hk hall (thn (ha.run pos pins s σ H _ I h') fun us s1 ⟨vs, H1, I1, r, q1⟩ => ?_) hpl he
  refine thn (hkw.run pos pins s1 σ H1 _ I1 q1) fun ws s2 ⟨zs, H2, I2, rz, l1, l2, q2⟩ => ⟨I2.kIn, ?_⟩
  rw [hks]
  exact run_fnZ ok hr kb (passAt S.tk σ) I2 r rz l1 l2 q2
theorem pe_callKD0 {kws : List Keyword} {c : Nat} {q : Kw} (S : Sit X W Γ m) (F : FnAt X.prog X.w X.K X.mg X.base X.A m.nk Γ.kw x fn) (hq : Γ.kw c = some q) (hx : q.f = x) (hg : Gl X x) (hdb : (x == ("__debug__" : Str)) = false)
    (hkw : PK X kws (tA (cn X W) mz)) (hall : (backToKw pos (keywordEach kws X.env)).all (·.1.isSome) = true) (hks : (backToKw pos (keywordEach kws X.env)).filterMap (·.1) = q.ks)
    (hpl : ((backTo pos (starEach [] X.env)).any (·.1) || (backToKw pos (keywordEach kws X.env)).any (·.1.isNone)) = false) :
    PE X (.Call (.Name x p) [] kws pos) (tX (cn X W) fun F => (mz F).bind fun zs F2 => if ([] : List Rv).length = q.n ∧ zs.length = q.ks.length then ofO (pickR ([] ++ zs) q.ord) fun qs => callR fn qs F2 else .bad) := by
  obtain ⟨f, fd, ps, k, np, ok, hr, hm, hk, hfn, _, hb⟩ := F
  obtain ⟨g, gV, kb, hp⟩ := hb c q hq hx
  refine ⟨fun pins s σ H Q I h => ?_⟩
  obtain ⟨wh, F, rl, h⟩ := h
  have h' : tA (cn X W) mz σ H fun zs H2 => ([] : List V).length = q.n ∧ zs.length = q.ks.length ∧ spM X.K X.mg np fn (gV [] zs) H2 Q (WE W σ) := by
    refine ⟨wh, F, rl, okW.seq h fun us F2 wh2 H2 x2 rl2 h2 zs hzs => ?_⟩
    split at h2
    · rename_i hl
      obtain ⟨l1, l2⟩ := hl
      obtain ⟨qs, e1, h2⟩ := okW.ofO h2
      have m2 : zs.length = q.ks.length := by rw [← hzs.length]; exact l2
      refine ⟨l1, m2, call_ok (C := cn X W) hfn rl2 (hp H wh2 H2 σ _ _ [] _ hzs l1 m2 e1) (h2.imp fun rv wh3 H3 x3 k v hv => k (x2.trans x3) v (RR.base x2 hv))⟩
    · exact h2.elim
  refine wpAny_Call_Name_kw (ld_glob I hg hm ?_ hdb)
  refine PySem.W.callWith_KW0 (h₀ := X.base) I.ok.mod.kin hk hall ?_ hpl
  refine thn (hkw.run pos pins s σ H _ I h') fun ws s2 ⟨zs, H2, I2, rz, l1, l2, q2⟩ => ⟨I2.kIn, ?_⟩
  rw [hks]
  exact run_fnZ ok hr kb (passAt S.tk σ) I2 .nil rz l1 l2 q2
theorem pk_nilD : PK X [] (tA (cn X W) fun F => .ok [] F) := ⟨fun pos pins s σ H Q I h => pk_nil.run pos pins s σ H Q I (by
  obtain ⟨wh, F, rl, h⟩ := h
  exact h.ret rl _ .nil)⟩
theorem pk_consD {nm : Option Str} {kpos : Pos} {kws : List Keyword} {ma : Fm → Rs Rv} (ha : PE X e (tX (cn X W) ma)) (hs : PK X kws (tA (cn X W) ms)) :
    PK X (⟨nm, e, kpos⟩ :: kws) (tA (cn X W) fun F => (ma F).bind fun rv F1 => (ms F1).bind fun rs F2 => .ok (rv :: rs) F2) := ⟨fun pos pins s σ H Q I h => (pk_cons ha hs).run pos pins s σ H Q I (by
  obtain ⟨wh, F, rl, h⟩ := h
  refine ⟨wh, F, rl, okW.seq h fun r1 F1 wh1 H1 x1 rl1 h1 v1 hv1 => ?_⟩
  refine ⟨wh1, F1, rl1, okW.seq h1 fun rs F2 wh2 H2 x2 rl2 h2 vs hvs => ?_⟩
  exact h2.ret rl2 x2 (x1.trans x2) _ (.cons (hv1.mono x2) (hvs.base x1)))⟩
/-! ### isinstance -/
def tyN : D → String
  | .non => "NoneType" | .bl _ => "bool" | .int _ => "int" | .str _ => "str" | .tup _ => "tuple" | .lst _ => "list" | .fz _ => "list"
theorem isi_kit {K : PySem.W.Frag} {d : D} {cs : List String} {b : Bool} (hb : isiD d cs = some b) : PySem.W.kitAny K (.type (tyN d)) (cs.map .type) = some b := by
  have one : ∀ c, ["list", "tuple", "int", "bool", "str"].contains c = true → c = "list" ∨ c = "tuple" ∨ c = "int" ∨ c = "bool" ∨ c = "str" := fun c h => by simpa using h
  have all : ∀ (t : String) (f : String → Bool), (∀ c, ["list", "tuple", "int", "bool", "str"].contains c = true → PySem.W.kitOne K (.type t) (.type c) = some (f c)) → ∀ cs : List String,
      (if cs.all (fun c => ["list", "tuple", "int", "bool", "str"].contains c) then some (cs.any f) else none) = some b → PySem.W.kitAny K (.type t) (cs.map .type) = some b := fun t f hf cs hb => by
    split at hb
    · rename_i ha
      cases hb
      clear hb
      induction cs with
      | nil => rfl
      | cons c cs ih =>
        rw [List.all_cons, Bool.and_eq_true] at ha
        have e := hf c ha.1
        show (match PySem.W.kitOne K (.type t) (.type c) with
          | some true => some true
          | some false => PySem.W.kitAny K (.type t) (cs.map .type)
          | none => none) = some ((c :: cs).any f)
        rw [e, List.any_cons]
        cases q : f c with
        | true => rfl
        | false => exact ih ha.2
    · cases hb
  cases d with
  | non =>
    have hb : (if cs.all (fun c => ["list", "tuple", "int", "bool", "str"].contains c) then some false else none) = some b := hb
    refine all "NoneType" (fun _ => false) (fun c h => ?_) cs ?_
    · rcases one c h with rfl | rfl | rfl | rfl | rfl <;> rfl
    · rw [← hb]
      have : cs.any (fun _ => false) = false := by induction cs <;> simp_all
      rw [this]
  | bl x => exact all "bool" (fun c => c == "bool" || c == "int") (fun c h => by rcases one c h with rfl | rfl | rfl | rfl | rfl <;> rfl) cs hb
  | int x => exact all "int" (fun c => c == "int") (fun c h => by rcases one c h with rfl | rfl | rfl | rfl | rfl <;> rfl) cs hb
  | str x => exact all "str" (fun c => c == "str") (fun c h => by rcases one c h with rfl | rfl | rfl | rfl | rfl <;> rfl) cs hb
  | tup xs => exact all "tuple" (fun c => c == "tuple") (fun c h => by rcases one c h with rfl | rfl | rfl | rfl | rfl <;> rfl) cs hb
  | lst xs => exact all "list" (fun c => c == "list") (fun c h => by rcases one c h with rfl | rfl | rfl | rfl | rfl <;> rfl) cs hb
  | fz _ => cases hb
theorem Rep.ty {K : PySem.W.Frag} {wh : Who} {H : Hp} {d : D} {v : V} (h : Rep K wh H d v) (hb : ∀ xs, d ≠ .fz xs) : TyX K H v (.type (tyN d)) := by
  cases h with
  | non => exact .base .non
  | bl x => exact .base (.bl x)
  | int x => exact .base (.int x)
  | str x => exact .base (.str x)
  | tup hs r =>
    rcases hs with (hs | ⟨o, hs⟩) | hs
    · exact .base (.tup hs)
    · exact .fTuple hs
    · obtain ⟨o, its, n, h1, h2, _⟩ := hs
      exact .kTuple h1 h2
  | lst hs hH r => exact .base (.lst hH)
  | fz _ _ => exact absurd rfl (hb _)
end
end Z

end
section
set_option Elab.async false
set_option linter.all false
set_option maxRecDepth 100000
namespace Z
open PySem PySem.Spec PyProof.Rows L2
/-! ### isinstance, as written -/
def tyOk (c : String) : Bool := c == "list" || c == "tuple" || c == "int" || c == "bool" || c == "str"
theorem tyOk_cases {c : String} (h : tyOk c = true) : c = "list" ∨ c = "tuple" ∨ c = "int" ∨ c = "bool" ∨ c = "str" := by
  unfold tyOk at h
  simp only [Bool.or_eq_true, beq_iff_eq] at h
  rcases h with (((h | h) | h) | h) | h
  · exact .inl h
  · exact .inr (.inl h)
  · exact .inr (.inr (.inl h))
  · exact .inr (.inr (.inr (.inl h)))
  · exact .inr (.inr (.inr (.inr h)))
def mGl (m : Mx) (x : Str) : Bool := match m.sc.names.lookup x with
  | some .globalImplicit => true
  | _ => false
def tyL (m : Mx) : List String → List Expr → Bool
  | [], [] => true
  | c :: cs, .Name x _ :: es => decide (x = Str.ofString c) && mGl m x && tyOk c && tyL m cs es
  | _, _ => false
section
variable {X : Cx} {W : WX} {Γ : Tb} {m : Mx} {pos p : Pos} {x : Str} {e a : Expr} {es : List Expr} {ma : Fm → Rs Rv}
theorem mGl_ok (S : Sit X W Γ m) (h : mGl m x = true) : Gl X x := by
  unfold mGl at h
  split at h
  · rename_i q; exact S.gl q
  · cases h
theorem pe_tyN (S : Sit X W Γ m) {c : String} (hx : x = Str.ofString c) (hg : mGl m x = true) (hc : tyOk c = true) : PE X (.Name x p) (tC (.ty c)) := by
  subst hx
  rcases tyOk_cases hc with rfl | rfl | rfl | rfl | rfl
  · exact pe_bltn (mGl_ok S hg) (S.env.blt _ (by decide +kernel)) (u := .type "list") (by decide +kernel) rfl (by decide +kernel) (by decide +kernel)
  · exact pe_bltn (mGl_ok S hg) (S.env.blt _ (by decide +kernel)) (u := .type "tuple") (by decide +kernel) rfl (by decide +kernel) (by decide +kernel)
  · exact pe_bltn (mGl_ok S hg) (S.env.blt _ (by decide +kernel)) (u := .type "int") (by decide +kernel) rfl (by decide +kernel) (by decide +kernel)
  · exact pe_bltn (mGl_ok S hg) (S.env.blt _ (by decide +kernel)) (u := .type "bool") (by decide +kernel) rfl (by decide +kernel) (by decide +kernel)
  · exact pe_bltn (mGl_ok S hg) (S.env.blt _ (by decide +kernel)) (u := .type "str") (by decide +kernel) rfl (by decide +kernel) (by decide +kernel)
def tTys (cs : List String) : TA := fun _ H Q => Q (cs.map V.ty) H
theorem pa_tys (S : Sit X W Γ m) : ∀ {cs : List String} {es : List Expr}, tyL m cs es = true → PA X es (tTys cs)
  | [], [], _ => pa_nil.imp fun σ H Q h => h
  | c :: cs, .Name x p :: es, h => by
    simp only [tyL, Bool.and_eq_true, decide_eq_true_eq] at h
    obtain ⟨⟨⟨h1, h2⟩, h3⟩, h4⟩ := h
    exact (pa_cons (pe_tyN S h1 h2 h3) (pa_tys S h4) rfl).imp fun σ H Q h => h
  | [], _ :: _, h => by cases h
  | _ :: _, [], h => by cases h
theorem tyL_len : ∀ {cs : List String} {es : List Expr}, tyL m cs es = true → cs.all tyOk = true
  | [], [], _ => rfl
  | c :: cs, .Name x p :: es, h => by
    simp only [tyL, Bool.and_eq_true, decide_eq_true_eq] at h
    obtain ⟨⟨⟨h1, h2⟩, h3⟩, h4⟩ := h
    rw [List.all_cons, h3, tyL_len h4]
    rfl
  | [], _ :: _, h => by cases h
  | _ :: _, [], h => by cases h
theorem pairTy : ∀ cs : List String, Paired ClsV (cs.map V.ty) (cs.map Value.type)
  | [] => .nil
  | c :: cs => .cons (.ty c) (pairTy cs)
/-- a value's class, by its result -/
theorem RR.ty {K : PySem.W.Frag} {H0 : Hp} {wh : Who} {H : Hp} {F : Fm} {σ : L2.St} {rv : Rv} {v : V} {cs : List String} {C : Cn} {P : Rv → Who → Hp → Prop} (r : Rl K wh H F σ) (hv : RR K H0 wh H σ rv v) (h : okW C wh H σ (isiR rv cs F) P) :
    ∃ t b, TyX K H v (.type t) ∧ PySem.W.kitAny K (.type t) (cs.map .type) = some b ∧ okW C wh H σ (okS (.bl b) F) P := by
  have lst : ∀ {a : Addr} {vs : List V}, H a = some (.lst vs) → v = .ref a → okW C wh H σ (ofO (isiD (.lst []) cs) fun b => okS (.bl b) F) P → ∃ t b, TyX K H v (.type t) ∧ PySem.W.kitAny K (.type t) (cs.map .type) = some b ∧ okW C wh H σ (okS (.bl b) F) P := fun {a vs} hH e h => by
    obtain ⟨b, hb, h⟩ := okW.ofO h
    subst e
    exact ⟨"list", b, .base (.lst hH), isi_kit (d := .lst []) hb, h⟩
  cases rv with
  | sh d =>
    obtain ⟨b, hb, h⟩ := okW.ofO h
    exact ⟨tyN d, b, Rep.ty hv (fun xs z => by subst z; cases hb), isi_kit hb, h⟩
  | fr xs =>
    obtain ⟨a, vs, e, _, _, hH, _⟩ := hv
    exact lst hH e h
  | ow i =>
    have h : okW C wh H σ (match ownAt F i with
      | some _ => ofO (isiD (.lst []) cs) fun b => okS (.bl b) F
      | none => .bad) P := h
    cases q : ownAt F i with
    | none => rw [q] at h; exact h.elim
    | some xs =>
      rw [q] at h
      obtain ⟨s, a, vs, g1, g2, g3, g4, g5, g6⟩ := ownAt_ok r q
      have hv : σ[i]? = some (some v) := hv
      rw [g3] at hv
      cases hv
      exact lst g5 rfl h
theorem tyAt {K : PySem.W.Frag} {H : Hp} {v : V} {t : Value} {p : Addr} {o : HO} (h : TyX K H v t) (n : H p = none) : TyX K (upd H p o) v t := by
  have k : ∀ {a : Addr} {o' : HO}, H a = some o' → upd H p o a = some o' := fun {a o'} e => by
    rw [upd_ne (fun z => by subst z; rw [n] at e; cases e)]; exact e
  cases h with
  | base q =>
    cases q with
    | non => exact .base .non
    | bl x => exact .base (.bl x)
    | int x => exact .base (.int x)
    | str x => exact .base (.str x)
    | flt x => exact .base (.flt x)
    | lst e => exact .base (.lst (k e))
    | frz e => exact .base (.frz (k e))
    | tup e => exact .base (.tup (k e))
    | dK e => exact .base (.dK (k e))
    | dT e => exact .base (.dT (k e))
    | ins e cl ha hn htk hm => exact .base (.ins (k e) cl ha hn htk hm)
  | byt x => exact .byt x
  | set e => exact .set (k e)
  | kList e c => exact .kList e c
  | kTuple e c => exact .kTuple e c
  | kDict e c => exact .kDict e c
  | fTuple e => exact .fTuple (k e)
  | fDict e => exact .fDict (k e)
/-- isinstance(a, (c, ..)) -/
theorem pe_isiD {cs : List String} {k : Nat} {tp : Pos} (S : Sit X W Γ m) (ha : PE X a (tX (cn X W) ma)) (hg : mGl m "isinstance" = true) (hc : tyL m cs es = true) (hl : lineK cs.length = true) (hs : starEach [a, .Tuple es k tp] X.env = (false, eval a X.env) :: starEach [.Tuple es k tp] X.env) :
    PE X (.Call (.Name "isinstance" p) [a, .Tuple es k tp] [] pos) (tX (cn X W) fun F => (ma F).bind fun r F1 => isiR r cs F1) := by
  refine (pe_callB (x := "isinstance") call_isiT (mGl_ok S hg) (S.env.blt _ (by decide +kernel)) (by decide +kernel) (pa_cons ha (pa_cons (pe_tup (x1 := k) (pos := tp) (pa_tys S hc)) pa_nil rfl) hs) (by decide +kernel) (by decide +kernel) hs rfl).imp fun σ H Q h => ?_
  obtain ⟨wh, F, rl, h⟩ := h
  refine ⟨wh, F, rl, okW.seq h fun r F1 wh1 H1 x1 rl1 h1 v hv => ?_⟩
  obtain ⟨t, b, k1, k2, k3⟩ := RR.ty rl1 hv h1
  refine ⟨by rw [List.length_map]; exact (by rw [sizeLine_eq]; exact of_decide_eq_true hl), fun q n => ?_⟩
  exact ⟨v, q, cs.map V.ty, .type t, cs.map .type, b, rfl, upd_same, pairTy cs, tyAt k1 n, k2, (k3 wh1 _ (rl1.ext_new n) (rl1.new n)) (x1.trans (rl1.ext_new n)) _ (Rep.bl b)⟩
/-- isinstance(a, c) -/
theorem pe_isi1 {c : String} (S : Sit X W Γ m) (ha : PE X a (tX (cn X W) ma)) (hg : mGl m "isinstance" = true) (hx : x = Str.ofString c) (hgx : mGl m x = true) (hc : tyOk c = true) {tp : Pos} (hs : starEach [a, .Name x tp] X.env = (false, eval a X.env) :: starEach [.Name x tp] X.env) :
    PE X (.Call (.Name "isinstance" p) [a, .Name x tp] [] pos) (tX (cn X W) fun F => (ma F).bind fun r F1 => isiR r [c] F1) := by
  refine (pe_callB (x := "isinstance") call_isi (mGl_ok S hg) (S.env.blt _ (by decide +kernel)) (by decide +kernel) (pa_cons ha (pa_cons (pe_tyN S hx hgx hc) pa_nil rfl) hs) (by decide +kernel) (by decide +kernel) hs rfl).imp fun σ H Q h => ?_
  obtain ⟨wh, F, rl, h⟩ := h
  refine ⟨wh, F, rl, okW.seq h fun r F1 wh1 H1 x1 rl1 h1 v hv => ?_⟩
  obtain ⟨t, b, k1, k2, k3⟩ := RR.ty rl1 hv h1
  refine ⟨v, .ty c, .type t, .type c, b, rfl, .ty c, k1, ?_, (k3.ret rl1) x1 _ (Rep.bl b)⟩
  have k2 : (match PySem.W.kitOne X.K (.type t) (.type c) with
    | some true => some true
    | some false => some false
    | none => none) = some b := k2
  cases q : PySem.W.kitOne X.K (.type t) (.type c) with
  | none => rw [q] at k2; cases k2
  | some z => rw [q] at k2; cases z <;> exact k2
end
end Z

end
section
set_option Elab.async false
set_option linter.all false
set_option maxRecDepth 100000
namespace Z
open PySem PySem.Spec PyProof.Rows L2
/-! ### the written expression that a meaning belongs to -/
def mNm (m : Mx) (i : Nat) (x : Str) : Bool := decide (m.N[i]? = some x)
def mVis (m : Mx) (x : Str) : Bool := match m.sc.names.lookup x with
  | some .local => true | some .cell => true | some .free => true | _ => false
def mLoc (m : Mx) (x : Str) : Bool := match m.sc.names.lookup x with
  | some .local => true | some .cell => m.fb x | _ => false
def mNd (x : Str) : Bool := !(x == ("__debug__" : Str)) && !(x == ("__classdict__" : Str))
def mVar (m : Mx) (i : Nat) (x : Str) : Bool := mNm m i x && mVis m x && mNd x
def noStar : Expr → Bool
  | .Starred _ _ => false
  | _ => true
def noSlice : Expr → Bool
  | .Slice _ _ _ _ => false
  | _ => true
def noSet : Expr → Bool
  | .Set _ _ _ => false
  | _ => true
def plainT : Expr → Bool
  | .UnaryOp _ _ _ => false | .BoolOp _ _ _ => false | .IfExp _ _ _ _ => false | .Compare _ _ _ _ => false | _ => true
def isTup : Expr → Bool
  | .Tuple _ _ _ => true
  | _ => false
def kwNm : List Keyword → Option (List Str)
  | [] => some []
  | ⟨some x, _, _⟩ :: ks => (kwNm ks).map (x :: ·)
  | ⟨none, _, _⟩ :: _ => none
def Tgt.mat (m : Mx) : Tgt → Expr → Bool
  | .name i, .Name x _ => mNm m i x && mLoc m x
  | .tup is, .Tuple es _ _ => go is es
  | _, _ => false
where go : List Nat → List Expr → Bool
  | [], [] => true
  | i :: is, .Name x _ :: es => mNm m i x && mLoc m x && go is es
  | _, _ => false
def blkSc (sc scope : Scope) : Scope := { scope with names := scope.names.map fun (n, k) => if (k == .free && sc.kind == .function && sc.names.lookup n == some .cell) then (n, .cell) else (n, k) }
def Mx.blk (m : Mx) (scope : Scope) : Mx := { m with sc := blkSc m.sc scope, fb := fun x => scope.names.lookup x == some .cell }
def ownNm (m : Mx) (own : List Nat) : List (Str × Nat) := own.map fun i => (m.N.getD i "", i)
def tyOne (m : Mx) : List String → Str → Bool
  | [c], t => decide (t = Str.ofString c) && mGl m t && tyOk c
  | _, _ => false
mutual
def X.mat (m : Mx) : X → Expr → Bool
  | .var i, .Name x _ => mVar m i x
  | .int k, .Constant (.int k') _ _ => decide (k = k')
  | .bl b, .Constant (.bool b') _ _ => b == b'
  | .non, .Constant .none _ _ => true
  | .str s, .Constant (.str s') _ _ => decide (s = s')
  | .glb x, .Name x' _ => decide (x = x') && mGl m x && mNd x
  | .bin op a b, .BinOp a' op' b' _ => decide (op = op') && opOk op && a.mat m a' && b.mat m b'
  | .neg a, .UnaryOp .USub a' _ => a.mat m a'
  | .cmp op a b, .Compare a' [op'] [b'] _ => decide (op = op') && a.mat m a' && b.mat m b' && !behindInMarks op b'
  | .chn o1 o2 a b c, .Compare a' [p1, p2] [b', c'] _ => decide (o1 = p1) && decide (o2 = p2) && a.mat m a' && b.mat m b' && c.mat m c' && !lastMarks [o1, o2] [b', c']
  | .bl2 o xs, .BoolOp o' es _ => decide (o = o') && xs.mat m es
  | .not a, .UnaryOp .Not a' _ => a.mat m a'
  | .ife t a b, .IfExp t' a' b' _ => t.mat m t' && a.mat m a' && b.mat m b'
  | .tup xs, .Tuple es _ _ => xs.mat m es
  | .lst xs, .List es _ => xs.mat m es
  | .slc a lo hi, .Subscript a' (.Slice lo' hi' none _) _ => a.mat m a' && lo.mat m lo' && hi.mat m hi'
  | .idx a i, .Subscript a' i' _ => noSlice i' && a.mat m a' && i.mat m i'
  | .call f as, .Call (.Name x _) (e :: es) [] _ => decide (f = x) && mGl m x && mNd x && decide (x ∉ m.nk) && as.mat m (e :: es)
  | .callK c as kas, .Call (.Name x _) es kws _ => (match m.kw c with
    | some q => decide (q.f = x) && decide (kwNm kws = some q.ks)
    | none => false) && mGl m x && mNd x && as.mat m es && kas.matK m kws
  | .blt f xs, .Call (.Name x _) (e :: es) [] _ => decide (x = f.name) && mGl m x && xs.mat m (e :: es)
  | .isi a cs, .Call (.Name x _) [e, .Tuple ts _ _] [] _ => decide (x = "isinstance") && mGl m x && noStar e && tyL m cs ts && lineK cs.length && a.mat m e
  | .isi a cs, .Call (.Name x _) [e, .Name t _] [] _ => decide (x = "isinstance") && mGl m x && noStar e && a.mat m e && tyOne m cs t
  | .lc elt tg it ifs own, .ListComp e [⟨tge, iter, ie, 0⟩] scope _ => it.mat m tge iter && noSet iter && blkC m.N m.sc scope (ownNm m own) && tg.mat (m.blk scope) tge && ifs.mat (m.blk scope) ie && elt.mat (m.blk scope) e && tg.ix.all fun i => decide (i ∈ own)
  | _, _ => false
def Xs.mat (m : Mx) : Xs → List Expr → Bool
  | .nil, [] => true
  | .cons x xs, e :: es => noStar e && x.mat m e && xs.mat m es
  | _, _ => false
def Xo.mat (m : Mx) : Xo → Option Expr → Bool
  | .none, none => true
  | .some x, some e => x.mat m e
  | _, _ => false
def As.mat (m : Mx) : As → List Expr → Bool
  | .nil, [] => true
  | .sh x as, e :: es => noStar e && x.mat m e && as.mat m es
  | .io i as, .Name x _ :: es => mVar m i x && as.mat m es
  | _, _ => false
def As.matK (m : Mx) : As → List Keyword → Bool
  | .nil, [] => true
  | .sh x as, ⟨_, e, _⟩ :: es => x.mat m e && as.matK m es
  | .io i as, ⟨_, .Name x _, _⟩ :: es => mVar m i x && as.matK m es
  | _, _ => false
def T.mat (m : Mx) : T → Expr → Bool
  | .val x, e => plainT e && x.mat m e
  | .cmp op a b, .Compare a' [op'] [b'] _ => decide (op = op') && a.mat m a' && b.mat m b' && !behindInMarks op b'
  | .chn o1 o2 a b c, .Compare a' [p1, p2] [b', c'] _ => decide (o1 = p1) && decide (o2 = p2) && a.mat m a' && b.mat m b' && c.mat m c' && !lastMarks [o1, o2] [b', c']
  | .bl2 o xs, .BoolOp o' es _ => decide (o = o') && xs.mat m es
  | .not a, .UnaryOp .Not a' _ => a.mat m a'
  | _, _ => false
def Ts.mat (m : Mx) : Ts → List Expr → Bool
  | .nil, [] => true
  | .cons x xs, e :: es => x.mat m e && xs.mat m es
  | _, _ => false
def It.mat (m : Mx) : It → Expr → Expr → Bool
  | .seq x, _, e => x.mat m e
  | .rng1 a, _, .Call (.Name x _) [a'] [] _ => decide (x = "range") && mGl m x && noStar a' && a.mat m a'
  | .rng2 a b, _, .Call (.Name x _) [a', b'] [] _ => decide (x = "range") && mGl m x && noStar a' && noStar b' && a.mat m a' && b.mat m b'
  | .rng3 a b c, _, .Call (.Name x _) [a', b', c'] [] _ => decide (x = "range") && mGl m x && noStar a' && noStar b' && noStar c' && a.mat m a' && b.mat m b' && c.mat m c'
  | .enum a, .Tuple _ _ _, .Call (.Name x _) [a'] [] _ => decide (x = "enumerate") && mGl m x && noStar a' && a.mat m a'
  | .zip a b, .Tuple _ _ _, .Call (.Name x _) [a', b'] [] _ => decide (x = "zip") && mGl m x && noStar a' && noStar b' && a.mat m a' && b.mat m b'
  | _, _, _ => false
end
end Z

end
section
set_option Elab.async false
set_option linter.all false
set_option maxRecDepth 100000
namespace Z
open PySem PySem.Spec PyProof.Rows L2
theorem noB {b : Bool} {p : Prop} (h : b = true) (e : b = false) : p := by rw [e] at h; cases h
section
variable {Y : Cx} {W : WX} {Γ : Tb} {m : Mx}
theorem starEach_cons {e : Expr} {es : List Expr} {env : Env} (h : noStar e = true) : starEach (e :: es) env = (false, eval e env) :: starEach es env := by
  cases e <;> first | rfl | cases h
theorem backTo_no {pos : Pos} {env : Env} : ∀ {es : List Expr}, es.all noStar = true → (backTo pos (starEach es env)).any (·.1) = false
  | [], _ => rfl
  | e :: es, h => by
    rw [List.all_cons, Bool.and_eq_true] at h
    rw [starEach_cons h.1]
    show (false || (backTo pos (starEach es env)).any (·.1)) = false
    rw [backTo_no h.2]; rfl
theorem kwNm_ok {pos : Pos} {env : Env} : ∀ {kws : List Keyword} {ks : List Str}, kwNm kws = some ks → (backToKw pos (keywordEach kws env)).all (·.1.isSome) = true ∧ (backToKw pos (keywordEach kws env)).filterMap (·.1) = ks ∧ (backToKw pos (keywordEach kws env)).any (·.1.isNone) = false
  | [], ks, h => by cases h; exact ⟨rfl, rfl, rfl⟩
  | ⟨none, _, _⟩ :: _, ks, h => by cases h
  | ⟨some x, e, p⟩ :: kws, ks, h => by
    unfold kwNm at h
    cases q : kwNm kws with
    | none => rw [q] at h; cases h
    | some us =>
      rw [q] at h
      cases h
      obtain ⟨h1, h2, h3⟩ := kwNm_ok (pos := pos) (env := env) q
      refine ⟨?_, ?_, ?_⟩
      · show (true && (backToKw pos (keywordEach kws env)).all (·.1.isSome)) = true
        rw [h1]; rfl
      · show x :: (backToKw pos (keywordEach kws env)).filterMap (·.1) = x :: us
        rw [h2]
      · show (false || (backToKw pos (keywordEach kws env)).any (·.1.isNone)) = false
        rw [h3]; rfl
theorem mVar_ok (S : Sit Y W Γ m) {i : Nat} {x : Str} (h : mVar m i x = true) : Y.N[i]? = some x ∧ Vis Y.env.scope x ∧ (x == ("__debug__" : Str)) = false ∧ (x == ("__classdict__" : Str)) = false := by
  simp only [mVar, mNm, mNd, Bool.and_eq_true, decide_eq_true_eq, Bool.not_eq_true'] at h
  obtain ⟨⟨h1, h2⟩, h3, h4⟩ := h
  refine ⟨by rw [S.N]; exact h1, ?_, h3, h4⟩
  unfold mVis at h2
  unfold Vis
  rw [S.sc]
  split at h2
  · rename_i q; exact .inl q
  · rename_i q; exact .inr (.inl q)
  · rename_i q; exact .inr (.inr q)
  · cases h2
theorem mLoc_ok (S : Sit Y W Γ m) {x : Str} (h : mLoc m x = true) : L2.Loc Y.env.scope x ∧ (Y.fn x = true ∨ Y.env.scope.names.lookup x = some .local) := by
  unfold mLoc at h
  unfold L2.Loc
  rw [S.sc]
  split at h
  · rename_i q; exact ⟨.inl q, .inr q⟩
  · rename_i q; exact ⟨.inr q, .inl (S.fb _ h)⟩
  · cases h
theorem pg_nm (S : Sit Y W Γ m) {i : Nat} {x : Str} {p : Pos} (h1 : mNm m i x = true) (h2 : mLoc m x = true) : PG Y (.Name x p) (gName i) := by
  obtain ⟨l1, l2⟩ := mLoc_ok S h2
  have h1 : m.N[i]? = some x := of_decide_eq_true h1
  exact pg_name (by rw [S.N]; exact S.nd) (by rw [S.N]; exact h1) l1 l2
theorem pgs_ok (S : Sit Y W Γ m) : ∀ {is : List Nat} {es : List Expr}, Tgt.mat.go m is es = true → PGs Y es (gNames is) ∧ (assignEach es Y.env).length = is.length ∧ (assignEach es Y.env).findIdx? (·.1) = none
  | [], [], _ => ⟨pgs_nil, rfl, rfl⟩
  | i :: is, .Name x p :: es, h => by
    have h : (mNm m i x && mLoc m x && Tgt.mat.go m is es) = true := h
    simp only [Bool.and_eq_true] at h
    obtain ⟨⟨h1, h2⟩, h3⟩ := h
    obtain ⟨k1, k2, k3⟩ := pgs_ok S h3
    refine ⟨pgs_cons (pg_nm S h1 h2) k1 rfl, ?_, ?_⟩
    · show (assignEach es Y.env).length + 1 = is.length + 1
      rw [k2]
    · show List.findIdx? (·.1) ((false, assign (.Name x p) Y.env) :: assignEach es Y.env) = none
      rw [List.findIdx?_cons, k3]; rfl
  | [], _ :: _, h => noB h rfl
  | _ :: _, [], h => noB h rfl
  | i :: is, e :: es, h => by
    cases e with
    | Name x p =>
      have h : (mNm m i x && mLoc m x && Tgt.mat.go m is es) = true := h
      simp only [Bool.and_eq_true] at h
      obtain ⟨⟨h1, h2⟩, h3⟩ := h
      obtain ⟨k1, k2, k3⟩ := pgs_ok S h3
      refine ⟨pgs_cons (pg_nm S h1 h2) k1 rfl, ?_, ?_⟩
      · show (assignEach es Y.env).length + 1 = is.length + 1
        rw [k2]
      · show List.findIdx? (·.1) ((false, assign (.Name x p) Y.env) :: assignEach es Y.env) = none
        rw [List.findIdx?_cons, k3]; rfl
    | _ => exact noB h rfl
theorem tgt_ok (S : Sit Y W Γ m) {tg : Tgt} {e : Expr} (h : tg.mat m e = true) : PG Y e (tgR Y.K tg) := by
  cases tg with
  | name i =>
    cases e with
    | Name x p =>
      have h : (mNm m i x && mLoc m x) = true := h
      simp only [Bool.and_eq_true] at h
      exact pg_nm S h.1 h.2
    | _ => exact noB h rfl
  | tup is =>
    cases e with
    | Tuple es k p =>
      have h : Tgt.mat.go m is es = true := h
      obtain ⟨k1, k2, k3⟩ := pgs_ok S h
      exact pg_tup S.hc k1 k2 k3
    | _ => exact noB h rfl
/-- a block's surroundings -/
theorem Sit.blk (S : Sit Y W Γ m) (scope : Scope) (s : Shared) (H : Hp) (C : Addr) (cl : List (Str × Addr)) (fp : List Addr) : Sit (Y.blk s H scope (compEnvC scope cl C Y.env) fp) W0 Γ (m.blk scope) where
  N := S.N
  nd := S.nd
  sc := by
    show relabel scope Y.env = blkSc m.sc scope
    rw [← S.sc]
    rfl
  fb := fun x h => h
  hc := S.hc
  hu := S.hu
  tk := takes0
  kw := S.kw
  env := ⟨S.env.glb, S.env.blt, S.env.fn⟩
theorem tX_badD {C : Cn} {σ : L2.St} {H : Hp} {Q : VK} (h : tX C (fun _ => .bad) σ H Q) : False := h.elim fun _ h => h.elim fun _ h => h.2
theorem pe_badD {e : Expr} : PE Y e (tX (cn Y W) fun _ => .bad) := ⟨fun pins s σ H Q I h => (tX_badD h).elim⟩
theorem xs_stars : ∀ {xs : Xs} {es : List Expr}, xs.mat m es = true → es.all noStar = true
  | .nil, [], _ => rfl
  | .cons x xs, e :: es, h => by
    have h : (noStar e && x.mat m e && xs.mat m es) = true := h
    simp only [Bool.and_eq_true] at h
    rw [List.all_cons, h.1.1, xs_stars h.2]; rfl
  | .nil, _ :: _, h => noB h rfl
  | .cons _ _, [], h => noB h rfl
theorem as_stars : ∀ {as : As} {es : List Expr}, as.mat m es = true → es.all noStar = true
  | .nil, [], _ => rfl
  | .sh x as, e :: es, h => by
    have h : (noStar e && x.mat m e && as.mat m es) = true := h
    simp only [Bool.and_eq_true] at h
    rw [List.all_cons, h.1.1, as_stars h.2]; rfl
  | .io i as, e :: es, h => by
    cases e with
    | Name x p =>
      have h : (mVar m i x && as.mat m es) = true := h
      simp only [Bool.and_eq_true] at h
      rw [List.all_cons, as_stars h.2]; rfl
    | _ => exact noB h rfl
  | .nil, _ :: _, h => noB h rfl
  | .sh _ _, [], h => noB h rfl
  | .io _ _, [], h => noB h rfl
theorem noSet_ok {e : Expr} {env : Env} (h : noSet e = true) (x : Value) : foldedSetIterable e env x = pure x := by
  cases e <;> first | rfl | exact noB h rfl
theorem plainIx_ok {e : Expr} (h : noSlice e = true) : PlainIx e := fun o i => by
  cases e <;> first | rfl | exact noB h rfl
theorem plainT_ok {e : Expr} {env : Env} (h : plainT e = true) (whole : Sem Value) : isTrue e env whole = (do let v ← whole; standAt e.pos; holding [v] (truthy v)) := by
  cases e <;> first | rfl | exact noB h rfl
end
end Z

end
section
set_option Elab.async false
set_option linter.all false
set_option maxRecDepth 100000
namespace Z
open PySem PySem.Spec PyProof.Rows L2
theorem shM_den (Γ : Tb) (x : X) : (fun F => (x.den Γ F).bind fun rv F1 => (share rv F1).bind fun d F2 => ofO (itemsD d) fun ds => .ok ds F2) = seqI (x.den Γ) := rfl
theorem pa_len {Y : Cx} {es : List Expr} {t : TA} (h : PA Y es t) : True := trivial
mutual
theorem X.ok {Γ : Tb} : ∀ (x : X) {Y : Cx} {W : WX} {m : Mx} (_ : Sit Y W Γ m) (e : Expr), x.mat m e = true → PE Y e (tX (cn Y W) (x.den Γ))
  | .var i, Y, W, m, S, e, h => by
    cases e with
    | Name x p =>
      obtain ⟨h1, h2, h3, h4⟩ := mVar_ok S h
      exact pe_varD h1 h2 h3 h4 Γ
    | _ => exact noB h rfl
  | .int k, Y, W, m, S, e, h => by
    cases e with
    | Constant c j p =>
      cases c with
      | int k' =>
        have h : decide (k = k') = true := h
        rw [of_decide_eq_true h]
        exact pe_constD pe_int fun wh H => .int _
      | _ => exact noB h rfl
    | _ => exact noB h rfl
  | .bl k, Y, W, m, S, e, h => by
    cases e with
    | Constant c j p =>
      cases c with
      | bool k' =>
        have h : (k == k') = true := h
        rw [eq_of_beq h]
        exact pe_constD pe_bl fun wh H => .bl _
      | _ => exact noB h rfl
    | _ => exact noB h rfl
  | .non, Y, W, m, S, e, h => by
    cases e with
    | Constant c j p =>
      cases c with
      | none => exact pe_constD pe_non fun wh H => .non
      | _ => exact noB h rfl
    | _ => exact noB h rfl
  | .str k, Y, W, m, S, e, h => by
    cases e with
    | Constant c j p =>
      cases c with
      | str k' =>
        have h : decide (k = k') = true := h
        rw [of_decide_eq_true h]
        exact pe_constD pe_str fun wh H => .str _
      | _ => exact noB h rfl
    | _ => exact noB h rfl
  | .glb x, Y, W, m, S, e, h => by
    cases e with
    | Name x' p =>
      have h : (decide (x = x') && mGl m x && mNd x) = true := h
      simp only [Bool.and_eq_true, decide_eq_true_eq, mNd, Bool.not_eq_true'] at h
      obtain ⟨⟨rfl, h1⟩, h2, _⟩ := h
      cases q : Γ.gc x with
      | none =>
        refine (pe_badD (W := W)).imp fun σ H Q z => ?_
        obtain ⟨wh, F, rl, z⟩ := z
        have z : okW (cn Y W) wh H σ (ofO (Γ.gc x) fun d => okS d F) _ := z
        rw [q] at z
        exact z.elim
      | some d =>
        obtain ⟨v, u, k1, k2, k3⟩ := S.env.glb x d q
        refine (pe_constD (W := W) (pe_glob (mGl_ok S h1) k1 k2 h2) k3).imp fun σ H Q z => ?_
        obtain ⟨wh, F, rl, z⟩ := z
        have z : okW (cn Y W) wh H σ (ofO (Γ.gc x) fun d => okS d F) _ := z
        rw [q] at z
        exact ⟨wh, F, rl, z⟩
    | _ => exact noB h rfl
  | .bin op a b, Y, W, m, S, e, h => by
    cases e with
    | BinOp a' op' b' p =>
      have h : (decide (op = op') && opOk op && a.mat m a' && b.mat m b') = true := h
      simp only [Bool.and_eq_true, decide_eq_true_eq] at h
      obtain ⟨⟨⟨rfl, h1⟩, h2⟩, h3⟩ := h
      exact pe_bin h1 (X.ok a S a' h2) (X.ok b S b' h3)
    | _ => exact noB h rfl
  | .neg a, Y, W, m, S, e, h => by
    cases e with
    | UnaryOp o a' p =>
      cases o with
      | USub => exact pe_negD (X.ok a S a' h)
      | _ => exact noB h rfl
    | _ => exact noB h rfl
  | .not a, Y, W, m, S, e, h => by
    cases e with
    | UnaryOp o a' p =>
      cases o with
      | Not => exact pe_notD (X.ok a S a' h)
      | _ => exact noB h rfl
    | _ => exact noB h rfl
  | .cmp op a b, Y, W, m, S, e, h => by
    cases e with
    | Compare a' ops cs p =>
      rcases ops with _ | ⟨op', _ | ⟨o2, ops⟩⟩ <;> rcases cs with _ | ⟨b', _ | ⟨c', cs⟩⟩ <;> first | exact noB h rfl | skip
      have h : (decide (op = op') && a.mat m a' && b.mat m b' && !behindInMarks op b') = true := h
      simp only [Bool.and_eq_true, decide_eq_true_eq, Bool.not_eq_true'] at h
      obtain ⟨⟨⟨rfl, h1⟩, h2⟩, h3⟩ := h
      exact pe_cmpD S.hu (X.ok a S a' h1) (X.ok b S b' h2) h3
    | _ => exact noB h rfl
  | .chn o1 o2 a b c, Y, W, m, S, e, h => by
    cases e with
    | Compare a' ops cs p =>
      rcases ops with _ | ⟨p1, _ | ⟨p2, _ | ⟨p3, ops⟩⟩⟩ <;> rcases cs with _ | ⟨b', _ | ⟨c', _ | ⟨d', cs⟩⟩⟩ <;> first | exact noB h rfl | skip
      have h : (decide (o1 = p1) && decide (o2 = p2) && a.mat m a' && b.mat m b' && c.mat m c' && !lastMarks [o1, o2] [b', c']) = true := h
      simp only [Bool.and_eq_true, decide_eq_true_eq, Bool.not_eq_true'] at h
      obtain ⟨⟨⟨⟨⟨rfl, rfl⟩, h1⟩, h2⟩, h3⟩, h4⟩ := h
      exact pe_chnD S.hu (X.ok a S a' h1) (X.ok b S b' h2) (X.ok c S c' h3) h4
    | _ => exact noB h rfl
  | .bl2 o xs, Y, W, m, S, e, h => by
    cases e with
    | BoolOp o' es p =>
      have h : (decide (o = o') && xs.mat m es) = true := h
      simp only [Bool.and_eq_true, decide_eq_true_eq] at h
      obtain ⟨rfl, h1⟩ := h
      exact Xs.okB xs o S es p h1
    | _ => exact noB h rfl
  | .ife t a b, Y, W, m, S, e, h => by
    cases e with
    | IfExp t' a' b' p =>
      have h : (t.mat m t' && a.mat m a' && b.mat m b') = true := h
      simp only [Bool.and_eq_true] at h
      exact pe_ifD (T.ok t S t' h.1.1) (X.ok a S a' h.1.2) (X.ok b S b' h.2)
    | _ => exact noB h rfl
  | .tup xs, Y, W, m, S, e, h => by
    cases e with
    | Tuple es k p => exact pe_tupD (Xs.okS xs S es h)
    | _ => exact noB h rfl
  | .lst xs, Y, W, m, S, e, h => by
    cases e with
    | List es p => exact pe_lstD (Xs.okS xs S es h)
    | _ => exact noB h rfl
  | .slc a lo hi, Y, W, m, S, e, h => by
    cases e with
    | Subscript a' sl p =>
      cases sl with
      | Slice lo' hi' st p2 =>
        cases st with
        | none =>
          have h : (a.mat m a' && lo.mat m lo' && hi.mat m hi') = true := h
          simp only [Bool.and_eq_true] at h
          exact pe_slcD (X.ok a S a' h.1.1) (Xo.ok lo S lo' h.1.2) (Xo.ok hi S hi' h.2)
        | some _ => exact noB h rfl
      | _ => exact noB h rfl
    | _ => exact noB h rfl
  | .idx a i, Y, W, m, S, e, h => by
    cases e with
    | Subscript a' i' p =>
      have h : (noSlice i' && a.mat m a' && i.mat m i') = true := h
      simp only [Bool.and_eq_true] at h
      exact pe_idxD (X.ok a S a' h.1.2) (X.ok i S i' h.2) (plainIx_ok h.1.1)
    | _ => exact noB h rfl
  | .call f as, Y, W, m, S, e, h => by
    cases e with
    | Call fe es kws p =>
      cases fe with
      | Name x pn =>
        rcases es with _ | ⟨e0, es⟩ <;> rcases kws with _ | ⟨k0, kws⟩ <;> first | exact noB h rfl | skip
        have h : (decide (f = x) && mGl m x && mNd x && decide (x ∉ m.nk) && as.mat m (e0 :: es)) = true := h
        simp only [Bool.and_eq_true, decide_eq_true_eq, mNd, Bool.not_eq_true'] at h
        obtain ⟨⟨⟨⟨rfl, h1⟩, h2⟩, h3⟩, h4⟩ := h
        have st := as_stars h4
        have st' := st
        rw [List.all_cons, Bool.and_eq_true] at st'
        cases q : Γ.fn f with
        | none =>
          refine (pe_badD (W := W)).imp fun σ H Q z => ?_
          obtain ⟨wh, F, rl, z⟩ := z
          have z : okW (cn Y W) wh H σ (ofO (Γ.fn f) fun fn => (as.den Γ F).bind fun rs F1 => callR fn rs F1) _ := z
          rw [q] at z
          exact z.elim
        | some fn =>
          refine (pe_callD S (S.env.fn f fn q) h3 (mGl_ok S h1) h2.1 (As.okA as S (e0 :: es) h4) (starEach_cons st'.1) (backTo_no st'.2)).imp fun σ H Q z => ?_
          obtain ⟨wh, F, rl, z⟩ := z
          have z : okW (cn Y W) wh H σ (ofO (Γ.fn f) fun fn => (as.den Γ F).bind fun rs F1 => callR fn rs F1) _ := z
          rw [q] at z
          exact ⟨wh, F, rl, z⟩
      | _ => exact noB h rfl
    | _ => exact noB h rfl
  | .callK c as kas, Y, W, m, S, e, h => by
    cases e with
    | Call fe es kws p =>
      cases fe with
      | Name x pn =>
        have h : ((match m.kw c with
          | some q => decide (q.f = x) && decide (kwNm kws = some q.ks)
          | none => false) && mGl m x && mNd x && as.mat m es && kas.matK m kws) = true := h
        simp only [Bool.and_eq_true, decide_eq_true_eq, mNd, Bool.not_eq_true'] at h
        obtain ⟨⟨⟨⟨h0, h1⟩, h2⟩, h3⟩, h4⟩ := h
        rw [← S.kw] at h0
        cases k : Γ.kw c with
        | none => rw [k] at h0; cases h0
        | some q =>
          rw [k] at h0
          simp only [Bool.and_eq_true, decide_eq_true_eq] at h0
          obtain ⟨e1, e2⟩ := h0
          obtain ⟨k1, k2, k3⟩ := kwNm_ok (pos := p) (env := Y.env) e2
          cases qf : Γ.fn q.f with
          | none =>
            refine (pe_badD (W := W)).imp fun σ H Q z => ?_
            obtain ⟨wh, F, rl, z⟩ := z
            have z : okW (cn Y W) wh H σ (ofO (Γ.kw c) fun q => ofO (Γ.fn q.f) fun fn => (as.den Γ F).bind fun rs F1 => (kas.den Γ F1).bind fun zs F2 => if rs.length = q.n ∧ zs.length = q.ks.length then ofO (pickR (rs ++ zs) q.ord) fun qs => callR fn qs F2 else .bad) _ := z
            rw [k] at z
            have z : okW (cn Y W) wh H σ (ofO (Γ.fn q.f) fun fn => (as.den Γ F).bind fun rs F1 => (kas.den Γ F1).bind fun zs F2 => if rs.length = q.n ∧ zs.length = q.ks.length then ofO (pickR (rs ++ zs) q.ord) fun qs => callR fn qs F2 else .bad) _ := z
            rw [qf] at z
            exact z.elim
          | some fn =>
            rcases es with _ | ⟨e0, es⟩
            · cases as with
              | nil =>
                refine (pe_callKD0 (fn := fn) S (S.env.fn x fn (by rw [← e1]; exact qf)) k e1 (mGl_ok S h1) h2.1 (As.okK kas S kws h4) k1 k2 (by rw [k3]; rfl)).imp fun σ H Q z => ?_
                obtain ⟨wh, F, rl, z⟩ := z
                have z : okW (cn Y W) wh H σ (ofO (Γ.kw c) fun q => ofO (Γ.fn q.f) fun fn => (As.nil.den Γ F).bind fun rs F1 => (kas.den Γ F1).bind fun zs F2 => if rs.length = q.n ∧ zs.length = q.ks.length then ofO (pickR (rs ++ zs) q.ord) fun qs => callR fn qs F2 else .bad) _ := z
                rw [k] at z
                have z : okW (cn Y W) wh H σ (ofO (Γ.fn q.f) fun fn => (As.nil.den Γ F).bind fun rs F1 => (kas.den Γ F1).bind fun zs F2 => if rs.length = q.n ∧ zs.length = q.ks.length then ofO (pickR (rs ++ zs) q.ord) fun qs => callR fn qs F2 else .bad) _ := z
                rw [qf] at z
                exact ⟨wh, F, rl, z⟩
              | sh _ _ => exact noB h3 rfl
              | io _ _ => exact noB h3 rfl
            have st := as_stars h3
            have st' := st
            rw [List.all_cons, Bool.and_eq_true] at st'
            refine (pe_callKD (fn := fn) S (S.env.fn x fn (by rw [← e1]; exact qf)) k e1 (mGl_ok S h1) h2.1 (As.okA as S (e0 :: es) h3) (As.okK kas S kws h4) k1 k2 (starEach_cons st'.1) (by rw [backTo_no st, k3]; rfl)).imp fun σ H Q z => ?_
            obtain ⟨wh, F, rl, z⟩ := z
            have z : okW (cn Y W) wh H σ (ofO (Γ.kw c) fun q => ofO (Γ.fn q.f) fun fn => (as.den Γ F).bind fun rs F1 => (kas.den Γ F1).bind fun zs F2 => if rs.length = q.n ∧ zs.length = q.ks.length then ofO (pickR (rs ++ zs) q.ord) fun qs => callR fn qs F2 else .bad) _ := z
            rw [k] at z
            have z : okW (cn Y W) wh H σ (ofO (Γ.fn q.f) fun fn => (as.den Γ F).bind fun rs F1 => (kas.den Γ F1).bind fun zs F2 => if rs.length = q.n ∧ zs.length = q.ks.length then ofO (pickR (rs ++ zs) q.ord) fun qs => callR fn qs F2 else .bad) _ := z
            rw [qf] at z
            exact ⟨wh, F, rl, z⟩
      | _ => exact noB h rfl
    | _ => exact noB h rfl
  | .blt f xs, Y, W, m, S, e, h => by
    cases e with
    | Call fe es kws p =>
      cases fe with
      | Name x pn =>
        rcases es with _ | ⟨e0, es⟩ <;> rcases kws with _ | ⟨k0, kws⟩ <;> first | exact noB h rfl | skip
        have h : (decide (x = f.name) && mGl m x && xs.mat m (e0 :: es)) = true := h
        simp only [Bool.and_eq_true, decide_eq_true_eq] at h
        obtain ⟨⟨rfl, h1⟩, h2⟩ := h
        have st' := xs_stars h2
        rw [List.all_cons, Bool.and_eq_true] at st'
        exact pe_bltD S.hc (S.env.blt _ (by cases f <;> decide +kernel)) (mGl_ok S h1) (Xs.okL xs S (e0 :: es) h2) (starEach_cons st'.1) (backTo_no st'.2)
      | _ => exact noB h rfl
    | _ => exact noB h rfl
  | .isi a cs, Y, W, m, S, e, h => by
    cases e with
    | Call fe es kws p =>
      cases fe with
      | Name x pn =>
        rcases es with _ | ⟨e0, _ | ⟨e1, _ | ⟨e2, es⟩⟩⟩ <;> rcases kws with _ | ⟨k0, kws⟩ <;> first | exact noB h rfl | (cases e1 <;> exact noB h rfl) | skip
        cases e1 with
        | Tuple ts k tp =>
          have h : (decide (x = "isinstance") && mGl m x && noStar e0 && tyL m cs ts && lineK cs.length && a.mat m e0) = true := h
          simp only [Bool.and_eq_true, decide_eq_true_eq] at h
          obtain ⟨⟨⟨⟨⟨rfl, h1⟩, h2⟩, h3⟩, h4⟩, h5⟩ := h
          exact pe_isiD S (X.ok a S e0 h5) h1 h3 h4 (starEach_cons h2)
        | Name t tp =>
          have h : (decide (x = "isinstance") && mGl m x && noStar e0 && a.mat m e0 && tyOne m cs t) = true := h
          simp only [Bool.and_eq_true, decide_eq_true_eq] at h
          obtain ⟨⟨⟨⟨rfl, h1⟩, h2⟩, h3⟩, h4⟩ := h
          rcases cs with _ | ⟨c, _ | ⟨c2, cs⟩⟩ <;> first | exact noB h4 rfl | skip
          have h4 : (decide (t = Str.ofString c) && mGl m t && tyOk c) = true := h4
          simp only [Bool.and_eq_true, decide_eq_true_eq] at h4
          exact pe_isi1 S (X.ok a S e0 h3) h1 h4.1.1 h4.1.2 h4.2 (starEach_cons h2)
        | _ => exact noB h rfl
      | _ => exact noB h rfl
    | _ => exact noB h rfl
  | .lc elt tg it ifs own, Y, W, m, S, e, h => by
    cases e with
    | ListComp e0 gens scope p =>
      rcases gens with _ | ⟨⟨tge, iter, ie, _ | _⟩, gens⟩ <;> first | exact noB h rfl | skip
      rename_i as
      cases as with
      | succ n => exact noB h rfl
      | zero =>
        rcases gens with _ | ⟨g2, gens⟩ <;> first | exact noB h rfl | skip
        have h : (it.mat m tge iter && noSet iter && blkC m.N m.sc scope (ownNm m own) && tg.mat (m.blk scope) tge && ifs.mat (m.blk scope) ie && elt.mat (m.blk scope) e0 && tg.ix.all fun i => decide (i ∈ own)) = true := h
        simp only [Bool.and_eq_true, List.all_eq_true, decide_eq_true_eq] at h
        obtain ⟨⟨⟨⟨⟨⟨h1, h2⟩, h3⟩, h4⟩, h5⟩, h6⟩, h7⟩ := h
        have e1 : (ownNm m own).map (·.2) = own := by
          unfold ownNm
          rw [List.map_map]
          exact List.map_id' own
        have q := pe_lcD (own := ownNm m own) (pos := p) S.hc (by rw [S.N]; exact S.nd) (It.ok it S tge iter h1) (by rw [S.N, S.sc]; exact blkOk_by h3) (fun s H C cl fp => tgt_ok (S.blk scope s H C cl fp) h4)
          (fun s H C cl fp => Ts.okA ifs (S.blk scope s H C cl fp) ie h5) (fun s H C cl fp => X.ok elt (S.blk scope s H C cl fp) e0 h6) (by rw [e1]; exact h7) (noSet_ok h2)
        rw [e1] at q
        exact q
    | _ => exact noB h rfl
theorem Xs.okB {Γ : Tb} : ∀ (xs : Xs) (o : BoolOp) {Y : Cx} {W : WX} {m : Mx} (_ : Sit Y W Γ m) (es : List Expr) (p : Pos), xs.mat m es = true → PE Y (.BoolOp o es p) (tX (cn Y W) (xs.denB Γ o))
  | .nil, o, Y, W, m, S, es, p, h => pe_badD.imp fun σ H Q z => z
  | .cons x .nil, o, Y, W, m, S, es, p, h => by
    rcases es with _ | ⟨e, _ | ⟨e2, es⟩⟩ <;> first | exact noB h rfl | skip
    · have h : (noStar e && x.mat m e && Xs.nil.mat m []) = true := h
      simp only [Bool.and_eq_true] at h
      exact pe_one (X.ok x S e h.1.2)
    · have h : (noStar e && x.mat m e && Xs.nil.mat m (e2 :: es)) = true := h
      simp only [Bool.and_eq_true] at h
      exact noB h.2 rfl
  | .cons x (.cons y ys), o, Y, W, m, S, es, p, h => by
    rcases es with _ | ⟨e, es⟩ <;> first | exact noB h rfl | skip
    have h : (noStar e && x.mat m e && (Xs.cons y ys).mat m es) = true := h
    simp only [Bool.and_eq_true] at h
    rcases es with _ | ⟨e2, es⟩
    · exact noB h.2 rfl
    · cases o with
      | And => exact pe_andD (X.ok x S e h.1.2) (Xs.okB (.cons y ys) .And S (e2 :: es) p h.2)
      | Or => exact pe_orD (X.ok x S e h.1.2) (Xs.okB (.cons y ys) .Or S (e2 :: es) p h.2)
theorem Xs.okS {Γ : Tb} : ∀ (xs : Xs) {Y : Cx} {W : WX} {m : Mx} (_ : Sit Y W Γ m) (es : List Expr), xs.mat m es = true → PA Y es (tAS (cn Y W) (xs.denS Γ))
  | .nil, Y, W, m, S, es, h => by
    cases es with
    | nil => exact pa_nilS
    | cons e es => exact noB h rfl
  | .cons x xs, Y, W, m, S, es, h => by
    cases es with
    | nil => exact noB h rfl
    | cons e es =>
      have h : (noStar e && x.mat m e && xs.mat m es) = true := h
      simp only [Bool.and_eq_true] at h
      exact pa_consS (X.ok x S e h.1.2) (Xs.okS xs S es h.2) (starEach_cons h.1.1)
theorem Xs.okL {Γ : Tb} : ∀ (xs : Xs) {Y : Cx} {W : WX} {m : Mx} (_ : Sit Y W Γ m) (es : List Expr), xs.mat m es = true → PA Y es (tA (cn Y W) (xs.denL Γ))
  | .nil, Y, W, m, S, es, h => by
    cases es with
    | nil => exact pa_nilD
    | cons e es => exact noB h rfl
  | .cons x xs, Y, W, m, S, es, h => by
    cases es with
    | nil => exact noB h rfl
    | cons e es =>
      have h : (noStar e && x.mat m e && xs.mat m es) = true := h
      simp only [Bool.and_eq_true] at h
      exact pa_consD (X.ok x S e h.1.2) (Xs.okL xs S es h.2) (starEach_cons h.1.1)
theorem Xs.okP {Γ : Tb} : ∀ (xs : Xs) {Y : Cx} {W : WX} {m : Mx} (_ : Sit Y W Γ m) (es : List Expr), xs.mat m es = true → PA Y es (tP (cn Y W) (xs.denP Γ))
  | .nil, Y, W, m, S, es, h => by
    cases es with
    | nil => exact pa_nilP
    | cons e es => exact noB h rfl
  | .cons x xs, Y, W, m, S, es, h => by
    cases es with
    | nil => exact noB h rfl
    | cons e es =>
      have h : (noStar e && x.mat m e && xs.mat m es) = true := h
      simp only [Bool.and_eq_true] at h
      exact pa_consP (X.ok x S e h.1.2) (Xs.okP xs S es h.2) (starEach_cons h.1.1)
theorem Xo.ok {Γ : Tb} : ∀ (x : Xo) {Y : Cx} {W : WX} {m : Mx} (_ : Sit Y W Γ m) (e : Option Expr), x.mat m e = true → PO Y e (tO (cn Y W) (x.den Γ))
  | .none, Y, W, m, S, e, h => by
    cases e with
    | none => exact po_noneD
    | some e => exact noB h rfl
  | .some x, Y, W, m, S, e, h => by
    cases e with
    | none => exact noB h rfl
    | some e => exact po_someD (X.ok x S e h)
theorem As.okA {Γ : Tb} : ∀ (as : As) {Y : Cx} {W : WX} {m : Mx} (_ : Sit Y W Γ m) (es : List Expr), as.mat m es = true → PA Y es (tA (cn Y W) (as.den Γ))
  | .nil, Y, W, m, S, es, h => by
    cases es with
    | nil => exact pa_nilD
    | cons e es => exact noB h rfl
  | .sh x as, Y, W, m, S, es, h => by
    cases es with
    | nil => exact noB h rfl
    | cons e es =>
      have h : (noStar e && x.mat m e && as.mat m es) = true := h
      simp only [Bool.and_eq_true] at h
      exact pa_consD (pe_shD (X.ok x S e h.1.2)) (As.okA as S es h.2) (starEach_cons h.1.1)
  | .io i as, Y, W, m, S, es, h => by
    cases es with
    | nil => exact noB h rfl
    | cons e es =>
      cases e with
      | Name x p =>
        have h : (mVar m i x && as.mat m es) = true := h
        simp only [Bool.and_eq_true] at h
        obtain ⟨h1, h2, h3, h4⟩ := mVar_ok S h.1
        exact pa_consD (pe_varD h1 h2 h3 h4 Γ) (As.okA as S es h.2) rfl
      | _ => exact noB h rfl
theorem As.okK {Γ : Tb} : ∀ (as : As) {Y : Cx} {W : WX} {m : Mx} (_ : Sit Y W Γ m) (es : List Keyword), as.matK m es = true → PK Y es (tA (cn Y W) (as.den Γ))
  | .nil, Y, W, m, S, es, h => by
    cases es with
    | nil => exact pk_nilD
    | cons e es => exact noB h rfl
  | .sh x as, Y, W, m, S, es, h => by
    rcases es with _ | ⟨⟨nm, e, p⟩, es⟩
    · exact noB h rfl
    · have h : (x.mat m e && as.matK m es) = true := h
      simp only [Bool.and_eq_true] at h
      exact pk_consD (pe_shD (X.ok x S e h.1)) (As.okK as S es h.2)
  | .io i as, Y, W, m, S, es, h => by
    rcases es with _ | ⟨⟨nm, e, p⟩, es⟩
    · exact noB h rfl
    · cases e with
      | Name x p =>
        have h : (mVar m i x && as.matK m es) = true := h
        simp only [Bool.and_eq_true] at h
        obtain ⟨h1, h2, h3, h4⟩ := mVar_ok S h.1
        exact pk_consD (pe_varD h1 h2 h3 h4 Γ) (As.okK as S es h.2)
      | _ => exact noB h rfl
theorem T.ok {Γ : Tb} : ∀ (x : T) {Y : Cx} {W : WX} {m : Mx} (_ : Sit Y W Γ m) (e : Expr), x.mat m e = true → PT Y e (tT (cn Y W) (x.den Γ))
  | .val x, Y, W, m, S, e, h => by
    have h : (plainT e && x.mat m e) = true := h
    simp only [Bool.and_eq_true] at h
    exact pt_valD (X.ok x S e h.2) (plainT_ok h.1)
  | .not a, Y, W, m, S, e, h => by
    cases e with
    | UnaryOp o a' p =>
      cases o with
      | Not => exact pt_notD (T.ok a S a' h)
      | _ => exact noB h rfl
    | _ => exact noB h rfl
  | .cmp op a b, Y, W, m, S, e, h => by
    cases e with
    | Compare a' ops cs p =>
      rcases ops with _ | ⟨op', _ | ⟨o2, ops⟩⟩ <;> rcases cs with _ | ⟨b', _ | ⟨c', cs⟩⟩ <;> first | exact noB h rfl | skip
      have h : (decide (op = op') && a.mat m a' && b.mat m b' && !behindInMarks op b') = true := h
      simp only [Bool.and_eq_true, decide_eq_true_eq, Bool.not_eq_true'] at h
      obtain ⟨⟨⟨rfl, h1⟩, h2⟩, h3⟩ := h
      exact pt_cmpD S.hu (X.ok a S a' h1) (X.ok b S b' h2) h3
    | _ => exact noB h rfl
  | .chn o1 o2 a b c, Y, W, m, S, e, h => by
    cases e with
    | Compare a' ops cs p =>
      rcases ops with _ | ⟨p1, _ | ⟨p2, _ | ⟨p3, ops⟩⟩⟩ <;> rcases cs with _ | ⟨b', _ | ⟨c', _ | ⟨d', cs⟩⟩⟩ <;> first | exact noB h rfl | skip
      have h : (decide (o1 = p1) && decide (o2 = p2) && a.mat m a' && b.mat m b' && c.mat m c' && !lastMarks [o1, o2] [b', c']) = true := h
      simp only [Bool.and_eq_true, decide_eq_true_eq, Bool.not_eq_true'] at h
      obtain ⟨⟨⟨⟨⟨rfl, rfl⟩, h1⟩, h2⟩, h3⟩, h4⟩ := h
      exact pt_chnD S.hu (X.ok a S a' h1) (X.ok b S b' h2) (X.ok c S c' h3) h4
    | _ => exact noB h rfl
  | .bl2 o xs, Y, W, m, S, e, h => by
    cases e with
    | BoolOp o' es p =>
      have h : (decide (o = o') && xs.mat m es) = true := h
      simp only [Bool.and_eq_true, decide_eq_true_eq] at h
      obtain ⟨rfl, h1⟩ := h
      exact (Ts.okB xs o S es p h1).pt
    | _ => exact noB h rfl
theorem Ts.okB {Γ : Tb} : ∀ (xs : Ts) (o : BoolOp) {Y : Cx} {W : WX} {m : Mx} (_ : Sit Y W Γ m) (es : List Expr) (p : Pos), xs.mat m es = true → PW Y (.BoolOp o es p) (tT (cn Y W) (xs.denB Γ o))
  | .nil, o, Y, W, m, S, es, p, h => ⟨fun wh pins s σ H Q I z => by
      obtain ⟨_, _, _, z⟩ := z
      exact z.elim⟩
  | .cons x .nil, o, Y, W, m, S, es, p, h => by
    rcases es with _ | ⟨e, _ | ⟨e2, es⟩⟩ <;> first | exact noB h rfl | skip
    · have h : (x.mat m e && Ts.nil.mat m []) = true := h
      simp only [Bool.and_eq_true] at h
      cases o with
      | And => exact pw_and1 (T.ok x S e h.1)
      | Or => exact pw_or1 (T.ok x S e h.1)
    · have h : (x.mat m e && Ts.nil.mat m (e2 :: es)) = true := h
      simp only [Bool.and_eq_true] at h
      exact noB h.2 rfl
  | .cons x (.cons y ys), o, Y, W, m, S, es, p, h => by
    rcases es with _ | ⟨e, es⟩ <;> first | exact noB h rfl | skip
    have h : (x.mat m e && (Ts.cons y ys).mat m es) = true := h
    simp only [Bool.and_eq_true] at h
    rcases es with _ | ⟨e2, es⟩
    · exact noB h.2 rfl
    · cases o with
      | And => exact pw_andD (T.ok x S e h.1) (Ts.okB (.cons y ys) .And S (e2 :: es) p h.2)
      | Or => exact pw_orD (T.ok x S e h.1) (Ts.okB (.cons y ys) .Or S (e2 :: es) p h.2)
theorem Ts.okA {Γ : Tb} : ∀ (xs : Ts) {Y : Cx} {W : WX} {m : Mx} (_ : Sit Y W Γ m) (es : List Expr), xs.mat m es = true → PTs Y es (tT (cn Y W) (xs.denA Γ))
  | .nil, Y, W, m, S, es, h => by
    cases es with
    | nil => exact ⟨fun pins s σ H Q I z => pts_nil.run pins s σ H Q I (by
        obtain ⟨wh, F, rl, z⟩ := z
        exact okW.ret z rl)⟩
    | cons e es => exact noB h rfl
  | .cons x .nil, Y, W, m, S, es, h => by
    rcases es with _ | ⟨e, _ | ⟨e2, es⟩⟩ <;> first | exact noB h rfl | skip
    · have h : (x.mat m e && Ts.nil.mat m []) = true := h
      simp only [Bool.and_eq_true] at h
      exact pts_one (T.ok x S e h.1)
    · have h : (x.mat m e && Ts.nil.mat m (e2 :: es)) = true := h
      simp only [Bool.and_eq_true] at h
      exact noB h.2 rfl
  | .cons x (.cons y ys), Y, W, m, S, es, h => ⟨fun pins s σ H Q I z => by
      obtain ⟨_, _, _, z⟩ := z
      exact z.elim⟩
theorem It.ok {Γ : Tb} : ∀ (x : It) {Y : Cx} {W : WX} {m : Mx} (_ : Sit Y W Γ m) (tg e : Expr), x.mat m tg e = true → PI Y tg e (tI (cn Y W) (x.den Γ))
  | .seq x, Y, W, m, S, tg, e, h => pi_seqD (X.ok x S e h)
  | .rng1 a, Y, W, m, S, tg, e, h => by
    cases e with
    | Call fe es kws p =>
      cases fe with
      | Name x pn =>
        rcases es with _ | ⟨a', _ | ⟨b', es⟩⟩ <;> rcases kws with _ | ⟨k0, kws⟩ <;> first | exact noB h rfl | skip
        have h : (decide (x = "range") && mGl m x && noStar a' && a.mat m a') = true := h
        simp only [Bool.and_eq_true, decide_eq_true_eq] at h
        obtain ⟨⟨⟨rfl, h1⟩, h2⟩, h3⟩ := h
        exact pi_rng1D (mGl_ok S h1) (S.env.blt _ (by decide +kernel)) (X.ok a S a' h3) (starEach_cons h2)
      | _ => exact noB h rfl
    | _ => exact noB h rfl
  | .rng2 a b, Y, W, m, S, tg, e, h => by
    cases e with
    | Call fe es kws p =>
      cases fe with
      | Name x pn =>
        rcases es with _ | ⟨a', _ | ⟨b', _ | ⟨c', es⟩⟩⟩ <;> rcases kws with _ | ⟨k0, kws⟩ <;> first | exact noB h rfl | skip
        have h : (decide (x = "range") && mGl m x && noStar a' && noStar b' && a.mat m a' && b.mat m b') = true := h
        simp only [Bool.and_eq_true, decide_eq_true_eq] at h
        obtain ⟨⟨⟨⟨⟨rfl, h1⟩, h2⟩, h3⟩, h4⟩, h5⟩ := h
        exact pi_rng2D (mGl_ok S h1) (S.env.blt _ (by decide +kernel)) (X.ok a S a' h4) (X.ok b S b' h5) (by rw [starEach_cons h2, starEach_cons h3]; rfl) (starEach_cons h3)
      | _ => exact noB h rfl
    | _ => exact noB h rfl
  | .rng3 a b c, Y, W, m, S, tg, e, h => by
    cases e with
    | Call fe es kws p =>
      cases fe with
      | Name x pn =>
        rcases es with _ | ⟨a', _ | ⟨b', _ | ⟨c', _ | ⟨d', es⟩⟩⟩⟩ <;> rcases kws with _ | ⟨k0, kws⟩ <;> first | exact noB h rfl | skip
        have h : (decide (x = "range") && mGl m x && noStar a' && noStar b' && noStar c' && a.mat m a' && b.mat m b' && c.mat m c') = true := h
        simp only [Bool.and_eq_true, decide_eq_true_eq] at h
        obtain ⟨⟨⟨⟨⟨⟨⟨rfl, h1⟩, h2⟩, h3⟩, h4⟩, h5⟩, h6⟩, h7⟩ := h
        exact pi_rng3D (mGl_ok S h1) (S.env.blt _ (by decide +kernel)) (X.ok a S a' h5) (X.ok b S b' h6) (X.ok c S c' h7) (starEach_cons h2) (starEach_cons h3) (starEach_cons h4)
      | _ => exact noB h rfl
    | _ => exact noB h rfl
  | .enum a, Y, W, m, S, tg, e, h => by
    cases tg with
    | Tuple ts k tp =>
      cases e with
      | Call fe es kws p =>
        cases fe with
        | Name x pn =>
          rcases es with _ | ⟨a', _ | ⟨b', es⟩⟩ <;> rcases kws with _ | ⟨k0, kws⟩ <;> first | exact noB h rfl | skip
          have h : (decide (x = "enumerate") && mGl m x && noStar a' && a.mat m a') = true := h
          simp only [Bool.and_eq_true, decide_eq_true_eq] at h
          obtain ⟨⟨⟨rfl, h1⟩, h2⟩, h3⟩ := h
          exact pi_enumD (mGl_ok S h1) (S.env.blt _ (by decide +kernel)) (X.ok a S a' h3) (starEach_cons h2)
        | _ => exact noB h rfl
      | _ => exact noB h rfl
    | _ => exact noB h rfl
  | .zip a b, Y, W, m, S, tg, e, h => by
    cases tg with
    | Tuple ts k tp =>
      cases e with
      | Call fe es kws p =>
        cases fe with
        | Name x pn =>
          rcases es with _ | ⟨a', _ | ⟨b', _ | ⟨c', es⟩⟩⟩ <;> rcases kws with _ | ⟨k0, kws⟩ <;> first | exact noB h rfl | skip
          have h : (decide (x = "zip") && mGl m x && noStar a' && noStar b' && a.mat m a' && b.mat m b') = true := h
          simp only [Bool.and_eq_true, decide_eq_true_eq] at h
          obtain ⟨⟨⟨⟨⟨rfl, h1⟩, h2⟩, h3⟩, h4⟩, h5⟩ := h
          exact pi_zipD (mGl_ok S h1) (S.env.blt _ (by decide +kernel)) (X.ok a S a' h4) (X.ok b S b' h5) (starEach_cons h2) (starEach_cons h3)
        | _ => exact noB h rfl
      | _ => exact noB h rfl
    | _ => exact noB h rfl
end
end Z

end
section
set_option Elab.async false
set_option linter.all false
set_option maxRecDepth 100000
namespace Z
open PySem PySem.Spec PyProof.Rows L2
/-! ### statements as written -/
def swPair (targets : List Expr) (value : Expr) : Option (List Expr × List Expr) := match targets, value with
  | [.Tuple ts _ _], .Tuple vs _ _ => some (ts, vs)
  | [.List ts _], .Tuple vs _ _ => some (ts, vs)
  | _, _ => none
def swC1 (sc : Scope) (ts vs : List Expr) : Bool := !(ts.length == 2 || ts.length == 3) || vs.length != ts.length || (if sc.kind.isAnnotationScope then ScopeKind.function else sc.kind) != .function
def isStar : Expr → Bool
  | .Starred .. => true
  | _ => false
def swNm (sc : Scope) (line : Nat) : Expr → Option Str
  | .Name id pos => if sc.names.lookup id == some .local && pos.line == line then some id else none
  | _ => none
def swNames (sc : Scope) (ts : List Expr) : List Str := ts.filterMap (swNm sc ((ts.head?.map (·.pos.line)).getD 0))
def swC3 (ts : List Expr) (names : List Str) : Bool := names.length != ts.length || names.eraseDups.length != names.length
def swB (sc : Scope) (targets : List Expr) (value : Expr) : Option (Option (List Str)) := match swPair targets value with
  | none => some none
  | some (ts, vs) =>
    if swC1 sc ts vs then some none
    else if vs.any isStar then some none
    else if swC3 ts (swNames sc ts) then some none
    else if vs.all (foldedForSure 8) then some none
    else if vs.all (constantsAlone 8) then none
    else some (some (swNames sc ts))
def swRun (env : Env) (ts vs : List Expr) : Sem (Option (List Str)) := do
  if swC1 env.scope ts vs then return none
  if vs.any isStar then return none
  if swC3 ts (swNames env.scope ts) then return none
  if vs.all (foldedForSure 8) then return none
  if vs.all (constantsAlone 8) then unsupported "assign.tuple-of-constant-expressions:order-of-the-stores"
  return some (swNames env.scope ts)
theorem isStar_eq : (fun x : Expr => match x with | .Starred .. => true | _ => false) = isStar := by
  funext x
  cases x <;> rfl
theorem swNm_eq (env : Env) (line : Nat) : (fun x : Expr => match x with
    | .Name id pos => if env.kindOf id == some .local && pos.line == line then some id else none
    | _ => none) = swNm env.scope line := by
  funext x
  cases x <;> rfl
theorem sw_pair (ts vs : List Expr) (k k2 : Nat) (p p2 : Pos) (env : Env) : swappedStores [.Tuple ts k p] (.Tuple vs k2 p2) env = swRun env ts vs := by
  unfold swRun swNames
  rw [← isStar_eq, ← swNm_eq]
  rfl
theorem sw_pairL (ts vs : List Expr) (k2 : Nat) (p p2 : Pos) (env : Env) : swappedStores [.List ts p] (.Tuple vs k2 p2) env = swRun env ts vs := by
  unfold swRun swNames
  rw [← isStar_eq, ← swNm_eq]
  rfl
theorem swB_ok {env : Env} {targets : List Expr} {value : Expr} {r : Option (List Str)} (h : swB env.scope targets value = some r) : swappedStores targets value env = pure r := by
  have run : ∀ ts vs : List Expr, (if swC1 env.scope ts vs then some none
    else if vs.any isStar then some none
    else if swC3 ts (swNames env.scope ts) then some none
    else if vs.all (foldedForSure 8) then some none
    else if vs.all (constantsAlone 8) then none
    else some (some (swNames env.scope ts))) = some r → swRun env ts vs = pure r := fun ts vs h => by
    unfold swRun
    split at h
    · rename_i c; cases h; rw [if_pos c]
    · rename_i c; rw [if_neg c]
      split at h
      · rename_i c; cases h; rw [if_pos c]
      · rename_i c; rw [if_neg c]
        split at h
        · rename_i c; cases h; rw [if_pos c]
        · rename_i c; rw [if_neg c]
          split at h
          · rename_i c; cases h; rw [if_pos c]
          · rename_i c; rw [if_neg c]
            split at h
            · cases h
            · rename_i c; cases h; rw [if_neg c]
  rcases targets with _ | ⟨t, _ | ⟨t2, ts⟩⟩
  · cases h; rfl
  · cases t with
    | Tuple ts k p =>
      cases value with
      | Tuple vs k2 p2 => rw [sw_pair]; exact run ts vs h
      | _ => cases h; rfl
    | List ts p =>
      cases value with
      | Tuple vs k2 p2 => rw [sw_pairL]; exact run ts vs h
      | _ => cases h; rfl
    | _ => cases h; rfl
  · cases t <;> (cases h; rfl)
def isComp : Expr → Bool
  | .ListComp .. => true | .SetComp .. => true | .DictComp .. => true | _ => false
/-- does `name = value` swap -/
def swW (sc : Scope) (t : Str) (pos : Pos) : Expr → Bool
  | .ListComp _ _ scope vp => (if sc.kind.isAnnotationScope then ScopeKind.function else sc.kind) == .function && sc.names.lookup t == some .local && pos.line == vp.line && !(scope.names.any fun (n, k) => n == t && (k == .local || k == .cell))
  | .SetComp _ _ scope vp => (if sc.kind.isAnnotationScope then ScopeKind.function else sc.kind) == .function && sc.names.lookup t == some .local && pos.line == vp.line && !(scope.names.any fun (n, k) => n == t && (k == .local || k == .cell))
  | .DictComp _ _ _ scope vp => (if sc.kind.isAnnotationScope then ScopeKind.function else sc.kind) == .function && sc.names.lookup t == some .local && pos.line == vp.line && !(scope.names.any fun (n, k) => n == t && (k == .local || k == .cell))
  | _ => false
theorem swW_ok (env : Env) (t : Str) (pos : Pos) (e : Expr) (line : Nat) : swapsWith e (some (.Name t pos)) line env = pure (swW env.scope t pos e) := by
  cases e <;> rfl
theorem sw_none {e : Expr} (h : isComp e = false) (line : Nat) (env : Env) : swapsWith e none line env = pure false := by
  cases e <;> first | rfl | cases h
theorem sw_tup (e : Expr) (ts : List Expr) (k : Nat) (p : Pos) (line : Nat) (env : Env) : swapsWithSole [.Tuple ts k p] e line env = pure false := by
  cases e <;> rfl
theorem sw_sub (e o i : Expr) (p : Pos) (line : Nat) (env : Env) : swapsWithSole [.Subscript o i p] e line env = pure false := by
  cases e <;> rfl
end Z

end
section
set_option Elab.async false
set_option linter.all false
set_option maxRecDepth 100000
namespace Z
open PySem PySem.Spec PyProof.Rows L2
def mLc (m : Mx) (x : Str) : Bool := match m.sc.names.lookup x with
  | some .local => true
  | _ => false
def parMat (m : Mx) (f : List Expr → Bool) : List Nat → Expr → Expr → Bool
  | [i, j], .Tuple [.Name x px, .Name y py] kt pt, .Tuple vs k2 pt2 => vs.length == 2 && mNm m i x && mNm m j y && i != j && mLc m x && mLc m y && f vs && decide (swB m.sc [.Tuple [.Name x px, .Name y py] kt pt] (.Tuple vs k2 pt2) = some (some [x, y]))
  | [i, j, l], .Tuple [.Name x px, .Name y py, .Name z pz] kt pt, .Tuple vs k2 pt2 => vs.length == 3 && mNm m i x && mNm m j y && mNm m l z && i != j && i != l && j != l && mLc m x && mLc m y && mLc m z && f vs && decide (swB m.sc [.Tuple [.Name x px, .Name y py, .Name z pz] kt pt] (.Tuple vs k2 pt2) = some (some [x, y, z]))
  | _, _, _ => false
mutual
def S.mat (m : Mx) : S → Stmt → Bool
  | .asg i e, .Assign [.Name x _] e' _ => mNm m i x && mLoc m x && e.mat m e'
  | .par is es, .Assign [t] e' _ => parMat m (es.mat m) is t e'
  | .unp is e, .Assign [.Tuple ts k tp] e' _ => Tgt.mat.go m is ts && e.mat m e' && decide (swB m.sc [.Tuple ts k tp] e' = some none)
  | .aug i op e, .AugAssign (.Name x _) op' e' _ => decide (op = op') && (op == .Add || op == .Sub) && mNm m i x && mLoc m x && e.mat m e'
  | .app i e, .Expr (.Call (.Attribute (.Name x _) a ap) [e'] [] cp) _ => decide (a = "append") && mVar m i x && noStar e' && e.mat m e' && (ap.endLine == cp.line)
  | .ext i e, .Expr (.Call (.Attribute (.Name x _) a ap) [e'] [] cp) _ => decide (a = "extend") && mVar m i x && noStar e' && e.mat m e' && (ap.endLine == cp.line)
  | .put i k e, .Assign [.Subscript (.Name x _) k' _] e' _ => mVar m i x && noSlice k' && k.mat m k' && e.mat m e'
  | .ife t a b, .If t' a' b' _ => t.mat m t' && a.mat m a' && b.mat m b'
  | .for_ tg it b _, .For tg' it' b' [] _ => tg.mat m tg' && it.mat m tg' it' && noSet it' && b.mat m b'
  | .whl t b _, .While t' b' [] _ => t.mat m t' && b.mat m b'
  | .ret e, .Return (some e') _ => e.mat m e'
  | .retN, .Return none _ => true
  | .brk, .Break _ => true
  | .cnt, .Continue _ => true
  | .pass, .Pass _ => true
  | .pass, .Expr (.Constant (.str _) _ _) _ => true
  | .drop e, .Expr e' _ => !isComp e' && e.mat m e'
  | _, _ => false
def Ss.mat (m : Mx) : Ss → List Stmt → Bool
  | .nil, [] => true
  | .cons s ss, st :: sts => s.mat m st && ss.mat m sts
  | _, _ => false
end
structure SitS (Y : Cx) (W : WX) (Γ : Tb) (m : Mx) : Prop extends Sit Y W Γ m where
  hp : PassesOwn (model Y.prog Y.w) Y.A Y.env Y.xe
section
variable {Y : Cx} {W : WX} {Γ : Tb} {m : Mx}
theorem ps_badD {s : Stmt} : PS Y s (tS (cn Y W) fun _ => .bad) := ⟨fun pins s σ H D I h => by
  obtain ⟨_, _, _, h⟩ := h
  exact h.elim⟩
theorem mLc_ok (S : Sit Y W Γ m) {x : Str} (h : mLc m x = true) : Y.env.scope.names.lookup x = some .local := by
  unfold mLc at h
  rw [S.sc]
  split at h
  · assumption
  · cases h
theorem mNm_ok (S : Sit Y W Γ m) {i : Nat} {x : Str} (h : mNm m i x = true) : Y.N[i]? = some x := by
  rw [S.N]; exact of_decide_eq_true h
/-- name = [.. for ..] where the store swaps -/
theorem ps_lcD (S : Sit Y W Γ m) {i : Nat} {x : Str} {px pos : Pos} {elt : X} {tg : Tgt} {it : It} {ifs : Ts} {own : List Nat} {e' : Expr} (h1 : mNm m i x = true) (hm : (X.lc elt tg it ifs own).mat m e' = true) (hw : swW Y.env.scope x px e' = true) :
    PS Y (.Assign [.Name x px] e' pos) (tS (cn Y W) fun F => ((X.lc elt tg it ifs own).den Γ F).thn fun rv F1 => asgR i rv F1) := by
  cases e' with
  | ListComp e0 gens scope p =>
    rcases gens with _ | ⟨⟨tge, iter, ie, _ | _⟩, gens⟩ <;> first | exact noB hm rfl | skip
    rename_i as
    cases as with
    | succ n => exact noB hm rfl
    | zero =>
      rcases gens with _ | ⟨g2, gens⟩ <;> first | exact noB hm rfl | skip
      have h : (it.mat m tge iter && noSet iter && blkC m.N m.sc scope (ownNm m own) && tg.mat (m.blk scope) tge && ifs.mat (m.blk scope) ie && elt.mat (m.blk scope) e0 && tg.ix.all fun i => decide (i ∈ own)) = true := hm
      simp only [Bool.and_eq_true, List.all_eq_true, decide_eq_true_eq] at h
      obtain ⟨⟨⟨⟨⟨⟨k1, k2⟩, k3⟩, k4⟩, k5⟩, k6⟩, k7⟩ := h
      have e1 : (ownNm m own).map (·.2) = own := by
        unfold ownNm
        rw [List.map_map]
        exact List.map_id' own
      have hl : Y.env.scope.names.lookup x = some .local := by
        simp only [swW, Bool.and_eq_true, beq_iff_eq] at hw
        exact hw.1.1.2
      have q := ps_setLc (te := tX (cn Y W0) (shM (elt.den Γ))) (tt := tT (cn Y W0) (ifs.denA Γ)) (g := tgR Y.K tg) (i := i) (own := ownNm m own) (py := px) (pos := p) (spos := pos) S.hc (by rw [S.N]; exact S.nd) (mNm_ok S h1) hl ((swW_ok _ _ _ _ _).trans (congrArg pure hw)) (It.ok it S tge iter k1) (by rw [S.N, S.sc]; exact blkOk_by k3) (fun s H C cl fp => tgt_ok (S.blk scope s H C cl fp) k4)
        (fun s H C cl fp => Ts.okA ifs (S.blk scope s H C cl fp) ie k5) (fun s H C cl fp => pe_shD (X.ok elt (S.blk scope s H C cl fp) e0 k6)) (noSet_ok k2)
      rw [e1] at q
      refine q.imp fun D σ H z => ?_
      exact tS_asg (C := cn Y W) (m := lcM own tg (it.den Γ) (ifs.denA Γ) (elt.den Γ)) (fun σ H Q z => tX_lc (C := cn Y W) k7 z) z
  | _ => exact noB hm rfl
theorem ps_asgD (S : Sit Y W Γ m) {i : Nat} {x : Str} {px pos : Pos} {e : X} {e' : Expr} (h1 : mNm m i x = true) (h2 : mLoc m x = true) (hm : e.mat m e' = true) :
    PS Y (.Assign [.Name x px] e' pos) (tS (cn Y W) fun F => (e.den Γ F).thn fun rv F1 => asgR i rv F1) := by
  cases hw : swW Y.env.scope x px e' with
  | false =>
    obtain ⟨l1, l2⟩ := mLoc_ok S h2
    exact (ps_set (by rw [S.N]; exact S.nd) (mNm_ok S h1) l1 (X.ok e S e' hm) (by rw [swW_ok, hw]) l2).imp fun D σ H z => tS_asg (fun _ _ _ z => z) z
  | true =>
    cases e with
    | lc elt tg it ifs own => exact ps_lcD S h1 hm hw
    | _ => cases e' <;> first | cases hw | exact noB hm rfl
theorem den_asg (Γ : Tb) (i : Nat) (e : X) : (S.asg i e).den Γ = fun F => (e.den Γ F).thn fun rv F1 => asgR i rv F1 := rfl
end
mutual
theorem S.ok {Γ : Tb} : ∀ (s : S) {Y : Cx} {W : WX} {m : Mx} (_ : SitS Y W Γ m) (st : Stmt), s.mat m st = true → PS Y st (tS (cn Y W) (s.den Γ))
  | .asg i e, Y, W, m, SS, st, h => by
    have S := SS.toSit
    cases st with
    | Assign ts e' pos =>
      rcases ts with _ | ⟨t, _ | ⟨t2, ts⟩⟩ <;> first | exact noB h rfl | skip
      · cases t with
        | Name x px =>
          have h : (mNm m i x && mLoc m x && e.mat m e') = true := h
          simp only [Bool.and_eq_true] at h
          exact ps_asgD S h.1.1 h.1.2 h.2
        | _ => exact noB h rfl
      · cases t <;> exact noB h rfl
    | _ => exact noB h rfl
  | .par is es, Y, W, m, SS, st, h => by
    have S := SS.toSit
    cases st with
    | Assign ts e' pos =>
      rcases ts with _ | ⟨t, _ | ⟨t2, ts⟩⟩ <;> first | exact noB h rfl | skip
      have h : parMat m (es.mat m) is t e' = true := h
      rcases is with _ | ⟨i, _ | ⟨j, _ | ⟨l, _ | ⟨i4, is⟩⟩⟩⟩ <;> first | exact noB h rfl | skip
      · cases t with
        | Tuple us kt pt =>
          rcases us with _ | ⟨u1, _ | ⟨u2, _ | ⟨u3, us⟩⟩⟩ <;> first | exact noB h rfl | (cases u1 <;> exact noB h rfl) | (cases u1 <;> first | exact noB h rfl | (cases u2 <;> exact noB h rfl)) | skip
          cases u1 with
          | Name x px =>
            cases u2 with
            | Name y py =>
              cases e' with
              | Tuple vs k2 pt2 =>
                have h : (vs.length == 2 && mNm m i x && mNm m j y && i != j && mLc m x && mLc m y && es.mat m vs && decide (swB m.sc [.Tuple [.Name x px, .Name y py] kt pt] (.Tuple vs k2 pt2) = some (some [x, y]))) = true := h
                simp only [Bool.and_eq_true, decide_eq_true_eq, bne_iff_ne, beq_iff_eq] at h
                obtain ⟨⟨⟨⟨⟨⟨⟨h0, h1⟩, h2⟩, h3⟩, h4⟩, h5⟩, h6⟩, h7⟩ := h
                rcases vs with _ | ⟨a, _ | ⟨b, _ | ⟨c, vs⟩⟩⟩ <;> first | cases h0 | skip
                rw [← S.sc] at h7
                exact (ps_par S.hc (by rw [S.N]; exact S.nd) (mNm_ok S h1) (mNm_ok S h2) h3 (mLc_ok S h4) (mLc_ok S h5) (Xs.okP es S _ h6) (swB_ok h7) (sw_tup _ _ _ _ _ _)).imp fun D σ H z => tS_par2 z
              | _ => exact noB h rfl
            | _ => exact noB h rfl
          | _ => exact noB h rfl
        | _ => exact noB h rfl
      · cases t with
        | Tuple us kt pt =>
          rcases us with _ | ⟨u1, _ | ⟨u2, _ | ⟨u3, _ | ⟨u4, us⟩⟩⟩⟩ <;> first | exact noB h rfl | (cases u1 <;> exact noB h rfl) | (cases u1 <;> first | exact noB h rfl | (cases u2 <;> exact noB h rfl)) | (cases u1 <;> first | exact noB h rfl | (cases u2 <;> first | exact noB h rfl | (cases u3 <;> exact noB h rfl))) | skip
          cases u1 with
          | Name x px =>
            cases u2 with
            | Name y py =>
              cases u3 with
              | Name z pz =>
                cases e' with
                | Tuple vs k2 pt2 =>
                  have h : (vs.length == 3 && mNm m i x && mNm m j y && mNm m l z && i != j && i != l && j != l && mLc m x && mLc m y && mLc m z && es.mat m vs && decide (swB m.sc [.Tuple [.Name x px, .Name y py, .Name z pz] kt pt] (.Tuple vs k2 pt2) = some (some [x, y, z]))) = true := h
                  simp only [Bool.and_eq_true, decide_eq_true_eq, bne_iff_ne, beq_iff_eq] at h
                  obtain ⟨⟨⟨⟨⟨⟨⟨⟨⟨⟨⟨h0, h1⟩, h2⟩, h2'⟩, h3⟩, h3'⟩, h3''⟩, h4⟩, h5⟩, h5'⟩, h6⟩, h7⟩ := h
                  rcases vs with _ | ⟨a, _ | ⟨b, _ | ⟨c, _ | ⟨d, vs⟩⟩⟩⟩ <;> first | cases h0 | skip
                  rw [← S.sc] at h7
                  exact (ps_par3 S.hc (by rw [S.N]; exact S.nd) (mNm_ok S h1) (mNm_ok S h2) (mNm_ok S h2') h3 h3' h3'' (mLc_ok S h4) (mLc_ok S h5) (mLc_ok S h5') (Xs.okP es S _ h6) (swB_ok h7) (sw_tup _ _ _ _ _ _)).imp fun D σ H z => tS_par3 z
                | _ => exact noB h rfl
              | _ => exact noB h rfl
            | _ => exact noB h rfl
          | _ => exact noB h rfl
        | _ => exact noB h rfl
    | _ => exact noB h rfl
  | .unp is e, Y, W, m, SS, st, h => by
    have S := SS.toSit
    cases st with
    | Assign ts e' pos =>
      rcases ts with _ | ⟨t, _ | ⟨t2, ts⟩⟩ <;> first | exact noB h rfl | (cases t <;> exact noB h rfl) | skip
      cases t with
      | Tuple us k p =>
        have h : (Tgt.mat.go m is us && e.mat m e' && decide (swB m.sc [.Tuple us k p] e' = some none)) = true := h
        simp only [Bool.and_eq_true, decide_eq_true_eq] at h
        obtain ⟨⟨h1, h2⟩, h3⟩ := h
        rw [← S.sc] at h3
        obtain ⟨k1, k2, k3⟩ := pgs_ok S h1
        exact (ps_asg (X.ok e S e' h2) (pg_tup S.hc k1 k2 k3) (sw_tup _ _ _ _ _ _) (swB_ok h3) rfl).imp fun D σ H z => tS_unp z
      | _ => exact noB h rfl
    | _ => exact noB h rfl
  | .aug i op e, Y, W, m, SS, st, h => by
    have S := SS.toSit
    cases st with
    | AugAssign t op' e' pos =>
      cases t with
      | Name x px =>
        have h : (decide (op = op') && (op == .Add || op == .Sub) && mNm m i x && mLoc m x && e.mat m e') = true := h
        simp only [Bool.and_eq_true, decide_eq_true_eq, Bool.or_eq_true, beq_iff_eq] at h
        obtain ⟨⟨⟨⟨rfl, h0⟩, h1⟩, h2⟩, h3⟩ := h
        obtain ⟨l1, l2⟩ := mLoc_ok S h2
        rcases h0 with rfl | rfl
        · refine (ps_aug (by rw [S.N]; exact S.nd) (mNm_ok S h1) l1 (X.ok e S e' h3) ip_add l2).imp fun D σ H z => ?_
          rcases tS_aug (show tS (cn Y W) (augM i .Add (e.den Γ)) D σ H from z) with ⟨_, q⟩ | ⟨q, _⟩ | ⟨q, _⟩
          · exact q
          · cases q
          · exact absurd rfl q
        · refine (ps_aug (by rw [S.N]; exact S.nd) (mNm_ok S h1) l1 (X.ok e S e' h3) ip_sub l2).imp fun D σ H z => ?_
          rcases tS_aug (show tS (cn Y W) (augM i .Sub (e.den Γ)) D σ H from z) with ⟨q, _⟩ | ⟨_, q⟩ | ⟨_, q⟩
          · cases q
          · exact q
          · exact absurd rfl q
      | _ => exact noB h rfl
    | _ => exact noB h rfl
  | .app i e, Y, W, m, SS, st, h => by
    have S := SS.toSit
    cases st with
    | Expr c pos =>
      cases c with
      | Call fe es kws cp =>
        cases fe with
        | Attribute o a ap =>
          cases o with
          | Name x px =>
            rcases es with _ | ⟨e', _ | ⟨e2, es⟩⟩ <;> rcases kws with _ | ⟨k0, kws⟩ <;> first | exact noB h rfl | skip
            have h : (decide (a = "append") && mVar m i x && noStar e' && e.mat m e' && (ap.endLine == cp.line)) = true := h
            simp only [Bool.and_eq_true, decide_eq_true_eq] at h
            obtain ⟨⟨⟨⟨rfl, h1⟩, h2⟩, h3⟩, h4⟩ := h
            obtain ⟨v1, v2, v3, v4⟩ := mVar_ok S h1
            have st := starEach_cons (es := []) (env := Y.env) h2
            exact (ps_expr (pe_bm PySem.F.plainAttrs_list PySem.F.slot_list_append PySem.F.type_list_append mt_append (pe_var v1 v2 v3 v4) (pa_cons (pe_shD (X.ok e S e' h3)) pa_nil st) rfl (by rw [st]; rfl) h4 st rfl) rfl).imp fun D σ H z => tS_app z
          | _ => exact noB h rfl
        | _ => exact noB h rfl
      | _ => exact noB h rfl
    | _ => exact noB h rfl
  | .ext i e, Y, W, m, SS, st, h => by
    have S := SS.toSit
    cases st with
    | Expr c pos =>
      cases c with
      | Call fe es kws cp =>
        cases fe with
        | Attribute o a ap =>
          cases o with
          | Name x px =>
            rcases es with _ | ⟨e', _ | ⟨e2, es⟩⟩ <;> rcases kws with _ | ⟨k0, kws⟩ <;> first | exact noB h rfl | skip
            have h : (decide (a = "extend") && mVar m i x && noStar e' && e.mat m e' && (ap.endLine == cp.line)) = true := h
            simp only [Bool.and_eq_true, decide_eq_true_eq] at h
            obtain ⟨⟨⟨⟨rfl, h1⟩, h2⟩, h3⟩, h4⟩ := h
            obtain ⟨v1, v2, v3, v4⟩ := mVar_ok S h1
            have st := starEach_cons (es := []) (env := Y.env) h2
            exact (ps_expr (pe_bm PySem.F.plainAttrs_list PySem.F.slot_list_extend PySem.F.type_list_extend (MtR.or mt_extend mt_extendT) (pe_var v1 v2 v3 v4) (pa_cons (X.ok e S e' h3) pa_nil st) rfl (by rw [st]; rfl) h4 st rfl) rfl).imp fun D σ H z => tS_ext z
          | _ => exact noB h rfl
        | _ => exact noB h rfl
      | _ => exact noB h rfl
    | _ => exact noB h rfl
  | .put i k e, Y, W, m, SS, st, h => by
    have S := SS.toSit
    cases st with
    | Assign ts e' pos =>
      rcases ts with _ | ⟨t, _ | ⟨t2, ts⟩⟩ <;> first | exact noB h rfl | (cases t <;> first | exact noB h rfl | (rename_i o _ _; cases o <;> exact noB h rfl)) | skip
      cases t with
      | Subscript o k' p =>
        cases o with
        | Name x px =>
          have h : (mVar m i x && noSlice k' && k.mat m k' && e.mat m e') = true := h
          simp only [Bool.and_eq_true] at h
          obtain ⟨⟨⟨h1, h2⟩, h3⟩, h4⟩ := h
          obtain ⟨v1, v2, v3, v4⟩ := mVar_ok S h1
          exact (ps_asg (pe_shD (X.ok e S e' h4)) (pg_sub (pe_var v1 v2 v3 v4) (X.ok k S k' h3) set_list (fun v => by cases k' <;> first | rfl | exact noB h2 rfl)) (sw_sub _ _ _ _ _ _) (swB_ok (by cases e' <;> rfl)) rfl).imp fun D σ H z => tS_put z
        | _ => exact noB h rfl
      | _ => exact noB h rfl
    | _ => exact noB h rfl
  | .ife t a b, Y, W, m, SS, st, h => by
    have S := SS.toSit
    cases st with
    | If t' a' b' pos =>
      have h : (t.mat m t' && a.mat m a' && b.mat m b') = true := h
      simp only [Bool.and_eq_true] at h
      exact (ps_if (T.ok t S t' h.1.1) (Ss.ok a SS a' h.1.2) (Ss.ok b SS b' h.2)).imp fun D σ H z => tS_if z
    | _ => exact noB h rfl
  | .for_ tg it b dead, Y, W, m, SS, st, h => by
    have S := SS.toSit
    cases st with
    | For tg' it' b' o pos =>
      cases o with
      | nil =>
        have h : (tg.mat m tg' && it.mat m tg' it' && noSet it' && b.mat m b') = true := h
        simp only [Bool.and_eq_true] at h
        exact (ps_for SS.hp S.hc (It.ok it S tg' it' h.1.1.2) (tgt_ok S h.1.1.1) (Ss.ok b SS b' h.2) (noSet_ok h.1.2)).imp fun D σ H z => tS_for z
      | cons _ _ => exact noB h rfl
    | _ => exact noB h rfl
  | .whl t b dead, Y, W, m, SS, st, h => by
    have S := SS.toSit
    cases st with
    | While t' b' o pos =>
      cases o with
      | nil =>
        have h : (t.mat m t' && b.mat m b') = true := h
        simp only [Bool.and_eq_true] at h
        exact (ps_while SS.hp (T.ok t S t' h.1) (Ss.ok b SS b' h.2)).imp fun D σ H z => tS_whl fuel z
      | cons _ _ => exact noB h rfl
    | _ => exact noB h rfl
  | .ret e, Y, W, m, SS, st, h => by
    have S := SS.toSit
    cases st with
    | Return o pos =>
      cases o with
      | some e' => exact (ps_ret (X.ok e S e' h)).imp fun D σ H z => tS_ret z
      | none => exact noB h rfl
    | _ => exact noB h rfl
  | .retN, Y, W, m, SS, st, h => by
    cases st with
    | Return o pos =>
      cases o with
      | some e' => exact noB h rfl
      | none => exact ps_retN.imp fun D σ H z => tS_retN z
    | _ => exact noB h rfl
  | .brk, Y, W, m, SS, st, h => by
    cases st with
    | Break pos => exact ps_break.imp fun D σ H z => tS_brk z
    | _ => exact noB h rfl
  | .cnt, Y, W, m, SS, st, h => by
    cases st with
    | Continue pos => exact ps_continue.imp fun D σ H z => tS_cnt z
    | _ => exact noB h rfl
  | .pass, Y, W, m, SS, st, h => by
    cases st with
    | Pass pos => exact ps_pass.imp fun D σ H z => tS_next z
    | Expr c pos =>
      cases c with
      | Constant c j p =>
        cases c with
        | str x => exact ps_doc.imp fun D σ H z => tS_next z
        | _ => exact noB h rfl
      | _ => exact noB h rfl
    | _ => exact noB h rfl
  | .drop e, Y, W, m, SS, st, h => by
    have S := SS.toSit
    cases st with
    | Expr e' pos =>
      have h : (!isComp e' && e.mat m e') = true := h
      simp only [Bool.and_eq_true, Bool.not_eq_true'] at h
      exact (ps_expr (X.ok e S e' h.2) (sw_none h.1 _ _)).imp fun D σ H z => tS_drop z
    | _ => exact noB h rfl
theorem Ss.ok {Γ : Tb} : ∀ (s : Ss) {Y : Cx} {W : WX} {m : Mx} (_ : SitS Y W Γ m) (st : List Stmt), s.mat m st = true → PSs Y st (tS (cn Y W) (s.den Γ))
  | .nil, Y, W, m, SS, st, h => by
    cases st with
    | nil => exact pss_nil.imp fun D σ H z => tS_next z
    | cons _ _ => exact noB h rfl
  | .cons s ss, Y, W, m, SS, st, h => by
    cases st with
    | nil => exact noB h rfl
    | cons st sts =>
      have h : (s.mat m st && ss.mat m sts) = true := h
      simp only [Bool.and_eq_true] at h
      exact (pss_cons (S.ok s SS st h.1) (Ss.ok ss SS sts h.2)).imp fun D σ H z => tS_seq z
end
end Z

end
section
set_option Elab.async false
set_option linter.all false
set_option maxRecDepth 100000
namespace Z
open PySem PySem.Spec PyProof.Rows L2
/-! ### defs, one upon another -/
def Tb.add (Γ : Tb) (x : Str) (f : Fn) : Tb := { Γ with fn := fun y => if y = x then some f else Γ.fn y }
section
variable {P : Program} {w : World} {K : PySem.W.Frag} {mg : Str → Option Value} {base : Heap} {A : Around} {Γ : Tb} {nk : List Str}
theorem Envi.add (E : Envi P w K mg base A Γ nk) {x : Str} {f : Fn} (F : FnAt P w K mg base A nk Γ.kw x f) : Envi P w K mg base A (Γ.add x f) nk where
  glb := E.glb
  blt := E.blt
  fn := fun y g h => by
    have h : (if y = x then some f else Γ.fn y) = some g := h
    split at h
    · rename_i e
      cases h
      rw [e]
      exact F
    · exact E.fn y g h
/-- the surroundings up to a depth -/
def EnvK (P : Program) (w : World) (K : PySem.W.Frag) (mg : Str → Option Value) (base : Heap) (Γ : Tb) (nk : List Str) (k : Nat) : Prop := ∀ A, Room k A → Envi P w K mg base A Γ nk
theorem EnvK.mono {k j : Nat} (E : EnvK P w K mg base Γ nk k) (h : k ≤ j) : EnvK P w K mg base Γ nk j := fun A r => E A (r.mono h)
variable {x qual : Str} {params : Arguments} {body : List Stmt} {scope : Scope} {dvs : List V} {kws : List (Str × V)} {f : Addr} {fd : FuncData} {N ps : List Str} {k np : Nat} {ss : Ss}
theorem def_ok (E : EnvK P w K mg base Γ nk k) (F : FunD K x qual params body scope dvs kws f fd) (S : FnScope N ps scope) (hm : ss.mat ⟨N, scope, fun _ => true, nk, Γ.kw⟩ body = true) :
    FnOk P w K mg base (L2.CX P w) (k + 1) f fd ps (spM K mg ps.length (fnOf Γ ps.length N.length ss)) := by
  refine F.ok S (fun vs H Q E h => h.1) fun cdv A outer s H vs Q Ex hr h => ⟨_, Ss.ok (Γ := Γ) (W := fun cls d _ H => Ex cls d H) (m := ⟨N, scope, fun _ => true, nk, Γ.kw⟩) ss ?_ body hm, body_ok h⟩
  exact { N := rfl, nd := S.nd, sc := rfl, fb := fun _ _ => rfl, hc := rfl, hu := hr.units, tk := takes_of rfl rfl rfl rfl, kw := rfl, env := E _ hr, hp := passes_of rfl }
theorem fn_bad : FnOk P w K mg base (L2.CX P w) k f fd ps (spM K mg ps.length fun _ => .bad) :=
  ⟨fun vs H Q E h => h.1, fun A outer s H args us vs Q E hr he hb hv h => by
    obtain ⟨_, _, _, _, _, h⟩ := h
    exact h.elim⟩
/-- what a call of the form q binds -/
def KwOk (K : PySem.W.Frag) (fd : FuncData) (ps : List Str) (q : Kw) : Prop := ∃ (g : List Value → List Value → List Value) (gV : List V → List V → List V), KBn K fd ps q.n q.ks g gV ∧
      ∀ (H0 : Hp) (wh : Who) (H : Hp) (σ : L2.St) (rs qs : List Rv) (vs zs : List V), RRL K H0 wh H σ rs (vs ++ zs) → vs.length = q.n → zs.length = q.ks.length → pickR rs q.ord = some qs → RRL K H0 wh H σ qs (gV vs zs)
theorem fnat_of {fn : Fn} (ok : FnOk P w K mg base (L2.CX P w) k f fd ps (spM K mg ps.length fn)) (hfn : ∀ A : Fm, A.length ≠ ps.length → fn A = .bad) (kp : PySem.W.keepIn K (.ref f) = true) (hm : mg x = some (.ref f)) (hb : x ∉ nk → Binds K fd ps [])
    (hk : ∀ c q, Γ.kw c = some q → q.f = x → KwOk K fd ps q) : ∀ A, Room k A → FnAt P w K mg base A nk Γ.kw x fn :=
  fun A hr => ⟨f, fd, ps, k, ps.length, ok, hr, hm, kp, hfn, hb, hk⟩
/-- one def more -/
theorem EnvK.step (E : EnvK P w K mg base Γ nk k) (F : FunD K x qual params body scope dvs kws f fd) (S : FnScope N ps scope) (hm : ss.mat ⟨N, scope, fun _ => true, nk, Γ.kw⟩ body = true) (hg : mg x = some (.ref f)) (hb : x ∉ nk → Binds K fd ps [])
    (hk : ∀ c q, Γ.kw c = some q → q.f = x → KwOk K fd ps q) : EnvK P w K mg base (Γ.add x (fnOf Γ ps.length N.length ss)) nk (k + 1) := fun A hr =>
  (E A (hr.mono (Nat.le_succ _))).add (fnat_of (def_ok E F S hm) (fun A h => fnOf_len A h) F.kp hg hb hk A hr)
/-- a def that calls itself: nothing at first -/
theorem EnvK.zero (E : EnvK P w K mg base Γ nk k) (F : FunD K x qual params body scope dvs kws f fd) (hg : mg x = some (.ref f)) (hb : x ∉ nk → Binds K fd ps [])
    (hk : ∀ c q, Γ.kw c = some q → q.f = x → KwOk K fd ps q) : EnvK P w K mg base (Γ.add x fun _ => .bad) nk k := fun A hr =>
  (E A hr).add (fnat_of (fn_bad (k := k)) (fun A h => rfl) F.kp hg hb hk A hr)
end
/-! ### the law -/
theorem walk_Z {l : PySem.W.OpenLaw} {n k : Nat} {q : Program} {loose : List Str} {XP : (Str → Option Value) → Heap → Prop} {YP : World → Heap → Prop} {d : DefRec} {x : Str}
    (hn : l.most = some n) (hn2 : n ≤ sizeLine) (hdf : d.params.defaults = []) (hr : Room k callerA)
    (F : ∀ (w : World) (mg : Str → Option Value) (fa : Addr) (h : Heap), YP w h → h.Ns mainGlobals mg → mg d.name = some (.ref fa) →
      ∃ (K : PySem.W.Frag) (fd : FuncData) (fn : Fn), K.In h ∧ (∀ (s : Shared) (u : Value), BindsTo s fd ⟨[u], []⟩ [(x, u)]) ∧
        (∀ ns : List Int, ns.length ≤ n → ∃ A', fn [.sh (.fz (ns.map .int))] = .ok (.sh (.bl true)) A') ∧
        ∀ base : Heap, K.In base → base.Ns mainGlobals mg → FnOk l.prog w K mg base (L2.CX l.prog w) k fa fd [x] (spM K mg 1 fn)) :
    PySem.W.WalkO q loose XP YP l.row.toRowW d [] (fun f vs => PySem.call f vs) := by
  refine Att.attach_call hn hdf fun w s₀ s₁ mg mb fa o pm cd doc a vs ns G Y ho hd hcd hmg hobj hints hlen hg => ?_
  obtain ⟨K, fd, fn, KX, hb, hsp, hF⟩ := F w mg fa _ Y G.T.g hmg
  refine law_call KX G.T.g G.T.b G.T.builtins G.T.nolimit hg hobj hints (Nat.le_trans hlen hn2) hr hF hb (fun H hO hS => ?_) fun H e s' h => ?_
  · refine ⟨rfl, fun b => if b = a ∧ H a ≠ none then .sh else .no, [.sh (.fz (ns.map .int))], ?_, fun i xs h => ?_, ?_⟩
    · have rep : RepL K (fun b => if b = a ∧ H a ≠ none then Tg.sh else .no) H (ns.map .int) (ns.map V.int) := by
        clear hS hints hlen
        induction ns with
        | nil => exact .nil
        | cons i ns ih => exact .cons (.int i) ih
      refine ⟨rfl, fun i s h => ?_, fun b i h => ?_, fun b i h => ?_, fun b h => ?_⟩
      · cases i with
        | zero =>
          cases h
          refine ⟨.ref a, rfl, .fz ?_ rep⟩
          rcases hS with hS | hS
          · refine .inl ⟨if_pos ⟨rfl, ?_⟩, hS⟩
            rcases hS with hS | ⟨o, hS⟩ <;> rw [hS] <;> exact fun z => nomatch z
          · exact .inr hS
        | succ i => simp at h
      · have h : (if b = a ∧ H a ≠ none then Tg.sh else .no) = .sl i := h
        split at h <;> cases h
      · have h : (if b = a ∧ H a ≠ none then Tg.sh else .no) = .io i := h
        split at h <;> cases h
      · have h : (if b = a ∧ H a ≠ none then Tg.sh else .no) ≠ .no := h
        split at h
        · rename_i z
          rw [z.1]
          exact z.2
        · exact absurd rfl h
    · cases i with
      | zero => cases h
      | succ i => simp at h
    · obtain ⟨A', e⟩ := hsp ns hlen
      rw [e]
      intro wh' H' x rl v _ hv
      have hv : Rep K wh' H' (.bl true) v := hv
      cases hv
      rfl
  · obtain ⟨_, _, _, _, _, _, _, _, _, _, _, _, z⟩ := h
    exact z
end Z

end
section
set_option Elab.async false
set_option linter.all false
set_option maxRecDepth 100000
namespace Z
open PySem PySem.Spec PyProof.Rows L2
/-! ### values of the written part -/
mutual
def dRep (K : PySem.W.Frag) : D → Value → Bool
  | .non, .none => true
  | .bl b, .bool c => b == c
  | .int i, .int j _ => decide (i = j)
  | .str x, .str y _ => decide (x = y)
  | .tup xs, .ref a => match K.lookup a with
    | some ⟨.type c, _, .seq its _, _⟩ => decide (c = "tuple") && (decide (its.size ≤ 16777216) && dRepL K xs its.toList)
    | _ => false
  | _, _ => false
def dRepL (K : PySem.W.Frag) : List D → List Value → Bool
  | [], [] => true
  | d :: ds, u :: us => dRep K d u && dRepL K ds us
  | _, _ => false
end
theorem noF {p : Prop} (h : false = true) : p := by cases h
mutual
theorem dRep_ok {K : PySem.W.Frag} : ∀ {d : D} {u : Value}, dRep K d u = true → ∃ v, RelV v u ∧ ∀ wh H, Rep K wh H d v
  | .non, u, h => by
    cases u <;> first | exact noF h | exact ⟨.non, rfl, fun wh H => .non⟩
  | .bl b, u, h => by
    cases u <;> first | exact noF h | skip
    have h := eq_of_beq h
    subst h
    exact ⟨.bl b, rfl, fun wh H => .bl b⟩
  | .int i, u, h => by
    cases u <;> first | exact noF h | skip
    have h := of_decide_eq_true h
    subst h
    exact ⟨.int i, ⟨_, rfl⟩, fun wh H => .int i⟩
  | .str x, u, h => by
    cases u <;> first | exact noF h | skip
    have h := of_decide_eq_true h
    subst h
    exact ⟨.str x, ⟨_, rfl⟩, fun wh H => .str x⟩
  | .tup xs, u, h => by
    cases u with
    | ref a =>
      have h : (match K.lookup a with
        | some ⟨.type c, _, .seq its _, _⟩ => decide (c = "tuple") && (decide (its.size ≤ 16777216) && dRepL K xs its.toList)
        | _ => false) = true := h
      split at h
      · rename_i c dd its n sl q
        simp only [Bool.and_eq_true, decide_eq_true_eq] at h
        obtain ⟨rfl, h1, h2⟩ := h
        obtain ⟨vs, r1, r2⟩ := dRepL_ok h2
        exact ⟨.ref a, rfl, fun wh H => .tup (.inr ⟨_, its, n, q, rfl, rfl, by rw [sizeLine_eq]; exact h1, r1⟩) (r2 wh H)⟩
      · exact noF h
    | _ => exact noF h
  | .lst _, u, h => by cases u <;> exact noF h
  | .fz _, u, h => by cases u <;> exact noF h
theorem dRepL_ok {K : PySem.W.Frag} : ∀ {ds : List D} {us : List Value}, dRepL K ds us = true → ∃ vs, Vals vs us ∧ ∀ wh H, RepL K wh H ds vs
  | [], us, h => by
    cases us with
    | nil => exact ⟨[], .nil, fun _ _ => .nil⟩
    | cons _ _ => exact noF h
  | d :: ds, us, h => by
    cases us with
    | nil => exact noF h
    | cons u us =>
      have h : (dRep K d u && dRepL K ds us) = true := h
      simp only [Bool.and_eq_true] at h
      obtain ⟨v, r1, r2⟩ := dRep_ok h.1
      obtain ⟨vs, r3, r4⟩ := dRepL_ok h.2
      exact ⟨v :: vs, .cons r1 r3, fun wh H => .cons (r2 wh H) (r4 wh H)⟩
end
/-- a global that stands for data -/
def gIs (K : PySem.W.Frag) (x : Str) (d : D) : Bool := match PySem.W.nsIn K mainGlobals x with
  | some (some u) => dRep K d u
  | _ => false
theorem gIs_ok {K : PySem.W.Frag} {h : Heap} {mg : Str → Option Value} (X : K.In h) (G : h.Ns mainGlobals mg) {x : Str} {d : D} (c : gIs K x d = true) : ∃ v u, mg x = some u ∧ RelV v u ∧ ∀ wh H, Rep K wh H d v := by
  unfold gIs at c
  split at c
  · rename_i u q
    obtain ⟨v, r1, r2⟩ := dRep_ok c
    exact ⟨v, u, PySem.W.mg_of X G q, r1, r2⟩
  · exact noF c
/-- a def's default, as data -/
def dfIs (K : PySem.W.Frag) : D → He.Dv → Bool
  | .non, .non => true
  | .bl b, .bl c => b == c
  | .int i, .int j => decide (i = j)
  | .str x, .str y => decide (x = y)
  | .tup xs, .adr p => dRep K (.tup xs) (.ref (p K))
  | _, _ => false
theorem dfIs_ok {K : PySem.W.Frag} {d : D} {v : He.Dv} (h : dfIs K d v = true) : ∀ wh H, Rep K wh H d (v.v K) := by
  cases d with
  | non => cases v <;> first | exact noF h | exact fun wh H => .non
  | bl b =>
    cases v <;> first | exact noF h | skip
    have h := eq_of_beq h
    subst h
    exact fun wh H => .bl b
  | int i =>
    cases v <;> first | exact noF h | skip
    have h := of_decide_eq_true h
    subst h
    exact fun wh H => .int i
  | str i =>
    cases v <;> first | exact noF h | skip
    have h := of_decide_eq_true h
    subst h
    exact fun wh H => .str i
  | tup xs =>
    cases v <;> first | exact noF h | skip
    obtain ⟨v, r1, r2⟩ := dRep_ok h
    have q := r2 (fun _ => .no) (fun _ => none)
    cases q with
    | @tup a vs xs _ _ =>
      have r1 : Value.ref _ = Value.ref a := r1
      cases r1
      exact r2
  | lst _ => cases v <;> exact noF h
  | fz _ => cases v <;> exact noF h
def dfAll (K : PySem.W.Frag) : List D → List He.Dv → Bool
  | [], [] => true
  | d :: ds, v :: vs => dfIs K d v && dfAll K ds vs
  | _, _ => false
theorem dfAll_ok {K : PySem.W.Frag} : ∀ {ds : List D} {vs : List He.Dv}, dfAll K ds vs = true → ∀ wh H, RepL K wh H ds (vs.map (He.Dv.v K))
  | [], [], _ => fun _ _ => .nil
  | d :: ds, v :: vs, h => by
    have h : (dfIs K d v && dfAll K ds vs) = true := h
    simp only [Bool.and_eq_true] at h
    exact fun wh H => .cons (dfIs_ok h.1 wh H) (dfAll_ok h.2 wh H)
  | [], _ :: _, h => noF h
  | _ :: _, [], h => noF h
/-! ### calls with defaults and keywords -/
inductive Src where
  | pos (i : Nat) | dfl (i : Nat) | kw (i : Nat)
def Src.get {α : Type} (us ds ws : List α) : Src → Option α
  | .pos i => us[i]?
  | .dfl i => ds[i]?
  | .kw i => ws[i]?
def gOrd (o : List Src) {α : Type} (us ds ws : List α) : List α := o.filterMap (Src.get us ds ws)
def Src.pa (n : Nat) (dd : List D) : Src → Pa
  | .pos i => .arg i
  | .dfl i => .dfl (dd.getD i .non)
  | .kw i => .arg (n + i)
def Src.inR (n l m : Nat) : Src → Bool
  | .pos i => decide (i < n)
  | .dfl i => decide (i < l)
  | .kw i => decide (i < m)
theorem Vals.at {vs : List V} {us : List Value} (h : Vals vs us) : ∀ i : Nat, (vs[i]? = none ∧ us[i]? = none) ∨ ∃ v u, vs[i]? = some v ∧ us[i]? = some u ∧ RelV v u := by
  induction h with
  | nil => exact fun i => .inl ⟨by simp, by simp⟩
  | cons r _ ih =>
    intro i
    cases i with
    | zero => exact .inr ⟨_, _, rfl, rfl, r⟩
    | succ i => simpa using ih i
theorem gOrd_rel (o : List Src) {vs ds zs : List V} {us its ws : List Value} (h1 : Vals vs us) (h2 : Vals ds its) (h3 : Vals zs ws) : Vals (gOrd o vs ds zs) (gOrd o us its ws) := by
  induction o with
  | nil => exact .nil
  | cons s o ih =>
    have go : (s.get vs ds zs = none ∧ s.get us its ws = none) ∨ ∃ v u, s.get vs ds zs = some v ∧ s.get us its ws = some u ∧ RelV v u := by
      cases s with
      | pos i => exact Vals.at h1 i
      | dfl i => exact Vals.at h2 i
      | kw i => exact Vals.at h3 i
    unfold gOrd at ih ⊢
    rcases go with ⟨e1, e2⟩ | ⟨v, u, e1, e2, r⟩
    · rw [List.filterMap_cons_none e1, List.filterMap_cons_none e2]; exact ih
    · rw [List.filterMap_cons_some e1, List.filterMap_cons_some e2]; exact .cons r ih
theorem pick_rel {K : PySem.W.Frag} {H0 : Hp} {wh : Who} {H : Hp} {σ : L2.St} {n : Nat} {dd : List D} {rs : List Rv} {vs zs dvs : List V} (hr : RRL K H0 wh H σ rs (vs ++ zs)) (hn : vs.length = n) (hd : RepL K wh H dd dvs) :
    ∀ {o : List Src} {qs : List Rv}, o.all (Src.inR n dd.length zs.length) = true → pickR rs (o.map (Src.pa n dd)) = some qs → RRL K H0 wh H σ qs (gOrd o vs dvs zs)
  | [], qs, _, e => by cases e; exact .nil
  | s :: o, qs, ha, e => by
    rw [List.all_cons, Bool.and_eq_true] at ha
    have ih := fun {qs} => pick_rel hr hn hd (o := o) (qs := qs) ha.2
    cases s with
    | pos i =>
      have hi : i < n := of_decide_eq_true ha.1
      have e : ((rs[i]?).bind fun r => (pickR rs (o.map (Src.pa n dd))).map (r :: ·)) = some qs := e
      cases q1 : rs[i]? with
      | none => rw [q1] at e; cases e
      | some r =>
        rw [q1] at e
        cases q2 : pickR rs (o.map (Src.pa n dd)) with
        | none => rw [q2] at e; cases e
        | some q0 =>
          rw [q2] at e
          cases e
          obtain ⟨v, k1, k2⟩ := hr.getR q1
          have k3 : (Src.pos i).get vs dvs zs = some v := by
            show vs[i]? = some v
            rw [← k1, List.getElem?_append_left (by omega)]
          unfold gOrd
          rw [List.filterMap_cons_some k3]
          exact .cons k2 (ih q2)
    | kw i =>
      have e : ((rs[n + i]?).bind fun r => (pickR rs (o.map (Src.pa n dd))).map (r :: ·)) = some qs := e
      cases q1 : rs[n + i]? with
      | none => rw [q1] at e; cases e
      | some r =>
        rw [q1] at e
        cases q2 : pickR rs (o.map (Src.pa n dd)) with
        | none => rw [q2] at e; cases e
        | some q0 =>
          rw [q2] at e
          cases e
          obtain ⟨v, k1, k2⟩ := hr.getR q1
          have k3 : (Src.kw i).get vs dvs zs = some v := by
            show zs[i]? = some v
            rw [← k1, List.getElem?_append_right (by omega)]
            congr 1
            omega
          unfold gOrd
          rw [List.filterMap_cons_some k3]
          exact .cons k2 (ih q2)
    | dfl i =>
      have hi : i < dd.length := of_decide_eq_true ha.1
      have e : ((pickR rs (o.map (Src.pa n dd))).map (Rv.sh (dd.getD i .non) :: ·)) = some qs := e
      cases q2 : pickR rs (o.map (Src.pa n dd)) with
      | none => rw [q2] at e; cases e
      | some q0 =>
        rw [q2] at e
        cases e
        have q3 : dd[i]? = some (dd.getD i .non) := by
          rw [List.getD_eq_getElem?_getD, List.getElem?_eq_getElem hi]; rfl
        obtain ⟨v, k1, k2⟩ := hd.get q3
        unfold gOrd
        rw [List.filterMap_cons_some (show (Src.dfl i).get vs dvs zs = some v from k1)]
        exact .cons k2 (ih q2)
section
variable {K : PySem.W.Frag} {x qual : Str} {params : Arguments} {body : List Stmt} {scope : Scope} {dvs : List V} {kws : List (Str × V)} {f : Addr} {fd : FuncData} {ps : List Str}
theorem kw_of (F : FunD K x qual params body scope dvs kws f fd) (n : Nat) (ks : List Str) (o : List Src) (dd : List D) (hd : dvs ≠ []) (hdd : ∀ wh H, RepL K wh H dd dvs) (ha : o.all (Src.inR n dd.length ks.length) = true)
    (h : ∀ (T : Addr) (kV doc pm : Value) (an : Option Addr) (cdv ct : Value) (us its ws : List Value), us.length = n → its.length = dvs.length → ws.length = ks.length →
      ∃ k, bindArgs (PySem.W.fnOf x qual params body scope (.ref T) kV doc pm an cdv ct) ⟨us, ks.zip ws⟩ = seqItems? (.ref T) >>= k ∧ k (some its.toArray) = pure (ps.zip (gOrd o us its ws))) : KwOk K fd ps ⟨x, n, ks, o.map (Src.pa n dd)⟩ := by
  obtain ⟨its, kb⟩ := F.kbindsD n ks (fun us ds ws => gOrd o us ds ws) hd (fun h1 h2 h3 => gOrd_rel o h1 h2 h3) h
  refine ⟨_, _, kb, fun H0 wh H σ rs qs vs zs hr h1 h2 hp => ?_⟩
  exact pick_rel hr h1 (hdd wh H) (by rw [h2]; exact ha) hp
end
/-! ### the Hook -/
def obsZG (n : Nat) (fa : List He.Fa) (fn : List He.DefD) (ex : PySem.W.Frag → Bool) (g : Addr → Option Obj) : He.AlD × Bool := (He.obsD fa fn (He.frG g (He.asD g n)), ex (He.frG g (He.asD g n)))
def SaysZ (fa : List He.Fa) (fn : List He.DefD) (ex : PySem.W.Frag → Bool) (K : PySem.W.Frag) : Prop := He.SaysD fa fn K ∧ ex K = true
def hookZ (n : Nat) (fa : List He.Fa) (fn : List He.DefD) (ex : PySem.W.Frag → Bool) : PySem.W.Hook where
  α := He.AlD × Bool
  obs := fun s => obsZG n fa fn ex s.heap.get?
  val := fun _ => (He.valD fn, true)
  says := fun _ h => ∃ K : PySem.W.Frag, K.In h ∧ SaysZ fa fn ex K
  of := fun _ _ e => ⟨_, He.frG_in, congrArg Prod.fst e, congrArg Prod.snd e⟩
  keeps := fun _ _ _ ⟨K, hK, c⟩ k => ⟨K, PySem.W.Frag.In.keeps hK k, c⟩
theorem obsZG_eq {n : Nat} {fa : List He.Fa} {fn : List He.DefD} {ex : PySem.W.Frag → Bool} {g : Addr → Option Obj} {s : Shared} (h : ∀ a, g a = s.heap.get? a) : obsZG n fa fn ex g = (hookZ n fa fn ex).obs s := by
  have e : g = s.heap.get? := funext h
  rw [e] <;> rfl
end Z

end
section
set_option Elab.async false
set_option linter.all false
set_option maxRecDepth 100000
set_option maxHeartbeats 0
namespace Z
open PySem PySem.Spec PyProof.Rows L2
/-! ### steps told by equations; what is behind is not looked at before it is reached -/
section
variable {α β γ : Type}
/-- what a value hangs on stays as it is for simp -/
structure Held {γ : Type} (k : γ) : Type where
  mk ::
def bindL (r : Rs α) (k : α → Fm → Rs β) (_ : Held k) : Rs β := r.bind k
theorem bind_L {r : Rs α} {k : α → Fm → Rs β} : r.bind k = bindL r k ⟨⟩ := Eq.trans rfl rfl
theorem bindL_ok {a : α} {F : Fm} {k : α → Fm → Rs β} {t : Held k} : bindL (Rs.ok a F) k t = k a F := Eq.trans rfl rfl
theorem bindL_ex {e : Ex} {F : Fm} {k : α → Fm → Rs β} {t : Held k} : bindL (Rs.ex e F : Rs α) k t = .ex e F := Eq.trans rfl rfl
theorem bindL_bad {k : α → Fm → Rs β} {t : Held k} : bindL (Rs.bad : Rs α) k t = .bad := Eq.trans rfl rfl
def thnL (r : Rs α) (k : α → Fm → SR) (_ : Held k) : SR := r.thn k
theorem thn_L {r : Rs α} {k : α → Fm → SR} : r.thn k = thnL r k ⟨⟩ := Eq.trans rfl rfl
theorem thnL_ok {a : α} {F : Fm} {k : α → Fm → SR} {t : Held k} : thnL (Rs.ok a F) k t = k a F := Eq.trans rfl rfl
theorem thnL_ex {e : Ex} {F : Fm} {k : α → Fm → SR} {t : Held k} : thnL (Rs.ex e F : Rs α) k t = .ex e F := Eq.trans rfl rfl
theorem thnL_bad {k : α → Fm → SR} {t : Held k} : thnL (Rs.bad : Rs α) k t = .bad := Eq.trans rfl rfl
def seqL (r : SR) (k : Fm → SR) (_ : Held k) : SR := r.seq k
theorem seq_L {r : SR} {k : Fm → SR} : r.seq k = seqL r k ⟨⟩ := Eq.trans rfl rfl
theorem seqL_next {F : Fm} {k : Fm → SR} {t : Held k} : seqL (SR.next F) k t = k F := Eq.trans rfl rfl
theorem seqL_brk {F : Fm} {k : Fm → SR} {t : Held k} : seqL (SR.brk F) k t = .brk F := Eq.trans rfl rfl
theorem seqL_cnt {F : Fm} {k : Fm → SR} {t : Held k} : seqL (SR.cnt F) k t = .cnt F := Eq.trans rfl rfl
theorem seqL_ret {r : Rv} {F : Fm} {k : Fm → SR} {t : Held k} : seqL (SR.ret r F) k t = .ret r F := Eq.trans rfl rfl
theorem seqL_ex {e : Ex} {F : Fm} {k : Fm → SR} {t : Held k} : seqL (SR.ex e F) k t = .ex e F := Eq.trans rfl rfl
theorem seqL_bad {k : Fm → SR} {t : Held k} : seqL (SR.bad) k t = .bad := Eq.trans rfl rfl
def ofOL (o : Option α) (k : α → Rs β) (_ : Held k) : Rs β := ofO o k
theorem ofO_L {o : Option α} {k : α → Rs β} : ofO o k = ofOL o k ⟨⟩ := Eq.trans rfl rfl
theorem ofOL_some {a : α} {k : α → Rs β} {t : Held k} : ofOL (some a) k t = k a := Eq.trans rfl rfl
theorem ofOL_none {k : α → Rs β} {t : Held k} : ofOL none k t = .bad := Eq.trans rfl rfl
def callE (rs : List Rv) (F : Fm) : Rs Rv → Rs Rv
  | .ok (.ow _) _ => .bad
  | .ok (.sh d) A => ofO (backSlots F rs A) fun F' => .ok (.sh d) F'
  | .ok (.fr xs) A => ofO (backSlots F rs A) fun F' => .ok (.fr xs) F'
  | .ex e A => ofO (backSlots F rs A) fun F' => .ex e F'
  | .bad => .bad
theorem callR_E (fn : Fn) (rs : List Rv) (F : Fm) : callR fn rs F = if (owns rs).Nodup then ofO (toSlots F rs) fun A => callE rs F (fn A) else .bad := by
  unfold callR
  congr 1
  cases toSlots F rs with
  | none => rfl
  | some A =>
    show _ = callE rs F (fn A)
    show (match fn A with
      | .ok rv A' => ofO (backSlots F rs A') fun F' => match rv with
        | .ow _ => .bad
        | rv => .ok rv F'
      | .ex e A' => ofO (backSlots F rs A') fun F' => .ex e F'
      | .bad => .bad) = _
    cases fn A with
    | ok rv A' => cases rv <;> simp only [callE] <;> (cases backSlots F rs A' <;> rfl)
    | ex e A' => rfl
    | bad => rfl
end
abbrev iD (xs : List Int) : List D := xs.map .int
def Nx (r : SR) (P : Fm → Prop) : Prop := match r with
  | .next F => P F
  | .cnt F => P F
  | _ => False
def Ok {α : Type} (r : Rs α) (P : α → Fm → Prop) : Prop := match r with
  | .ok a F => P a F
  | _ => False
theorem Ok.get {α : Type} {r : Rs α} {P : α → Fm → Prop} (h : Ok r P) : ∃ a F, r = .ok a F ∧ P a F := by
  cases r with
  | ok a F => exact ⟨a, F, rfl, h⟩
  | ex _ _ => exact h.elim
  | bad => exact h.elim
theorem Nx.get {r : SR} {P : Fm → Prop} (h : Nx r P) : ∃ F, (r = .next F ∨ r = .cnt F) ∧ P F := by
  cases r with
  | next F => exact ⟨F, .inl rfl, h⟩
  | cnt F => exact ⟨F, .inr rfl, h⟩
  | _ => exact h.elim
theorem Nx.mono {r : SR} {P Q : Fm → Prop} (h : Nx r P) (k : ∀ F, P F → Q F) : Nx r Q := by
  cases r with
  | next F => exact k F h
  | cnt F => exact k F h
  | _ => exact h.elim
/-! ### loops -/
theorem forM_inv {tg : Tgt} {b : Fm → SR} {dead : List Nat} (P : Nat → Fm → Prop) : ∀ (ds : List D) (k : Nat) (F : Fm), P k F →
    (∀ i d F, ds[i]? = some d → P (k + i) F → ∃ F1, setT tg d (killD F dead) = some F1 ∧ ∃ F2, (b F1 = .next F2 ∨ b F1 = .cnt F2) ∧ P (k + i + 1) F2) → ∃ F', forM tg b dead ds F = .next (killD F' dead) ∧ P (k + ds.length) F'
  | [], k, F, h0, _ => ⟨F, rfl, h0⟩
  | d :: ds, k, F, h0, h => by
    obtain ⟨F1, e1, F2, e2, p2⟩ := h 0 d F rfl h0
    have ih := forM_inv P ds (k + 1) F2 p2 (fun i d F hd hp => by
      have := h (i + 1) d F (by simpa using hd) (by rw [show k + (i + 1) = k + 1 + i by omega]; exact hp)
      rw [show k + (i + 1) + 1 = k + 1 + i + 1 by omega] at this
      exact this)
    obtain ⟨F', e3, p3⟩ := ih
    refine ⟨F', ?_, by rw [show k + (d :: ds).length = k + 1 + ds.length by simp; omega]; exact p3⟩
    unfold forM
    rw [e1]
    rcases e2 with e2 | e2
    · show (match b F1 with
        | .next F2 => forM tg b dead ds F2
        | .cnt F2 => forM tg b dead ds F2
        | .brk F2 => .next (killD F2 dead)
        | r => r) = _
      rw [e2]
      exact e3
    · show (match b F1 with
        | .next F2 => forM tg b dead ds F2
        | .cnt F2 => forM tg b dead ds F2
        | .brk F2 => .next (killD F2 dead)
        | r => r) = _
      rw [e2]
      exact e3
/-- the same by the killed frame -/
theorem forM_kill {tg : Tgt} {b : Fm → SR} {dead : List Nat} (P : Nat → Fm → Prop) (ds : List D) (F : Fm) (h0 : P 0 (killD F dead))
    (h : ∀ i d F, ds[i]? = some d → P i F → ∃ F1, setT tg d F = some F1 ∧ Nx (b F1) fun F2 => P (i + 1) (killD F2 dead)) : ∃ F', forM tg b dead ds F = .next F' ∧ P ds.length F' := by
  obtain ⟨F', e, p⟩ := forM_inv (tg := tg) (b := b) (dead := dead) (fun i F => P i (killD F dead)) ds 0 F h0 fun i d F hd hp => by
    rw [Nat.zero_add] at hp ⊢
    obtain ⟨F1, e1, n⟩ := h i d (killD F dead) hd hp
    obtain ⟨F2, e2, p2⟩ := n.get
    exact ⟨F1, e1, F2, e2, p2⟩
  exact ⟨_, e, by rw [Nat.zero_add] at p; exact p⟩
theorem whlM_inv {t : Fm → Rs Bool} {b : Fm → SR} {dead : List Nat} (P R : Fm → Prop) (μ : Fm → Nat) : ∀ (n : Nat) (F : Fm), P F → μ F < n →
    (∀ F, P F → (∃ F1, t (killD F dead) = .ok true F1 ∧ ∃ F2, (b F1 = .next F2 ∨ b F1 = .cnt F2) ∧ P F2 ∧ μ F2 < μ F) ∨ (∃ F1, t (killD F dead) = .ok false F1 ∧ R F1)) → ∃ F', whlM t b dead n F = .next F' ∧ R F'
  | 0, F, _, h, _ => absurd h (Nat.not_lt_zero _)
  | n + 1, F, h0, hm, h => by
    rcases h F h0 with ⟨F1, e1, F2, e2, p2, m2⟩ | ⟨F1, e1, r1⟩
    · obtain ⟨F', e3, p3⟩ := whlM_inv P R μ n F2 p2 (by omega) h
      refine ⟨F', ?_, p3⟩
      unfold whlM
      rw [e1]
      show (match b F1 with
        | .next F2 => whlM t b dead n F2
        | .cnt F2 => whlM t b dead n F2
        | .brk F2 => .next (killD F2 dead)
        | r => r) = _
      rcases e2 with e2 | e2 <;> rw [e2] <;> exact e3
    · refine ⟨F1, ?_, r1⟩
      unfold whlM
      rw [e1]
      rfl
theorem lc_map {own : List Nat} {tg : Tgt} {t : Fm → Rs Bool} {e : Fm → Rs Rv} (g : D → D) {F0 : Fm} : ∀ (ds acc : List D),
    (∀ d ∈ ds, ∃ F1 F2 F3, setT tg d F0 = some F1 ∧ t F1 = .ok true F2 ∧ shM e F2 = .ok (.sh (g d)) F3 ∧ killL F3 own = F0) → acc.length + ds.length ≤ 16777216 → lcLoop own tg t e ds acc F0 = .ok (acc ++ ds.map g) F0
  | [], acc, _, _ => by simp [lcLoop]
  | d :: ds, acc, h, hl => by
    obtain ⟨F1, F2, F3, e1, e2, e3, e4⟩ := h d (List.mem_cons_self ..)
    rw [List.length_cons] at hl
    have hl1 : line (acc.length + 1) = true := by rw [line_eq]; exact decide_eq_true (by omega)
    have ih := lc_map g (F0 := F0) ds (acc ++ [g d]) (fun d hd => h d (List.mem_cons_of_mem _ hd)) (by rw [List.length_append, List.length_singleton]; omega)
    simp only [lcLoop, e1, ofO, e2, noX, Rs.bind, if_true, e3, hl1, e4, ih]
    simp
/-- the same with a state that moves on -/
theorem lc_step {own : List Nat} {tg : Tgt} {t : Fm → Rs Bool} {e : Fm → Rs Rv} (P : Nat → List D → Fm → Prop) : ∀ (ds : List D) (k : Nat) (acc : List D) (F : Fm), P k acc F →
    (∀ i d acc F, ds[i]? = some d → P (k + i) acc F → ∃ F1, setT tg d F = some F1 ∧ ∃ c F2, t F1 = .ok c F2 ∧ ((c = false ∧ P (k + i + 1) acc (killL F2 own)) ∨ (c = true ∧ ∃ y F3, shM e F2 = .ok (.sh y) F3 ∧ acc.length < 16777216 ∧ P (k + i + 1) (acc ++ [y]) (killL F3 own)))) →
    ∃ acc' F', lcLoop own tg t e ds acc F = .ok acc' F' ∧ P (k + ds.length) acc' F'
  | [], k, acc, F, h0, _ => ⟨acc, F, rfl, h0⟩
  | d :: ds, k, acc, F, h0, h => by
    have next : ∀ acc F, P (k + 1) acc F → ∃ acc' F', lcLoop own tg t e ds acc F = .ok acc' F' ∧ P (k + (d :: ds).length) acc' F' := fun acc F hp => by
      obtain ⟨acc', F', q1, q2⟩ := lc_step P ds (k + 1) acc F hp (fun i d acc F hd hp => by
        have := h (i + 1) d acc F (by simpa using hd) (by rw [show k + (i + 1) = k + 1 + i by omega]; exact hp)
        rw [show k + (i + 1) + 1 = k + 1 + i + 1 by omega] at this
        exact this)
      exact ⟨acc', F', q1, by rw [show k + (d :: ds).length = k + 1 + ds.length by simp; omega]; exact q2⟩
    obtain ⟨F1, e1, c, F2, e2, q⟩ := h 0 d acc F rfl h0
    rcases q with ⟨rfl, q⟩ | ⟨rfl, y, F3, e3, hl, q⟩
    · obtain ⟨acc', F', q1, q2⟩ := next _ _ q
      refine ⟨acc', F', ?_, q2⟩
      simp only [lcLoop, e1, ofO, e2, noX, Rs.bind, Bool.false_eq_true, if_false, q1]
    · obtain ⟨acc', F', q1, q2⟩ := next _ _ q
      refine ⟨acc', F', ?_, q2⟩
      have hl1 : line (acc.length + 1) = true := by rw [line_eq]; exact decide_eq_true (by omega)
      simp only [lcLoop, e1, ofO, e2, noX, Rs.bind, if_true, e3, hl1, q1]
/-! ### loops whose frames are told -/
theorem forM_nx {tg : Tgt} {b : Fm → SR} {dead : List Nat} {d : D} {ds : List D} {F F1 : Fm} {r : SR} (e1 : setT tg d (killD F dead) = some F1) (h : Nx (b F1) fun F2 => forM tg b dead ds F2 = r) : forM tg b dead (d :: ds) F = r := by
  obtain ⟨F2, e2, q⟩ := h.get
  unfold forM
  rw [e1]
  show (match b F1 with
    | .next F2 => forM tg b dead ds F2
    | .cnt F2 => forM tg b dead ds F2
    | .brk F2 => .next (killD F2 dead)
    | r => r) = _
  rcases e2 with e2 | e2 <;> rw [e2] <;> exact q
theorem forM_pre' {α : Type} {tg : Tgt} {b : Fm → SR} {dead : List Nat} (inj : α → D) (st : List α → Fm) (xs : List α)
    (h : ∀ pre x post, xs = pre ++ x :: post → ∃ F1, setT tg (inj x) (st pre) = some F1 ∧ Nx (b F1) fun F2 => killD F2 dead = st (pre ++ [x])) :
    ∀ (post pre : List α) (F : Fm), xs = pre ++ post → killD F dead = st pre → forM tg b dead (post.map inj) F = .next (st xs)
  | [], pre, F, e, h0 => by
    rw [List.append_nil] at e
    subst e
    show SR.next (killD F dead) = _
    rw [h0]
  | x :: post, pre, F, e, h0 => by
    obtain ⟨F1, e1, n⟩ := h pre x post e
    refine forM_nx (F1 := F1) (by rw [h0]; exact e1) ?_
    obtain ⟨F2, e2, q⟩ := n.get
    have := forM_pre' inj st xs h post (pre ++ [x]) F2 (by rw [e]; simp) q
    rcases e2 with e2 | e2 <;> rw [e2] <;> exact this
/-- a loop over a list, its frame told by what is behind -/
theorem forM_pre {α : Type} {tg : Tgt} {b : Fm → SR} {dead : List Nat} (inj : α → D) (st : List α → Fm) (xs : List α) (F : Fm) (h0 : killD F dead = st [])
    (h : ∀ pre x post, xs = pre ++ x :: post → ∃ F1, setT tg (inj x) (st pre) = some F1 ∧ Nx (b F1) fun F2 => killD F2 dead = st (pre ++ [x])) :
    forM tg b dead (xs.map inj) F = .next (st xs) := forM_pre' inj st xs h xs [] F rfl h0
theorem forM_rng' {tg : Tgt} {b : Fm → SR} {dead : List Nat} (inj : Nat → D) (st : Nat → Fm) (q : Nat)
    (h : ∀ i, i < q → ∃ F1, setT tg (inj i) (st i) = some F1 ∧ Nx (b F1) fun F2 => killD F2 dead = st (i + 1)) :
    ∀ (m k : Nat) (F : Fm), k + m = q → killD F dead = st k → forM tg b dead ((List.range' k m).map inj) F = .next (st q)
  | 0, k, F, e, h0 => by
    rw [Nat.add_zero] at e
    subst e
    show SR.next (killD F dead) = _
    rw [h0]
  | m + 1, k, F, e, h0 => by
    obtain ⟨F1, e1, n⟩ := h k (by omega)
    refine forM_nx (F1 := F1) (by rw [h0]; exact e1) ?_
    obtain ⟨F2, e2, p⟩ := n.get
    have := forM_rng' inj st q h m (k + 1) F2 (by omega) p
    rcases e2 with e2 | e2 <;> rw [e2] <;> exact this
/-- a loop over a range -/
theorem forM_rng {tg : Tgt} {b : Fm → SR} {dead : List Nat} (inj : Nat → D) (st : Nat → Fm) (q : Nat) (F : Fm) (h0 : killD F dead = st 0)
    (h : ∀ i, i < q → ∃ F1, setT tg (inj i) (st i) = some F1 ∧ Nx (b F1) fun F2 => killD F2 dead = st (i + 1)) :
    forM tg b dead ((List.range q).map inj) F = .next (st q) := by
  rw [List.range_eq_range']
  exact forM_rng' inj st q h q 0 F (Nat.zero_add _) h0
theorem whlM_n' {t : Fm → Rs Bool} {b : Fm → SR} {dead : List Nat} (st : Nat → Fm) (n : Nat) (F' : Fm)
    (hs : ∀ k, k < n → ∃ F1, t (st k) = .ok true F1 ∧ Nx (b F1) fun F2 => killD F2 dead = st (k + 1)) (he : t (st n) = .ok false F') :
    ∀ (m k N : Nat) (F : Fm), k + m = n → m < N → killD F dead = st k → whlM t b dead N F = .next F'
  | 0, k, N + 1, F, e, _, h0 => by
    rw [Nat.add_zero] at e
    subst e
    unfold whlM
    rw [h0, he]
    rfl
  | m + 1, k, N + 1, F, e, hN, h0 => by
    obtain ⟨F1, e1, q⟩ := hs k (by omega)
    obtain ⟨F2, e2, p⟩ := q.get
    have := whlM_n' st n F' hs he m (k + 1) N F2 (by omega) (by omega) p
    unfold whlM
    rw [h0, e1]
    show (match b F1 with
      | .next F2 => whlM t b dead N F2
      | .cnt F2 => whlM t b dead N F2
      | .brk F2 => .next (killD F2 dead)
      | r => r) = _
    rcases e2 with e2 | e2 <;> rw [e2] <;> exact this
/-- a loop of so many turns -/
theorem whlM_n {t : Fm → Rs Bool} {b : Fm → SR} {dead : List Nat} (st : Nat → Fm) (n : Nat) {F' : Fm} (F : Fm) (hn : n < 1099511627776) (h0 : killD F dead = st 0)
    (hs : ∀ k, k < n → ∃ F1, t (st k) = .ok true F1 ∧ Nx (b F1) fun F2 => killD F2 dead = st (k + 1)) (he : t (st n) = .ok false F') : whlM t b dead fuel F = .next F' :=
  whlM_n' st n F' hs he n 0 fuel F (Nat.zero_add _) (by rw [fuel_eq]; exact hn) h0
theorem whlM_nx {t : Fm → Rs Bool} {b : Fm → SR} {dead : List Nat} {N : Nat} {F F1 : Fm} {r : SR} (e1 : t (killD F dead) = .ok true F1) (h : Nx (b F1) fun F2 => whlM t b dead N F2 = r) : whlM t b dead (N + 1) F = r := by
  obtain ⟨F2, e2, q⟩ := h.get
  unfold whlM
  rw [e1]
  show (match b F1 with
    | .next F2 => whlM t b dead N F2
    | .cnt F2 => whlM t b dead N F2
    | .brk F2 => .next (killD F2 dead)
    | r => r) = _
  rcases e2 with e2 | e2 <;> rw [e2] <;> exact q
theorem whlM_end {t : Fm → Rs Bool} {b : Fm → SR} {dead : List Nat} {N : Nat} {F F1 : Fm} (e1 : t (killD F dead) = .ok false F1) : whlM t b dead (N + 1) F = .next F1 := by
  unfold whlM
  rw [e1]
  rfl
/-- a comprehension with a test -/
theorem lc_fil {own : List Nat} {tg : Tgt} {t : Fm → Rs Bool} {e : Fm → Rs Rv} (p : D → Bool) (g : D → D) {F0 : Fm} : ∀ (ds acc : List D),
    (∀ d ∈ ds, ∃ F1 F2, setT tg d F0 = some F1 ∧ t F1 = .ok (p d) F2 ∧ (p d = false → killL F2 own = F0) ∧ (p d = true → ∃ F3, shM e F2 = .ok (.sh (g d)) F3 ∧ killL F3 own = F0)) → acc.length + ds.length ≤ 16777216 →
    lcLoop own tg t e ds acc F0 = .ok (acc ++ (ds.filter p).map g) F0
  | [], acc, _, _ => by simp [lcLoop]
  | d :: ds, acc, h, hl => by
    obtain ⟨F1, F2, e1, e2, e3, e4⟩ := h d (List.mem_cons_self ..)
    rw [List.length_cons] at hl
    have hl1 : line (acc.length + 1) = true := by rw [line_eq]; exact decide_eq_true (by omega)
    cases q : p d with
    | false =>
      have ih := lc_fil p g (F0 := F0) ds acc (fun d hd => h d (List.mem_cons_of_mem _ hd)) (by omega)
      rw [q] at e2
      simp only [lcLoop, e1, ofO, e2, noX, Rs.bind, Bool.false_eq_true, if_false, e3 q, ih]
      simp [q]
    | true =>
      obtain ⟨F3, e5, e6⟩ := e4 q
      have ih := lc_fil p g (F0 := F0) ds (acc ++ [g d]) (fun d hd => h d (List.mem_cons_of_mem _ hd)) (by rw [List.length_append, List.length_singleton]; omega)
      rw [q] at e2
      simp only [lcLoop, e1, ofO, e2, noX, Rs.bind, if_true, e5, hl1, e6, ih]
      simp [q]
/-! ### lists of ints as data -/
theorem lay_map {α : Type} (f : α → Int) : ∀ ns : List α, PyData.canLayAll0 (D.pyL (ns.map fun i => D.int (f i))) = true
  | [] => by simp [D.pyL, PyData.canLayAll0]
  | n :: r => by
    have := lay_map f r
    simp only [List.map_cons, D.pyL, D.py, PyData.canLayAll0, PyData.canLay0, Bool.true_and]
    exact this
theorem depth_map {α : Type} (f : α → Int) : ∀ ns : List α, PyData.depthAll (D.pyL (ns.map fun i => D.int (f i))) ≤ 1
  | [] => by simp [D.pyL, PyData.depthAll]
  | n :: r => by
    have := depth_map f r
    simp only [List.map_cons, D.pyL, D.py, PyData.depthAll, PyData.depth]
    omega
theorem depth_map' {α : Type} (f : α → Int) (ns : List α) (k : Nat) (h : 1 ≤ k) : PyData.depthAll (D.pyL (ns.map fun i => D.int (f i))) ≤ k := Nat.le_trans (depth_map f ns) h
theorem lay_ints (ns : List Int) : PyData.canLayAll0 (D.pyL (iD ns)) = true := lay_map id ns
theorem depth_ints (ns : List Int) : PyData.depthAll (D.pyL (iD ns)) ≤ 1 := depth_map id ns
theorem depth_ints' (ns : List Int) : PyData.depthAll (D.pyL (iD ns)) ≤ 63 := Nat.le_trans (depth_ints ns) (by omega)
theorem depth_ints7 (ns : List Int) : PyData.depthAll (D.pyL (iD ns)) ≤ 7 := Nat.le_trans (depth_ints ns) (by omega)
theorem shaped_ints (ns : List Int) : SeqAt.shaped (.list (D.pyL (iD ns))) = true := by
  have h1 := depth_ints ns
  have h2 : PyData.depth (.list (D.pyL (iD ns))) ≤ 64 := by simp only [PyData.depth]; omega
  show (PyData.canLay0 (.list (D.pyL (iD ns))) && decide (PyData.depth (.list (D.pyL (iD ns))) ≤ 64)) = true
  rw [Bool.and_eq_true]
  exact ⟨by simp only [PyData.canLay0]; exact lay_ints ns, decide_eq_true h2⟩
theorem eqv_ints : ∀ ns ms : List Int, PyData.eqvAll (D.pyL (iD ns)) (D.pyL (iD ms)) = decide (ns = ms)
  | [], [] => by simp [D.pyL, PyData.eqvAll]
  | [], _ :: _ => by simp [D.pyL, PyData.eqvAll]
  | _ :: _, [] => by simp [D.pyL, PyData.eqvAll]
  | n :: r, m :: s => by
    have := eqv_ints r s
    simp only [iD] at this
    simp only [List.map_cons, D.pyL, D.py, PyData.eqvAll, this, PyData.eqv, List.cons.injEq]
    by_cases h : n = m
    · simp [h]
    · simp [h]
theorem ne_ints (ns : List Int) (F : Fm) : neR (.fr (iD ns)) (.sh (.lst (iD ns))) F = some false := by
  have h1 := shaped_ints ns
  have h2 := eqv_ints ns ns
  simp only [neR, eqR, pyR, D.py, h1, Bool.and_self, if_true, Option.map_some, PyData.eqv, h2, decide_true, Bool.not_true]
theorem ne_ints' (ns : List Int) (F : Fm) (i : Nat) (h : ownAt F i = some (iD ns)) : neR (.fr (iD ns)) (.ow i) F = some false := by
  have h1 := shaped_ints ns
  have h2 := eqv_ints ns ns
  simp only [neR, eqR, pyR, h, h1, Bool.and_self, if_true, Option.map_some, PyData.eqv, h2, decide_true, Bool.not_true]
/-! ### slices, ranges -/
theorem cutD_nat (xs : List D) (a b : Nat) : cutD xs (some (a : Int)) (some (b : Int)) = (xs.drop a).take (b - a) := by
  unfold cutD
  rw [HT.sIx_nat, HT.sIx_nat]
  by_cases h : a ≤ xs.length
  · rw [Nat.min_eq_left h]
    by_cases h2 : b ≤ xs.length
    · rw [Nat.min_eq_left h2]
    · rw [Nat.min_eq_right (by omega), List.take_of_length_le (by simp), List.take_of_length_le (by simp; omega)]
  · rw [show min a xs.length = xs.length by omega, List.drop_of_length_le (Nat.le_refl _), List.drop_of_length_le (show xs.length ≤ a by omega)]
    simp
theorem cutD_to (xs : List D) (b : Nat) : cutD xs none (some (b : Int)) = xs.take b := by
  unfold cutD
  rw [HT.sIx_nat]
  show (xs.drop 0).take (min b xs.length - 0) = _
  rw [List.drop_zero, Nat.sub_zero]
  by_cases h2 : b ≤ xs.length
  · rw [Nat.min_eq_left h2]
  · rw [Nat.min_eq_right (by omega), List.take_of_length_le (Nat.le_refl _), List.take_of_length_le (by omega)]
theorem cutD_from (xs : List D) (a : Nat) : cutD xs (some (a : Int)) none = xs.drop a := by
  unfold cutD
  rw [HT.sIx_nat]
  show (xs.drop (min a xs.length)).take (xs.length - min a xs.length) = _
  by_cases h2 : a ≤ xs.length
  · rw [Nat.min_eq_left h2, List.take_of_length_le (by simp)]
  · rw [show min a xs.length = xs.length by omega, List.drop_of_length_le (Nat.le_refl _), List.drop_of_length_le (show xs.length ≤ a by omega)]
    simp
theorem rng3_eq (i j c : Int) : rng3 [.sh (.int i), .sh (.int j), .sh (.int c)] = if rngOk i j c then some ((List.range (Builtin.Range.rangeSize i j c).toNat).map fun (k : Nat) => .int (i + (k : Int) * c)) else none := rfl
/-- range(0, n, c): its items -/
theorem rng3_nat {n c : Nat} (hc : 0 < c) (hc2 : c < 1073741824) (hn : n < 4611686018427387904) : rng3 [.sh (.int 0), .sh (.int (n : Int)), .sh (.int (c : Int))] = some ((List.range ((n + c - 1) / c)).map fun k => .int ((k * c : Nat) : Int)) := by
  have hs : Builtin.Range.rangeSize 0 (n : Int) (c : Int) = (((n + c - 1) / c : Nat) : Int) := by
    unfold Builtin.Range.rangeSize
    rw [if_pos (show (c : Int) > 0 by omega)]
    by_cases h0 : n = 0
    · subst h0
      rw [if_neg (by omega)]
      have : (0 + c - 1) / c = 0 := Nat.div_eq_of_lt (by omega)
      rw [this]; rfl
    · rw [if_pos (by omega)]
      have e1 : ((n : Int) - 0 - 1) = ((n - 1 : Nat) : Int) := by omega
      rw [e1, ← Int.natCast_ediv]
      have e2 : (n + c - 1) / c = (n - 1) / c + 1 := by
        rw [show n + c - 1 = (n - 1) + c by omega, Nat.add_div_right _ hc]
      rw [e2]; rfl
  have hq : (n + c - 1) / c ≤ n := by
    by_cases h0 : n = 0
    · subst h0
      rw [Nat.div_eq_of_lt (by omega)]
      exact Nat.le_refl _
    · rw [show n + c - 1 = (n - 1) + c by omega, Nat.add_div_right _ hc]
      have := Nat.div_le_self (n - 1) c
      omega
  have hm : ((n + c - 1) / c) * c < n + c := by
    have := Nat.div_mul_le_self (n + c - 1) c
    omega
  have sm : Builtin.Range.small 0 (n : Int) (c : Int) = true := by
    unfold Builtin.Range.small
    rw [hs, if_pos (show (c : Int) > 0 by omega)]
    have hm' : (((n + c - 1) / c : Nat) : Int) * (c : Int) < n + c := by
      rw [← Int.natCast_mul]
      omega
    simp only [Builtin.Range.rangeFitsLong, Bool.and_eq_true, Bool.or_eq_true, decide_eq_true_eq, beq_iff_eq]
    generalize (n + c - 1) / c = q at *
    generalize (q : Int) * (c : Int) = z at *
    omega
  have g : rngOk 0 (n : Int) (c : Int) = true := by
    rw [rngOk_eq, sm, Bool.and_true, decide_eq_true_eq]
    omega
  rw [rng3_eq, if_pos g, hs, Int.toNat_natCast]
  refine congrArg some ?_
  refine List.map_congr_left fun k _ => ?_
  rw [Int.zero_add, Int.natCast_mul]
/-! ### the law's own numbers -/
def SrcP (B : Nat) (xs : List D) : Prop := ∃ d s c : Int, xs = [.int d, .int s, .int c] ∧ 0 ≤ d ∧ 0 ≤ s ∧ s < 68719476736 ∧ 0 ≤ c ∧ c ≤ B
theorem SrcP.mono {B C : Nat} {xs : List D} (h : SrcP B xs) (l : B ≤ C) : SrcP C xs := by
  obtain ⟨d, s, c, e, h1, h2, h3, h4, h5⟩ := h
  exact ⟨d, s, c, e, h1, h2, h3, h4, by omega⟩
def bSource : Z.Ss := (.cons (.asg 2 (.int 0)) (.cons (.asg 3 (.int 0)) (.cons (.ife (.cmp .Gt (.blt .len (.cons (.var 0) .nil)) (.int 0)) (.cons (.asg 2 (.idx (.var 0) (.bin .Mod (.blt .int (.cons (.var 1) .nil)) (.blt .len (.cons (.var 0) .nil))))) .nil) .nil) (.cons (.ife (.bl2 .And (.cons (.cmp .Lt (.var 1) (.blt .len (.cons (.var 0) .nil))) (.cons (.cmp .GtE (.var 2) (.bin .Pow (.int 10) (.int 18))) .nil))) (.cons (.asg 3 (.var 2)) .nil) .nil) (.cons (.ret (.lst (.cons (.var 3) (.cons (.bin .Add (.bin .Add (.bin .Mod (.blt .int (.cons (.var 2) .nil)) (.int 2147483647)) (.bin .Mult (.int 7919000) (.var 1))) (.int 104729)) (.cons (.int 0) .nil))))) .nil)))))
def bDraw : Z.Ss := (.cons (.put 0 (.int 2) (.bin .Add (.idx (.var 0) (.int 2)) (.int 1))) (.cons (.ife (.cmp .Gt (.idx (.var 0) (.int 0)) (.int 0)) (.cons (.asg 2 (.bin .Mod (.blt .int (.cons (.idx (.var 0) (.int 0)) .nil)) (.var 1))) (.cons (.put 0 (.int 0) (.bin .FloorDiv (.idx (.var 0) (.int 0)) (.var 1))) (.cons (.ret (.var 2)) .nil))) .nil) (.cons (.asg 3 (.bin .Mod (.bin .Pow (.blt .int (.cons (.bin .Add (.idx (.var 0) (.int 1)) (.bin .Mult (.int 7919) (.idx (.var 0) (.int 2)))) .nil)) (.int 5)) (.int 2147483647))) (.cons (.ret (.bin .Mod (.bin .FloorDiv (.bin .Mod (.bin .Mult (.bin .Add (.var 3) (.idx (.var 0) (.int 2))) (.int 40692)) (.int 2147483629)) (.int 16)) (.var 1))) .nil))))
def bPick : Z.Ss := (.cons (.ret (.idx (.var 1) (.call "_law_draw" (.io 0 (.sh (.blt .len (.cons (.var 1) .nil)) .nil))))) .nil)
def bHanded : Z.Ss := (.cons (.ret (.idx (.lst (.cons (.blt .tuple (.cons (.var 1) .nil)) (.cons (.blt .list (.cons (.var 1) .nil)) .nil))) (.call "_law_draw" (.io 0 (.sh (.int 2) .nil))))) .nil)
def bSame : Z.Ss := (.cons (.ife (.val (.isi (.var 1) ["list", "tuple"])) (.cons (.ife (.bl2 .Or (.cons (.cmp .NotEq (.isi (.var 0) ["list"]) (.isi (.var 1) ["list"])) (.cons (.cmp .NotEq (.isi (.var 0) ["tuple"]) (.isi (.var 1) ["tuple"])) .nil))) (.cons (.ret (.bl false)) .nil) .nil) (.cons (.ret (.bl2 .And (.cons (.cmp .Eq (.blt .len (.cons (.var 0) .nil)) (.blt .len (.cons (.var 1) .nil))) (.cons (.blt .all (.cons (.lc (.call "_law_same" (.sh (.var 2) (.sh (.var 3) .nil))) (.tup [2, 3]) (.zip (.var 0) (.var 1)) .nil [2, 3]) .nil)) .nil)))) .nil)) .nil) (.cons (.ife (.val (.isi (.var 1) ["bool", "int"])) (.cons (.ret (.bl2 .And (.cons (.isi (.var 0) ["int"]) (.cons (.cmp .Eq (.isi (.var 0) ["bool"]) (.isi (.var 1) ["bool"])) (.cons (.cmp .Eq (.var 0) (.var 1)) .nil))))) .nil) .nil) (.cons (.ret (.bl2 .And (.cons (.not (.isi (.var 0) ["bool", "list", "tuple"])) (.cons (.cmp .Eq (.var 0) (.var 1)) .nil)))) .nil)))

theorem draw_deep {Γ : Tb} (d s c n : Int) (hd : 0 < d) (hn : 0 < n) (hn2 : n < 1099511627776) :
    fnOf Γ 2 4 bDraw [.io [.int d, .int s, .int c], .sh (.int n)] = .ok (.sh (.int (d % n))) [.io [.int (d / n), .int s, .int (c + 1)], .un] := by
  have h1 : (0 < n ∧ n < 18446744073709551616) := by omega
  simp -dsimp [fnOf, bDraw, line_eq, Ss.den, S.den, X.den, Xs.denL, Xs.denS, Xs.denB, Xs.denP, Xo.den, As.den, T.den, Ts.denB, Ts.denA, It.den, putM, appM, extM, augM, shM, share, ownAt, Sl.own, Sl.put, putR, appR, extR, own1, ixN, varM, idxR, slcR, negR, notR, view, bop, addR, subR, mulR, fdivR, modR, powR, bltR, lenR, intR, ordR, tupleR, listR, cop, copR, cmpI, isNone, ↓bind_L, bindL_ok, bindL_ex, bindL_bad, ↓thn_L, thnL_ok, thnL_ex, thnL_bad, ↓seq_L, seqL_next, seqL_brk, seqL_cnt, seqL_ret, seqL_ex, seqL_bad, asgR, notIo, okS, ↓ofO_L, ofOL_some, ofOL_none, fnEnd, ioB, callR_E, callE, toSlots, backSlots, owns, parSet, pickR, setT, setL, killL, killD, kill1, restore, plainSlot, seqD, itemsD, isiR, isiD, atI, hd, hn, h1]
theorem draw_seed {Γ : Tb} (d s c n : Int) (hd : d ≤ 0) (hs : 0 ≤ s) (hs2 : s < 68719476736) (hc : 0 ≤ c) (hc2 : c < 1099511627776) (hn : 0 < n) (hn2 : n < 1099511627776) :
    fnOf Γ 2 4 bDraw [.io [.int d, .int s, .int c], .sh (.int n)] = .ok (.sh (.int ((((s + 7919 * (c + 1)) ^ 5 % 2147483647 + (c + 1)) * 40692 % 2147483629 / 16) % n))) [.io [.int d, .int s, .int (c + 1)], .un] := by
  have h1 : (0 < n ∧ n < 18446744073709551616) := by omega
  have h0 : ¬ 0 < d := by omega
  have h2 : (s + 7919 * (c + 1)).natAbs < 18446744073709551616 := by omega
  simp -dsimp [fnOf, bDraw, line_eq, Ss.den, S.den, X.den, Xs.denL, Xs.denS, Xs.denB, Xs.denP, Xo.den, As.den, T.den, Ts.denB, Ts.denA, It.den, putM, appM, extM, augM, shM, share, ownAt, Sl.own, Sl.put, putR, appR, extR, own1, ixN, varM, idxR, slcR, negR, notR, view, bop, addR, subR, mulR, fdivR, modR, powR, bltR, lenR, intR, ordR, tupleR, listR, cop, copR, cmpI, isNone, ↓bind_L, bindL_ok, bindL_ex, bindL_bad, ↓thn_L, thnL_ok, thnL_ex, thnL_bad, ↓seq_L, seqL_next, seqL_brk, seqL_cnt, seqL_ret, seqL_ex, seqL_bad, asgR, notIo, okS, ↓ofO_L, ofOL_some, ofOL_none, fnEnd, ioB, callR_E, callE, toSlots, backSlots, owns, parSet, pickR, setT, setL, killL, killD, kill1, restore, plainSlot, seqD, itemsD, isiR, isiD, atI, hd, hn, h1, h0, h2, fits_eq]
theorem draw_ok {Γ : Tb} {B : Nat} {xs : List D} (h : SrcP B xs) (hB : B < 1000000) {n : Int} (hn : 0 < n) (hn2 : n < 1099511627776) :
    ∃ v ys, fnOf Γ 2 4 bDraw [.io xs, .sh (.int n)] = .ok (.sh (.int v)) [.io ys, .un] ∧ 0 ≤ v ∧ v < n ∧ SrcP (B + 1) ys := by
  obtain ⟨d, s, c, rfl, h1, h2, h3, h4, h5⟩ := h
  by_cases hd : 0 < d
  · refine ⟨_, _, draw_deep d s c n hd hn hn2, Int.emod_nonneg _ (by omega), Int.emod_lt_of_pos _ hn, _, _, _, rfl, Int.ediv_nonneg h1 (by omega), h2, h3, by omega, by omega⟩
  · refine ⟨_, _, draw_seed d s c n (by omega) h2 h3 h4 (by omega) hn hn2, Int.emod_nonneg _ (by omega), Int.emod_lt_of_pos _ hn, _, _, _, rfl, h1, h2, h3, by omega, by omega⟩
/-- what the law draws with -/
def DrawOk (Γ : Tb) : Prop := ∃ fn, Γ.fn "_law_draw" = some fn ∧ ∀ {B : Nat} {xs : List D}, SrcP B xs → B < 1000000 → ∀ {n : Int}, 0 < n → n < 1099511627776 →
    ∃ v ys, fn [.io xs, .sh (.int n)] = .ok (.sh (.int v)) [.io ys, .un] ∧ 0 ≤ v ∧ v < n ∧ SrcP (B + 1) ys
theorem atI_nat {xs : List D} {i : Nat} (h : i < xs.length) : atI xs (i : Int) = some (xs[i]) := by
  unfold atI ixN
  rw [if_pos (by omega), if_pos (by omega), Int.toNat_natCast]
  simp [h]
theorem source_ok {Γ : Tb} (ns : List Int) (hl : ns.length ≤ 63) (k : Nat) (hk : k < 1000) : ∃ xs, fnOf Γ 2 4 bSource [.sh (.fz (iD ns)), .sh (.int (k : Int))] = .ok (.fr xs) [.un, .un] ∧ SrcP 0 xs := by
  have fin : ∀ cell deep : Int, 0 ≤ deep → SrcP 0 [.int deep, .int (cell % 2147483647 + 7919000 * (k : Int) + 104729), .int 0] := fun cell deep hd =>
    ⟨deep, _, 0, rfl, hd, by omega, by omega, by omega, by omega⟩
  have pw : ∀ F, powR (.sh (.int 10)) (.sh (.int 18)) F = okS (.int 1000000000000000000) F := fun F => by
    simp [powR]
  cases ns with
  | nil =>
    refine ⟨_, ?_, fin 0 0 (by omega)⟩
    have h0 : ¬ ((k : Int) < 0) := by omega
    simp -dsimp [fnOf, bSource, line_eq, Ss.den, S.den, X.den, Xs.denL, Xs.denS, Xs.denB, Xs.denP, Xo.den, As.den, T.den, Ts.denB, Ts.denA, It.den, putM, appM, extM, augM, shM, share, ownAt, Sl.own, Sl.put, putR, appR, extR, own1, ixN, varM, idxR, slcR, negR, notR, view, bop, addR, subR, mulR, fdivR, modR, powR, bltR, lenR, intR, ordR, tupleR, listR, cop, copR, cmpI, isNone, ↓bind_L, bindL_ok, bindL_ex, bindL_bad, ↓thn_L, thnL_ok, thnL_ex, thnL_bad, ↓seq_L, seqL_next, seqL_brk, seqL_cnt, seqL_ret, seqL_ex, seqL_bad, asgR, notIo, okS, ↓ofO_L, ofOL_some, ofOL_none, fnEnd, ioB, callR_E, callE, toSlots, backSlots, owns, parSet, pickR, setT, setL, killL, killD, kill1, restore, plainSlot, seqD, itemsD, isiR, isiD, h0, fits_eq, line_eq]
  | cons a ns =>
    have hp : 0 < (ns.length : Int) + 1 := by omega
    obtain ⟨v, hv⟩ : ∃ v : Int, atI (iD (a :: ns)) ((k : Int) % ((ns.length : Int) + 1)) = some (.int v) := by
      have hm : (k : Int) % ((ns.length : Int) + 1) = ((k % (ns.length + 1) : Nat) : Int) := by rw [Int.natCast_emod, Int.natCast_succ]
      have hlt : k % (ns.length + 1) < (iD (a :: ns)).length := by
        simp only [List.length_map, List.length_cons]
        exact Nat.mod_lt _ (by omega)
      rw [hm, atI_nat hlt]
      exact ⟨(a :: ns)[k % (ns.length + 1)]'(Nat.mod_lt _ (Nat.succ_pos _)), congrArg some (List.getElem_map ..)⟩
    have hv' : atI (D.int a :: List.map D.int ns) ((k : Int) % ((ns.length : Int) + 1)) = some (.int v) := hv
    have e3 : ((k : Int) % ((ns.length : Int) + 1)) = (k : Int) % ((ns.length : Int) + 1) := rfl
    by_cases h1 : (k : Int) < (ns.length : Int) + 1
    · by_cases h2 : (1000000000000000000 : Int) ≤ v
      · refine ⟨_, ?_, fin v v (by omega)⟩
        simp -dsimp [fnOf, bSource, line_eq, Ss.den, S.den, X.den, Xs.denL, Xs.denS, Xs.denB, Xs.denP, Xo.den, As.den, T.den, Ts.denB, Ts.denA, It.den, putM, appM, extM, augM, shM, share, ownAt, Sl.own, Sl.put, putR, appR, extR, own1, ixN, varM, idxR, slcR, negR, notR, view, bop, addR, subR, mulR, fdivR, modR, powR, bltR, lenR, intR, ordR, tupleR, listR, cop, copR, cmpI, isNone, ↓bind_L, bindL_ok, bindL_ex, bindL_bad, ↓thn_L, thnL_ok, thnL_ex, thnL_bad, ↓seq_L, seqL_next, seqL_brk, seqL_cnt, seqL_ret, seqL_ex, seqL_bad, asgR, notIo, okS, ↓ofO_L, ofOL_some, ofOL_none, fnEnd, ioB, callR_E, callE, toSlots, backSlots, owns, parSet, pickR, setT, setL, killL, killD, kill1, restore, plainSlot, seqD, itemsD, isiR, isiD, fits_eq, line_eq, hp, hv', h1, h2]
      · refine ⟨_, ?_, fin v 0 (by omega)⟩
        simp -dsimp [fnOf, bSource, line_eq, Ss.den, S.den, X.den, Xs.denL, Xs.denS, Xs.denB, Xs.denP, Xo.den, As.den, T.den, Ts.denB, Ts.denA, It.den, putM, appM, extM, augM, shM, share, ownAt, Sl.own, Sl.put, putR, appR, extR, own1, ixN, varM, idxR, slcR, negR, notR, view, bop, addR, subR, mulR, fdivR, modR, powR, bltR, lenR, intR, ordR, tupleR, listR, cop, copR, cmpI, isNone, ↓bind_L, bindL_ok, bindL_ex, bindL_bad, ↓thn_L, thnL_ok, thnL_ex, thnL_bad, ↓seq_L, seqL_next, seqL_brk, seqL_cnt, seqL_ret, seqL_ex, seqL_bad, asgR, notIo, okS, ↓ofO_L, ofOL_some, ofOL_none, fnEnd, ioB, callR_E, callE, toSlots, backSlots, owns, parSet, pickR, setT, setL, killL, killD, kill1, restore, plainSlot, seqD, itemsD, isiR, isiD, fits_eq, line_eq, hp, hv', h1, h2]
    · refine ⟨_, ?_, fin v 0 (by omega)⟩
      simp -dsimp [fnOf, bSource, line_eq, Ss.den, S.den, X.den, Xs.denL, Xs.denS, Xs.denB, Xs.denP, Xo.den, As.den, T.den, Ts.denB, Ts.denA, It.den, putM, appM, extM, augM, shM, share, ownAt, Sl.own, Sl.put, putR, appR, extR, own1, ixN, varM, idxR, slcR, negR, notR, view, bop, addR, subR, mulR, fdivR, modR, powR, bltR, lenR, intR, ordR, tupleR, listR, cop, copR, cmpI, isNone, ↓bind_L, bindL_ok, bindL_ex, bindL_bad, ↓thn_L, thnL_ok, thnL_ex, thnL_bad, ↓seq_L, seqL_next, seqL_brk, seqL_cnt, seqL_ret, seqL_ex, seqL_bad, asgR, notIo, okS, ↓ofO_L, ofOL_some, ofOL_none, fnEnd, ioB, callR_E, callE, toSlots, backSlots, owns, parSet, pickR, setT, setL, killL, killD, kill1, restore, plainSlot, seqD, itemsD, isiR, isiD, fits_eq, line_eq, hp, hv', h1]
theorem pick_ok {Γ : Tb} (hd : DrawOk Γ) {B : Nat} {xs ds : List D} {c : D} (hc : c = .lst ds ∨ c = .tup ds) (h : SrcP B xs) (hB : B < 1000000) (hn : 0 < ds.length) (hn2 : ds.length < 16777216) :
    ∃ (i : Nat) (hi : i < ds.length) (ys : List D), fnOf Γ 2 2 bPick [.io xs, .sh c] = .ok (.sh (ds[i])) [.io ys, .un] ∧ SrcP (B + 1) ys := by
  obtain ⟨fn, e, k⟩ := hd
  obtain ⟨v, ys, e1, h1, h2, h3⟩ := k h hB (n := (ds.length : Int)) (by omega) (by omega)
  obtain ⟨i, rfl⟩ : ∃ i : Nat, v = (i : Int) := ⟨v.toNat, by omega⟩
  have hi : i < ds.length := by omega
  refine ⟨i, hi, ys, ?_, h3⟩
  have e2 := atI_nat (xs := ds) hi
  rcases hc with rfl | rfl <;> simp -dsimp [fnOf, bPick, line_eq, Ss.den, S.den, X.den, Xs.denL, Xs.denS, Xs.denB, Xs.denP, Xo.den, As.den, T.den, Ts.denB, Ts.denA, It.den, putM, appM, extM, augM, shM, share, ownAt, Sl.own, Sl.put, putR, appR, extR, own1, ixN, varM, idxR, slcR, negR, notR, view, bop, addR, subR, mulR, fdivR, modR, powR, bltR, lenR, intR, ordR, tupleR, listR, cop, copR, cmpI, isNone, ↓bind_L, bindL_ok, bindL_ex, bindL_bad, ↓thn_L, thnL_ok, thnL_ex, thnL_bad, ↓seq_L, seqL_next, seqL_brk, seqL_cnt, seqL_ret, seqL_ex, seqL_bad, asgR, notIo, okS, ↓ofO_L, ofOL_some, ofOL_none, fnEnd, ioB, callR_E, callE, toSlots, backSlots, owns, parSet, pickR, setT, setL, killL, killD, kill1, restore, plainSlot, seqD, itemsD, isiR, isiD, e, e1, e2]
theorem handed_ok {Γ : Tb} (hd : DrawOk Γ) {B : Nat} {xs ds : List D} {c : D} (hc : c = .lst ds ∨ c = .tup ds) (h : SrcP B xs) (hB : B < 1000000) :
    ∃ (c' : D) (ys : List D), fnOf Γ 2 2 bHanded [.io xs, .sh c] = .ok (.sh c') [.io ys, .un] ∧ (c' = .lst ds ∨ c' = .tup ds) ∧ SrcP (B + 1) ys := by
  obtain ⟨fn, e, k⟩ := hd
  obtain ⟨v, ys, e1, h1, h2, h3⟩ := k h hB (n := 2) (by omega) (by omega)
  have hv : v = 0 ∨ v = 1 := by omega
  rcases hv with rfl | rfl <;> rcases hc with rfl | rfl
  · exact ⟨.tup ds, ys, by simp -dsimp [fnOf, bHanded, line_eq, Ss.den, S.den, X.den, Xs.denL, Xs.denS, Xs.denB, Xs.denP, Xo.den, As.den, T.den, Ts.denB, Ts.denA, It.den, putM, appM, extM, augM, shM, share, ownAt, Sl.own, Sl.put, putR, appR, extR, own1, ixN, varM, idxR, slcR, negR, notR, view, bop, addR, subR, mulR, fdivR, modR, powR, bltR, lenR, intR, ordR, tupleR, listR, cop, copR, cmpI, isNone, ↓bind_L, bindL_ok, bindL_ex, bindL_bad, ↓thn_L, thnL_ok, thnL_ex, thnL_bad, ↓seq_L, seqL_next, seqL_brk, seqL_cnt, seqL_ret, seqL_ex, seqL_bad, asgR, notIo, okS, ↓ofO_L, ofOL_some, ofOL_none, fnEnd, ioB, callR_E, callE, toSlots, backSlots, owns, parSet, pickR, setT, setL, killL, killD, kill1, restore, plainSlot, seqD, itemsD, isiR, isiD, e, e1, line_eq, atI], .inr rfl, h3⟩
  · exact ⟨.tup ds, ys, by simp -dsimp [fnOf, bHanded, line_eq, Ss.den, S.den, X.den, Xs.denL, Xs.denS, Xs.denB, Xs.denP, Xo.den, As.den, T.den, Ts.denB, Ts.denA, It.den, putM, appM, extM, augM, shM, share, ownAt, Sl.own, Sl.put, putR, appR, extR, own1, ixN, varM, idxR, slcR, negR, notR, view, bop, addR, subR, mulR, fdivR, modR, powR, bltR, lenR, intR, ordR, tupleR, listR, cop, copR, cmpI, isNone, ↓bind_L, bindL_ok, bindL_ex, bindL_bad, ↓thn_L, thnL_ok, thnL_ex, thnL_bad, ↓seq_L, seqL_next, seqL_brk, seqL_cnt, seqL_ret, seqL_ex, seqL_bad, asgR, notIo, okS, ↓ofO_L, ofOL_some, ofOL_none, fnEnd, ioB, callR_E, callE, toSlots, backSlots, owns, parSet, pickR, setT, setL, killL, killD, kill1, restore, plainSlot, seqD, itemsD, isiR, isiD, e, e1, line_eq, atI], .inr rfl, h3⟩
  · exact ⟨.lst ds, ys, by simp -dsimp [fnOf, bHanded, line_eq, Ss.den, S.den, X.den, Xs.denL, Xs.denS, Xs.denB, Xs.denP, Xo.den, As.den, T.den, Ts.denB, Ts.denA, It.den, putM, appM, extM, augM, shM, share, ownAt, Sl.own, Sl.put, putR, appR, extR, own1, ixN, varM, idxR, slcR, negR, notR, view, bop, addR, subR, mulR, fdivR, modR, powR, bltR, lenR, intR, ordR, tupleR, listR, cop, copR, cmpI, isNone, ↓bind_L, bindL_ok, bindL_ex, bindL_bad, ↓thn_L, thnL_ok, thnL_ex, thnL_bad, ↓seq_L, seqL_next, seqL_brk, seqL_cnt, seqL_ret, seqL_ex, seqL_bad, asgR, notIo, okS, ↓ofO_L, ofOL_some, ofOL_none, fnEnd, ioB, callR_E, callE, toSlots, backSlots, owns, parSet, pickR, setT, setL, killL, killD, kill1, restore, plainSlot, seqD, itemsD, isiR, isiD, e, e1, line_eq, atI], .inl rfl, h3⟩
  · exact ⟨.lst ds, ys, by simp -dsimp [fnOf, bHanded, line_eq, Ss.den, S.den, X.den, Xs.denL, Xs.denS, Xs.denB, Xs.denP, Xo.den, As.den, T.den, Ts.denB, Ts.denA, It.den, putM, appM, extM, augM, shM, share, ownAt, Sl.own, Sl.put, putR, appR, extR, own1, ixN, varM, idxR, slcR, negR, notR, view, bop, addR, subR, mulR, fdivR, modR, powR, bltR, lenR, intR, ordR, tupleR, listR, cop, copR, cmpI, isNone, ↓bind_L, bindL_ok, bindL_ex, bindL_bad, ↓thn_L, thnL_ok, thnL_ex, thnL_bad, ↓seq_L, seqL_next, seqL_brk, seqL_cnt, seqL_ret, seqL_ex, seqL_bad, asgR, notIo, okS, ↓ofO_L, ofOL_some, ofOL_none, fnEnd, ioB, callR_E, callE, toSlots, backSlots, owns, parSet, pickR, setT, setL, killL, killD, kill1, restore, plainSlot, seqD, itemsD, isiR, isiD, e, e1, line_eq, atI], .inl rfl, h3⟩
/-! ### likeness -/
def Good : Nat → D → Prop
  | 0, _ => False
  | n + 1, d => match d with
    | .non => True
    | .bl _ => True
    | .int _ => True
    | .str x => PyData.canLay0 (.str x) = true
    | .tup xs => xs.length ≤ 16777216 ∧ ∀ x ∈ xs, Good n x
    | .lst xs => xs.length ≤ 16777216 ∧ ∀ x ∈ xs, Good n x
    | .fz _ => False
def SameOk (n : Nat) (Γ : Tb) : Prop := ∃ fn, Γ.fn "_law_same" = some fn ∧ ∀ d, Good n d → fn [.sh d, .sh d] = .ok (.sh (.bl true)) [.un, .un]
theorem zipL_self : ∀ xs : List D, zipL xs xs = xs.map fun d => .tup [d, d]
  | [] => rfl
  | x :: xs => congrArg (_ :: ·) (zipL_self xs)
theorem boolsD_true : ∀ n : Nat, boolsD (List.replicate n (.bl true)) = some (List.replicate n true)
  | 0 => rfl
  | n + 1 => by
    rw [List.replicate_succ, List.replicate_succ]
    show (boolsD (List.replicate n (.bl true))).map (true :: ·) = _
    rw [boolsD_true n]; rfl
theorem eqv_int (i : Int) : PyData.eqv (.int i) (.int i) = true := by simp [PyData.eqv]
theorem same_lc {n : Nat} {Γ : Tb} (h : SameOk n Γ) (c : D) (xs : List D) (hl : xs.length ≤ 16777216) (hg : ∀ x ∈ xs, Good n x) :
    lcLoop [2, 3] (.tup [2, 3]) (Ts.nil.denA Γ) ((X.call "_law_same" (.sh (.var 2) (.sh (.var 3) .nil))).den Γ) (zipL xs xs) [] [.sh c, .sh c, .un, .un] = .ok (List.replicate xs.length (.bl true)) [.sh c, .sh c, .un, .un] := by
  obtain ⟨fn, e, k⟩ := h
  rw [zipL_self, lc_map (fun _ => .bl true) (xs.map fun d => D.tup [d, d]) []]
  · simp [Function.comp_def, List.map_const']
  · intro d hd
    obtain ⟨x, hx, rfl⟩ := List.mem_map.mp hd
    refine ⟨[.sh c, .sh c, .sh x, .sh x], _, [.sh c, .sh c, .sh x, .sh x], ?_, rfl, ?_, ?_⟩
    · simp -dsimp [line_eq, Ss.den, S.den, X.den, Xs.denL, Xs.denS, Xs.denB, Xs.denP, Xo.den, As.den, T.den, Ts.denB, Ts.denA, It.den, putM, appM, extM, augM, shM, share, ownAt, Sl.own, Sl.put, putR, appR, extR, own1, ixN, varM, idxR, slcR, negR, notR, view, bop, addR, subR, mulR, fdivR, modR, powR, bltR, lenR, intR, ordR, tupleR, listR, cop, copR, cmpI, isNone, ↓bind_L, bindL_ok, bindL_ex, bindL_bad, ↓thn_L, thnL_ok, thnL_ex, thnL_bad, ↓seq_L, seqL_next, seqL_brk, seqL_cnt, seqL_ret, seqL_ex, seqL_bad, asgR, notIo, okS, ↓ofO_L, ofOL_some, ofOL_none, fnEnd, ioB, callR_E, callE, toSlots, backSlots, owns, parSet, pickR, setT, setL, killL, killD, kill1, restore, plainSlot, seqD, itemsD, isiR, isiD]
    · simp -dsimp [line_eq, Ss.den, S.den, X.den, Xs.denL, Xs.denS, Xs.denB, Xs.denP, Xo.den, As.den, T.den, Ts.denB, Ts.denA, It.den, putM, appM, extM, augM, shM, share, ownAt, Sl.own, Sl.put, putR, appR, extR, own1, ixN, varM, idxR, slcR, negR, notR, view, bop, addR, subR, mulR, fdivR, modR, powR, bltR, lenR, intR, ordR, tupleR, listR, cop, copR, cmpI, isNone, ↓bind_L, bindL_ok, bindL_ex, bindL_bad, ↓thn_L, thnL_ok, thnL_ex, thnL_bad, ↓seq_L, seqL_next, seqL_brk, seqL_cnt, seqL_ret, seqL_ex, seqL_bad, asgR, notIo, okS, ↓ofO_L, ofOL_some, ofOL_none, fnEnd, ioB, callR_E, callE, toSlots, backSlots, owns, parSet, pickR, setT, setL, killL, killD, kill1, restore, plainSlot, seqD, itemsD, isiR, isiD, e, k x (hg x hx)]
    · simp -dsimp [line_eq, Ss.den, S.den, X.den, Xs.denL, Xs.denS, Xs.denB, Xs.denP, Xo.den, As.den, T.den, Ts.denB, Ts.denA, It.den, putM, appM, extM, augM, shM, share, ownAt, Sl.own, Sl.put, putR, appR, extR, own1, ixN, varM, idxR, slcR, negR, notR, view, bop, addR, subR, mulR, fdivR, modR, powR, bltR, lenR, intR, ordR, tupleR, listR, cop, copR, cmpI, isNone, ↓bind_L, bindL_ok, bindL_ex, bindL_bad, ↓thn_L, thnL_ok, thnL_ex, thnL_bad, ↓seq_L, seqL_next, seqL_brk, seqL_cnt, seqL_ret, seqL_ex, seqL_bad, asgR, notIo, okS, ↓ofO_L, ofOL_some, ofOL_none, fnEnd, ioB, callR_E, callE, toSlots, backSlots, owns, parSet, pickR, setT, setL, killL, killD, kill1, restore, plainSlot, seqD, itemsD, isiR, isiD]
  · simpa using hl
theorem same_ok {n : Nat} {Γ : Tb} (h : SameOk n Γ) (d : D) (hd : Good (n + 1) d) : fnOf Γ 2 4 bSame [.sh d, .sh d] = .ok (.sh (.bl true)) [.un, .un] := by
  cases d with
  | fz _ => exact hd.elim
  | tup xs =>
    obtain ⟨hl, hg⟩ := hd
    have e := same_lc h (.tup xs) xs hl hg
    simp -dsimp [line_eq, Ss.den, S.den, X.den, Xs.denL, Xs.denS, Xs.denB, Xs.denP, Xo.den, As.den, T.den, Ts.denB, Ts.denA, It.den, putM, appM, extM, augM, shM, share, ownAt, Sl.own, Sl.put, putR, appR, extR, own1, ixN, varM, idxR, slcR, negR, notR, view, bop, addR, subR, mulR, fdivR, modR, powR, bltR, lenR, intR, ordR, tupleR, listR, cop, copR, cmpI, isNone, ↓bind_L, bindL_ok, bindL_ex, bindL_bad, ↓thn_L, thnL_ok, thnL_ex, thnL_bad, ↓seq_L, seqL_next, seqL_brk, seqL_cnt, seqL_ret, seqL_ex, seqL_bad, asgR, notIo, okS, ↓ofO_L, ofOL_some, ofOL_none, fnEnd, ioB, callR_E, callE, toSlots, backSlots, owns, parSet, pickR, setT, setL, killL, killD, kill1, restore, plainSlot, seqD, itemsD, isiR, isiD] at e
    have e2 := boolsD_true xs.length
    simp -dsimp [fnOf, bSame, line_eq, Ss.den, S.den, X.den, Xs.denL, Xs.denS, Xs.denB, Xs.denP, Xo.den, As.den, T.den, Ts.denB, Ts.denA, It.den, putM, appM, extM, augM, shM, share, ownAt, Sl.own, Sl.put, putR, appR, extR, own1, ixN, varM, idxR, slcR, negR, notR, view, bop, addR, subR, mulR, fdivR, modR, powR, bltR, lenR, intR, ordR, tupleR, listR, cop, copR, cmpI, isNone, ↓bind_L, bindL_ok, bindL_ex, bindL_bad, ↓thn_L, thnL_ok, thnL_ex, thnL_bad, ↓seq_L, seqL_next, seqL_brk, seqL_cnt, seqL_ret, seqL_ex, seqL_bad, asgR, notIo, okS, ↓ofO_L, ofOL_some, ofOL_none, fnEnd, ioB, callR_E, callE, toSlots, backSlots, owns, parSet, pickR, setT, setL, killL, killD, kill1, restore, plainSlot, seqD, itemsD, isiR, isiD, eqR, neR, pyR, D.py, D.pyL, SeqAt.shaped, PyData.canLay0, PyData.canLayAll0, PyData.depth, PyData.depthAll, PyData.eqv, PyData.eqvAll, Z.inR, Z.inF, Z.inG, Z.ninR, D.flat, zipD, e, e2, allR]
  | lst xs =>
    obtain ⟨hl, hg⟩ := hd
    have e := same_lc h (.lst xs) xs hl hg
    simp -dsimp [line_eq, Ss.den, S.den, X.den, Xs.denL, Xs.denS, Xs.denB, Xs.denP, Xo.den, As.den, T.den, Ts.denB, Ts.denA, It.den, putM, appM, extM, augM, shM, share, ownAt, Sl.own, Sl.put, putR, appR, extR, own1, ixN, varM, idxR, slcR, negR, notR, view, bop, addR, subR, mulR, fdivR, modR, powR, bltR, lenR, intR, ordR, tupleR, listR, cop, copR, cmpI, isNone, ↓bind_L, bindL_ok, bindL_ex, bindL_bad, ↓thn_L, thnL_ok, thnL_ex, thnL_bad, ↓seq_L, seqL_next, seqL_brk, seqL_cnt, seqL_ret, seqL_ex, seqL_bad, asgR, notIo, okS, ↓ofO_L, ofOL_some, ofOL_none, fnEnd, ioB, callR_E, callE, toSlots, backSlots, owns, parSet, pickR, setT, setL, killL, killD, kill1, restore, plainSlot, seqD, itemsD, isiR, isiD] at e
    have e2 := boolsD_true xs.length
    simp -dsimp [fnOf, bSame, line_eq, Ss.den, S.den, X.den, Xs.denL, Xs.denS, Xs.denB, Xs.denP, Xo.den, As.den, T.den, Ts.denB, Ts.denA, It.den, putM, appM, extM, augM, shM, share, ownAt, Sl.own, Sl.put, putR, appR, extR, own1, ixN, varM, idxR, slcR, negR, notR, view, bop, addR, subR, mulR, fdivR, modR, powR, bltR, lenR, intR, ordR, tupleR, listR, cop, copR, cmpI, isNone, ↓bind_L, bindL_ok, bindL_ex, bindL_bad, ↓thn_L, thnL_ok, thnL_ex, thnL_bad, ↓seq_L, seqL_next, seqL_brk, seqL_cnt, seqL_ret, seqL_ex, seqL_bad, asgR, notIo, okS, ↓ofO_L, ofOL_some, ofOL_none, fnEnd, ioB, callR_E, callE, toSlots, backSlots, owns, parSet, pickR, setT, setL, killL, killD, kill1, restore, plainSlot, seqD, itemsD, isiR, isiD, eqR, neR, pyR, D.py, D.pyL, SeqAt.shaped, PyData.canLay0, PyData.canLayAll0, PyData.depth, PyData.depthAll, PyData.eqv, PyData.eqvAll, Z.inR, Z.inF, Z.inG, Z.ninR, D.flat, zipD, e, e2, allR]
  | int i => simp -dsimp [fnOf, bSame, line_eq, Ss.den, S.den, X.den, Xs.denL, Xs.denS, Xs.denB, Xs.denP, Xo.den, As.den, T.den, Ts.denB, Ts.denA, It.den, putM, appM, extM, augM, shM, share, ownAt, Sl.own, Sl.put, putR, appR, extR, own1, ixN, varM, idxR, slcR, negR, notR, view, bop, addR, subR, mulR, fdivR, modR, powR, bltR, lenR, intR, ordR, tupleR, listR, cop, copR, cmpI, isNone, ↓bind_L, bindL_ok, bindL_ex, bindL_bad, ↓thn_L, thnL_ok, thnL_ex, thnL_bad, ↓seq_L, seqL_next, seqL_brk, seqL_cnt, seqL_ret, seqL_ex, seqL_bad, asgR, notIo, okS, ↓ofO_L, ofOL_some, ofOL_none, fnEnd, ioB, callR_E, callE, toSlots, backSlots, owns, parSet, pickR, setT, setL, killL, killD, kill1, restore, plainSlot, seqD, itemsD, isiR, isiD, eqR, neR, pyR, D.py, D.pyL, SeqAt.shaped, PyData.canLay0, PyData.canLayAll0, PyData.depth, PyData.depthAll, PyData.eqv, PyData.eqvAll, Z.inR, Z.inF, Z.inG, Z.ninR, D.flat]
  | bl i => simp -dsimp [fnOf, bSame, line_eq, Ss.den, S.den, X.den, Xs.denL, Xs.denS, Xs.denB, Xs.denP, Xo.den, As.den, T.den, Ts.denB, Ts.denA, It.den, putM, appM, extM, augM, shM, share, ownAt, Sl.own, Sl.put, putR, appR, extR, own1, ixN, varM, idxR, slcR, negR, notR, view, bop, addR, subR, mulR, fdivR, modR, powR, bltR, lenR, intR, ordR, tupleR, listR, cop, copR, cmpI, isNone, ↓bind_L, bindL_ok, bindL_ex, bindL_bad, ↓thn_L, thnL_ok, thnL_ex, thnL_bad, ↓seq_L, seqL_next, seqL_brk, seqL_cnt, seqL_ret, seqL_ex, seqL_bad, asgR, notIo, okS, ↓ofO_L, ofOL_some, ofOL_none, fnEnd, ioB, callR_E, callE, toSlots, backSlots, owns, parSet, pickR, setT, setL, killL, killD, kill1, restore, plainSlot, seqD, itemsD, isiR, isiD, eqR, neR, pyR, D.py, D.pyL, SeqAt.shaped, PyData.canLay0, PyData.canLayAll0, PyData.depth, PyData.depthAll, PyData.eqv, PyData.eqvAll, Z.inR, Z.inF, Z.inG, Z.ninR, D.flat]
  | str x =>
    have hs : PyData.canLay0 (.str x) = true := hd
    simp [PyData.canLay0] at hs
    simp -dsimp [fnOf, bSame, line_eq, Ss.den, S.den, X.den, Xs.denL, Xs.denS, Xs.denB, Xs.denP, Xo.den, As.den, T.den, Ts.denB, Ts.denA, It.den, putM, appM, extM, augM, shM, share, ownAt, Sl.own, Sl.put, putR, appR, extR, own1, ixN, varM, idxR, slcR, negR, notR, view, bop, addR, subR, mulR, fdivR, modR, powR, bltR, lenR, intR, ordR, tupleR, listR, cop, copR, cmpI, isNone, ↓bind_L, bindL_ok, bindL_ex, bindL_bad, ↓thn_L, thnL_ok, thnL_ex, thnL_bad, ↓seq_L, seqL_next, seqL_brk, seqL_cnt, seqL_ret, seqL_ex, seqL_bad, asgR, notIo, okS, ↓ofO_L, ofOL_some, ofOL_none, fnEnd, ioB, callR_E, callE, toSlots, backSlots, owns, parSet, pickR, setT, setL, killL, killD, kill1, restore, plainSlot, seqD, itemsD, isiR, isiD, eqR, neR, pyR, D.py, D.pyL, SeqAt.shaped, PyData.canLay0, PyData.canLayAll0, PyData.depth, PyData.depthAll, PyData.eqv, PyData.eqvAll, Z.inR, Z.inF, Z.inG, Z.ninR, D.flat, hs]
  | non => simp -dsimp [fnOf, bSame, line_eq, Ss.den, S.den, X.den, Xs.denL, Xs.denS, Xs.denB, Xs.denP, Xo.den, As.den, T.den, Ts.denB, Ts.denA, It.den, putM, appM, extM, augM, shM, share, ownAt, Sl.own, Sl.put, putR, appR, extR, own1, ixN, varM, idxR, slcR, negR, notR, view, bop, addR, subR, mulR, fdivR, modR, powR, bltR, lenR, intR, ordR, tupleR, listR, cop, copR, cmpI, isNone, ↓bind_L, bindL_ok, bindL_ex, bindL_bad, ↓thn_L, thnL_ok, thnL_ex, thnL_bad, ↓seq_L, seqL_next, seqL_brk, seqL_cnt, seqL_ret, seqL_ex, seqL_bad, asgR, notIo, okS, ↓ofO_L, ofOL_some, ofOL_none, fnEnd, ioB, callR_E, callE, toSlots, backSlots, owns, parSet, pickR, setT, setL, killL, killD, kill1, restore, plainSlot, seqD, itemsD, isiR, isiD, eqR, neR, pyR, D.py, D.pyL, SeqAt.shaped, PyData.canLay0, PyData.canLayAll0, PyData.depth, PyData.depthAll, PyData.eqv, PyData.eqvAll, Z.inR, Z.inF, Z.inG, Z.ninR, D.flat]
end Z

end
section
set_option Elab.async false
set_option linter.all false
set_option maxRecDepth 100000
set_option maxHeartbeats 0
namespace Lw
open PySem PySem.Spec PyProof.Rows L2 Z
noncomputable section
abbrev pg : Program := PySem.Challenge.pw_foldpost_k08_whole_base_64_judged
def top (i : Nat) : Stmt := pg.main.body.getD i (.Pass ⟨0, 0, 0, 0⟩)
def gcT (x : Str) : Option D := if x = "SIGNS" then some (.str "ABCDEFGHIJKLMNOPQRSTUVWXYZabcdefghijklmnopqrstuvwxyz0123456789+/") else none
def kwT : Nat → Option Kw
  | _ => none
def nkT : List Str := []
def G0 : Tb := { fn := fun _ => none, gc := gcT, kw := kwT }
/-! base64_text -/
def N0 : List Str := ["data", "found", "at", "row", "number", "byte", "signs", "place"]
def P0 : List Str := ["data"]
def x0_1 : Z.X := (.blt .ord (.cons (.idx (.glb "SIGNS") (.bin .Mod (.bin .FloorDiv (.var 4) (.var 7)) (.int 64))) .nil))
def w0_1 : Z.Ss := (.cons (.asg 4 (.bin .Add (.bin .Mult (.var 4) (.int 256)) (.var 5))) .nil)
def x0_2 : Z.X := (.blt .int (.cons (.var 5) .nil))
def w0_2 : Z.Ss := (.cons (.asg 3 (.lc x0_2 (.name 5) (.seq (.slc (.var 0) (.some (.var 2)) (.some (.bin .Add (.var 2) (.int 3))))) .nil [5])) (.cons (.asg 4 (.int 0)) (.cons (.for_ (.name 5) (.seq (.bin .Add (.var 3) (.bin .Mult (.lst (.cons (.int 0) .nil)) (.bin .Sub (.int 3) (.blt .len (.cons (.var 3) .nil)))))) w0_1 [5]) (.cons (.asg 6 (.lc x0_1 (.name 7) (.seq (.tup (.cons (.int 262144) (.cons (.int 4096) (.cons (.int 64) (.cons (.int 1) .nil)))))) .nil [7])) (.cons (.ext 1 (.bin .Add (.slc (.var 6) .none (.some (.bin .Add (.blt .len (.cons (.var 3) .nil)) (.int 1)))) (.bin .Mult (.lst (.cons (.int 61) .nil)) (.bin .Sub (.int 3) (.blt .len (.cons (.var 3) .nil)))))) .nil)))))
def b0 : Z.Ss := (.cons (.asg 1 (.lst .nil)) (.cons (.for_ (.name 2) (.rng3 (.int 0) (.blt .len (.cons (.var 0) .nil)) (.int 3)) w0_2 [2, 3, 4, 5, 6]) (.cons (.ret (.blt .tuple (.cons (.var 1) .nil))) .nil)))
def d0 : He.DefD := ⟨("base64_text", none), "base64_text", "base64_text", defArgs (top 2), defBody (top 2), defScope (top 2), [], []⟩
theorem sc0 : FnScope N0 P0 (defScope (top 2)) := ⟨rfl, rfl, rfl, by decide +kernel, rfl, by decide +kernel, by decide +kernel⟩
theorem m0 : b0.mat ⟨N0, defScope (top 2), fun _ => true, nkT, kwT⟩ (defBody (top 2)) = true := by kernel_rfl
def f0 : Fn := fnOf G0 1 8 b0
def G1 : Tb := G0.add "base64_text" f0
/-! base64_lines -/
def N1 : List Str := ["data", "size", "line_end", "found", "at"]
def P1 : List Str := ["data", "size", "line_end"]
def w1_1 : Z.Ss := (.cons (.ext 3 (.call "base64_text" (.sh (.slc (.var 0) (.some (.var 4)) (.some (.bin .Add (.var 4) (.var 1)))) .nil))) (.cons (.ext 3 (.var 2)) .nil))
def b1 : Z.Ss := (.cons (.asg 3 (.lst .nil)) (.cons (.for_ (.name 4) (.rng3 (.int 0) (.blt .len (.cons (.var 0) .nil)) (.var 1)) w1_1 [4]) (.cons (.ret (.blt .tuple (.cons (.var 3) .nil))) .nil)))
def d1 : He.DefD := ⟨("base64_lines", none), "base64_lines", "base64_lines", defArgs (top 3), defBody (top 3), defScope (top 3), [.int 57, .adr (He.dflAt ("base64_lines", none) 1)], []⟩
theorem sc1 : FnScope N1 P1 (defScope (top 3)) := ⟨rfl, rfl, rfl, by decide +kernel, rfl, by decide +kernel, by decide +kernel⟩
theorem m1 : b1.mat ⟨N1, defScope (top 3), fun _ => true, nkT, kwT⟩ (defBody (top 3)) = true := by kernel_rfl
def f1 : Fn := fnOf G1 3 5 b1
def G2 : Tb := G1.add "base64_lines" f1
/-! is_sign -/
def N2 : List Str := ["code"]
def P2 : List Str := ["code"]
def b2 : Z.Ss := (.cons (.ret (.bl2 .Or (.cons (.chn .LtE .LtE (.int 65) (.var 0) (.int 90)) (.cons (.chn .LtE .LtE (.int 97) (.var 0) (.int 122)) (.cons (.chn .LtE .LtE (.int 48) (.var 0) (.int 57)) (.cons (.cmp .In (.var 0) (.tup (.cons (.int 43) (.cons (.int 47) .nil)))) .nil)))))) .nil)
def d2 : He.DefD := ⟨("is_sign", none), "is_sign", "is_sign", defArgs (top 4), defBody (top 4), defScope (top 4), [], []⟩
theorem sc2 : FnScope N2 P2 (defScope (top 4)) := ⟨rfl, rfl, rfl, by decide +kernel, rfl, by decide +kernel, by decide +kernel⟩
theorem m2 : b2.mat ⟨N2, defScope (top 4), fun _ => true, nkT, kwT⟩ (defBody (top 4)) = true := by kernel_rfl
def f2 : Fn := fnOf G2 1 1 b2
def G3 : Tb := G2.add "is_sign" f2
/-! digit_of -/
def N3 : List Str := ["code"]
def P3 : List Str := ["code"]
def b3 : Z.Ss := (.cons (.ife (.cmp .In (.var 0) (.tup (.cons (.int 43) (.cons (.int 47) .nil)))) (.cons (.ret (.bin .Add (.int 62) (.bin .FloorDiv (.var 0) (.int 47)))) .nil) .nil) (.cons (.ret (.ife (.cmp .LtE (.var 0) (.int 57)) (.bin .Add (.var 0) (.int 4)) (.ife (.cmp .LtE (.var 0) (.int 90)) (.bin .Sub (.var 0) (.int 65)) (.bin .Sub (.var 0) (.int 71))))) .nil))
def d3 : He.DefD := ⟨("digit_of", none), "digit_of", "digit_of", defArgs (top 5), defBody (top 5), defScope (top 5), [], []⟩
theorem sc3 : FnScope N3 P3 (defScope (top 5)) := ⟨rfl, rfl, rfl, by decide +kernel, rfl, by decide +kernel, by decide +kernel⟩
theorem m3 : b3.mat ⟨N3, defScope (top 5), fun _ => true, nkT, kwT⟩ (defBody (top 5)) = true := by kernel_rfl
def f3 : Fn := fnOf G3 1 1 b3
def G4 : Tb := G3.add "digit_of" f3
/-! bytes_of_signs -/
def N4 : List Str := ["signs", "found", "at", "row", "number", "digit", "code"]
def P4 : List Str := ["signs"]
def w4_1 : Z.Ss := (.cons (.asg 4 (.bin .Add (.bin .Mult (.var 4) (.int 64)) (.var 5))) .nil)
def x4_1 : Z.X := (.call "digit_of" (.sh (.var 6) .nil))
def w4_2 : Z.Ss := (.cons (.asg 3 (.lc x4_1 (.name 6) (.seq (.slc (.var 0) (.some (.var 2)) (.some (.bin .Add (.var 2) (.int 4))))) .nil [6])) (.cons (.asg 4 (.int 0)) (.cons (.for_ (.name 5) (.seq (.bin .Add (.var 3) (.bin .Mult (.lst (.cons (.int 0) .nil)) (.bin .Sub (.int 4) (.blt .len (.cons (.var 3) .nil)))))) w4_1 [5]) (.cons (.ext 1 (.slc (.lst (.cons (.bin .FloorDiv (.var 4) (.int 65536)) (.cons (.bin .Mod (.bin .FloorDiv (.var 4) (.int 256)) (.int 256)) (.cons (.bin .Mod (.var 4) (.int 256)) .nil)))) .none (.some (.bin .Sub (.blt .len (.cons (.var 3) .nil)) (.int 1))))) .nil))))
def b4 : Z.Ss := (.cons (.asg 1 (.lst .nil)) (.cons (.for_ (.name 2) (.rng3 (.int 0) (.blt .len (.cons (.var 0) .nil)) (.int 4)) w4_2 [2, 3, 4, 5]) (.cons (.ret (.blt .tuple (.cons (.var 1) .nil))) .nil)))
def d4 : He.DefD := ⟨("bytes_of_signs", none), "bytes_of_signs", "bytes_of_signs", defArgs (top 6), defBody (top 6), defScope (top 6), [], []⟩
theorem sc4 : FnScope N4 P4 (defScope (top 6)) := ⟨rfl, rfl, rfl, by decide +kernel, rfl, by decide +kernel, by decide +kernel⟩
theorem m4 : b4.mat ⟨N4, defScope (top 6), fun _ => true, nkT, kwT⟩ (defBody (top 6)) = true := by kernel_rfl
def f4 : Fn := fnOf G4 1 7 b4
def G5 : Tb := G4.add "bytes_of_signs" f4
/-! fills_behind -/
def N5 : List Str := ["codes", "places", "rest", "at", "code"]
def P5 : List Str := ["codes"]
def x5_1 : Z.X := (.var 4)
def ts5_1 : Z.Ts := (.cons (.cmp .Eq (.var 4) (.int 61)) .nil)
def x5_2 : Z.X := (.var 3)
def ts5_2 : Z.Ts := (.cons (.val (.call "is_sign" (.sh (.var 4) .nil))) .nil)
def b5 : Z.Ss := (.cons (.asg 1 (.lc x5_2 (.tup [3, 4]) (.enum (.var 0)) ts5_2 [3, 4])) (.cons (.asg 2 (.ife (.cmp .NotEq (.var 1) (.lst .nil)) (.slc (.var 0) (.some (.bin .Add (.idx (.var 1) (.neg (.int 1))) (.int 1))) .none) (.var 0))) (.cons (.ret (.blt .len (.cons (.lc x5_1 (.name 4) (.seq (.var 2)) ts5_1 [4]) .nil))) .nil)))
def d5 : He.DefD := ⟨("fills_behind", none), "fills_behind", "fills_behind", defArgs (top 7), defBody (top 7), defScope (top 7), [], []⟩
theorem sc5 : FnScope N5 P5 (defScope (top 7)) := ⟨rfl, rfl, rfl, by decide +kernel, rfl, by decide +kernel, by decide +kernel⟩
theorem m5 : b5.mat ⟨N5, defScope (top 7), fun _ => true, nkT, kwT⟩ (defBody (top 7)) = true := by kernel_rfl
def f5 : Fn := fnOf G5 1 5 b5
def G6 : Tb := G5.add "fills_behind" f5
/-! base64_read -/
def N6 : List Str := ["source", "codes", "signs", "missing", "lack", "defects", "code"]
def P6 : List Str := ["source"]
def x6_1 : Z.X := (.var 6)
def ts6_1 : Z.Ts := (.cons (.cmp .Lt (.var 6) (.int 256)) .nil)
def x6_2 : Z.X := (.var 6)
def ts6_2 : Z.Ts := (.cons (.val (.call "is_sign" (.sh (.var 6) .nil))) .nil)
def x6_3 : Z.X := (.var 6)
def ts6_3 : Z.Ts := (.cons (.cmp .NotIn (.var 6) (.tup (.cons (.int 10) (.cons (.int 13) .nil)))) .nil)
def b6 : Z.Ss := (.cons (.asg 1 (.lc x6_3 (.name 6) (.seq (.var 0)) ts6_3 [6])) (.cons (.asg 2 (.lc x6_2 (.name 6) (.seq (.var 1)) ts6_2 [6])) (.cons (.par [3, 4] (.cons (.bin .Mod (.neg (.blt .len (.cons (.var 1) .nil))) (.int 4)) (.cons (.bin .Mod (.neg (.blt .len (.cons (.var 2) .nil))) (.int 4)) .nil))) (.cons (.ife (.bl2 .And (.cons (.cmp .Eq (.bin .Add (.var 1) (.bin .Mult (.lst (.cons (.int 61) .nil)) (.var 3))) (.bin .Add (.var 2) (.bin .Mult (.lst (.cons (.int 61) .nil)) (.var 4)))) (.cons (.cmp .Lt (.var 4) (.int 3)) .nil))) (.cons (.ret (.tup (.cons (.call "bytes_of_signs" (.sh (.var 2) .nil)) (.cons (.ife (.cmp .Gt (.var 3) (.int 0)) (.lst (.cons (.str "base64 padding") .nil)) (.lst .nil)) .nil)))) .nil) .nil) (.cons (.ife (.cmp .Eq (.var 4) (.int 3)) (.cons (.ret (.tup (.cons (.blt .tuple (.cons (.lc x6_1 (.name 6) (.seq (.var 1)) ts6_1 [6]) .nil)) (.cons (.lst (.cons (.str "base64 length") .nil)) .nil)))) .nil) .nil) (.cons (.asg 5 (.bin .Add (.lst (.cons (.str "base64 characters") .nil)) (.ife (.cmp .Lt (.call "fills_behind" (.sh (.var 1) .nil)) (.var 4)) (.lst (.cons (.str "base64 padding") .nil)) (.lst .nil)))) (.cons (.ret (.tup (.cons (.call "bytes_of_signs" (.sh (.var 2) .nil)) (.cons (.var 5) .nil)))) .nil)))))))
def d6 : He.DefD := ⟨("base64_read", none), "base64_read", "base64_read", defArgs (top 8), defBody (top 8), defScope (top 8), [], []⟩
theorem sc6 : FnScope N6 P6 (defScope (top 8)) := ⟨rfl, rfl, rfl, by decide +kernel, rfl, by decide +kernel, by decide +kernel⟩
theorem m6 : b6.mat ⟨N6, defScope (top 8), fun _ => true, nkT, kwT⟩ (defBody (top 8)) = true := by kernel_rfl
def f6 : Fn := fnOf G6 1 7 b6
def G7 : Tb := G6.add "base64_read" f6
/-! _law_source -/
def N7 : List Str := ["_law_script", "_law_k", "_law_cell", "_law_deep"]
def P7 : List Str := ["_law_script", "_law_k"]
def b7 : Z.Ss := (.cons (.asg 2 (.int 0)) (.cons (.asg 3 (.int 0)) (.cons (.ife (.cmp .Gt (.blt .len (.cons (.var 0) .nil)) (.int 0)) (.cons (.asg 2 (.idx (.var 0) (.bin .Mod (.blt .int (.cons (.var 1) .nil)) (.blt .len (.cons (.var 0) .nil))))) .nil) .nil) (.cons (.ife (.bl2 .And (.cons (.cmp .Lt (.var 1) (.blt .len (.cons (.var 0) .nil))) (.cons (.cmp .GtE (.var 2) (.bin .Pow (.int 10) (.int 18))) .nil))) (.cons (.asg 3 (.var 2)) .nil) .nil) (.cons (.ret (.lst (.cons (.var 3) (.cons (.bin .Add (.bin .Add (.bin .Mod (.blt .int (.cons (.var 2) .nil)) (.int 2147483647)) (.bin .Mult (.int 7919000) (.var 1))) (.int 104729)) (.cons (.int 0) .nil))))) .nil)))))
def d7 : He.DefD := ⟨("_law_source", none), "_law_source", "_law_source", defArgs (top 10), defBody (top 10), defScope (top 10), [], []⟩
theorem sc7 : FnScope N7 P7 (defScope (top 10)) := ⟨rfl, rfl, rfl, by decide +kernel, rfl, by decide +kernel, by decide +kernel⟩
theorem m7 : b7.mat ⟨N7, defScope (top 10), fun _ => true, nkT, kwT⟩ (defBody (top 10)) = true := by kernel_rfl
def f7 : Fn := fnOf G7 2 4 b7
def G8 : Tb := G7.add "_law_source" f7
/-! _law_draw -/
def N8 : List Str := ["_law_source_here", "_law_many", "_law_digit", "_law_seed"]
def P8 : List Str := ["_law_source_here", "_law_many"]
def b8 : Z.Ss := (.cons (.put 0 (.int 2) (.bin .Add (.idx (.var 0) (.int 2)) (.int 1))) (.cons (.ife (.cmp .Gt (.idx (.var 0) (.int 0)) (.int 0)) (.cons (.asg 2 (.bin .Mod (.blt .int (.cons (.idx (.var 0) (.int 0)) .nil)) (.var 1))) (.cons (.put 0 (.int 0) (.bin .FloorDiv (.idx (.var 0) (.int 0)) (.var 1))) (.cons (.ret (.var 2)) .nil))) .nil) (.cons (.asg 3 (.bin .Mod (.bin .Pow (.blt .int (.cons (.bin .Add (.idx (.var 0) (.int 1)) (.bin .Mult (.int 7919) (.idx (.var 0) (.int 2)))) .nil)) (.int 5)) (.int 2147483647))) (.cons (.ret (.bin .Mod (.bin .FloorDiv (.bin .Mod (.bin .Mult (.bin .Add (.var 3) (.idx (.var 0) (.int 2))) (.int 40692)) (.int 2147483629)) (.int 16)) (.var 1))) .nil))))
def d8 : He.DefD := ⟨("_law_draw", none), "_law_draw", "_law_draw", defArgs (top 11), defBody (top 11), defScope (top 11), [], []⟩
theorem sc8 : FnScope N8 P8 (defScope (top 11)) := ⟨rfl, rfl, rfl, by decide +kernel, rfl, by decide +kernel, by decide +kernel⟩
theorem m8 : b8.mat ⟨N8, defScope (top 11), fun _ => true, nkT, kwT⟩ (defBody (top 11)) = true := by kernel_rfl
def f8 : Fn := fnOf G8 2 4 b8
def G9 : Tb := G8.add "_law_draw" f8
/-! _law_pick -/
def N9 : List Str := ["_law_source_here", "_law_some"]
def P9 : List Str := ["_law_source_here", "_law_some"]
def b9 : Z.Ss := (.cons (.ret (.idx (.var 1) (.call "_law_draw" (.io 0 (.sh (.blt .len (.cons (.var 1) .nil)) .nil))))) .nil)
def d9 : He.DefD := ⟨("_law_pick", none), "_law_pick", "_law_pick", defArgs (top 12), defBody (top 12), defScope (top 12), [], []⟩
theorem sc9 : FnScope N9 P9 (defScope (top 12)) := ⟨rfl, rfl, rfl, by decide +kernel, rfl, by decide +kernel, by decide +kernel⟩
theorem m9 : b9.mat ⟨N9, defScope (top 12), fun _ => true, nkT, kwT⟩ (defBody (top 12)) = true := by kernel_rfl
def f9 : Fn := fnOf G9 2 2 b9
def G10 : Tb := G9.add "_law_pick" f9
/-! _law_same -/
def N10 : List Str := ["_law_found", "_law_due", "_law_one", "_law_two"]
def P10 : List Str := ["_law_found", "_law_due"]
def x10_1 : Z.X := (.call "_law_same" (.sh (.var 2) (.sh (.var 3) .nil)))
def b10 : Z.Ss := (.cons (.ife (.val (.isi (.var 1) ["list", "tuple"])) (.cons (.ife (.bl2 .Or (.cons (.cmp .NotEq (.isi (.var 0) ["list"]) (.isi (.var 1) ["list"])) (.cons (.cmp .NotEq (.isi (.var 0) ["tuple"]) (.isi (.var 1) ["tuple"])) .nil))) (.cons (.ret (.bl false)) .nil) .nil) (.cons (.ret (.bl2 .And (.cons (.cmp .Eq (.blt .len (.cons (.var 0) .nil)) (.blt .len (.cons (.var 1) .nil))) (.cons (.blt .all (.cons (.lc x10_1 (.tup [2, 3]) (.zip (.var 0) (.var 1)) .nil [2, 3]) .nil)) .nil)))) .nil)) .nil) (.cons (.ife (.val (.isi (.var 1) ["bool", "int"])) (.cons (.ret (.bl2 .And (.cons (.isi (.var 0) ["int"]) (.cons (.cmp .Eq (.isi (.var 0) ["bool"]) (.isi (.var 1) ["bool"])) (.cons (.cmp .Eq (.var 0) (.var 1)) .nil))))) .nil) .nil) (.cons (.ret (.bl2 .And (.cons (.not (.isi (.var 0) ["bool", "list", "tuple"])) (.cons (.cmp .Eq (.var 0) (.var 1)) .nil)))) .nil)))
def d10 : He.DefD := ⟨("_law_same", none), "_law_same", "_law_same", defArgs (top 13), defBody (top 13), defScope (top 13), [], []⟩
theorem sc10 : FnScope N10 P10 (defScope (top 13)) := ⟨rfl, rfl, rfl, by decide +kernel, rfl, by decide +kernel, by decide +kernel⟩
theorem m10 : b10.mat ⟨N10, defScope (top 13), fun _ => true, nkT, kwT⟩ (defBody (top 13)) = true := by kernel_rfl
def R10 : Nat → Tb
  | 0 => G10.add "_law_same" fun _ => .bad
  | n + 1 => (R10 n).add "_law_same" (fnOf (R10 n) 2 4 b10)
def f10 : Fn := fnOf (R10 5) 2 4 b10
def G11 : Tb := R10 6
/-! _law_bytes -/
def N11 : List Str := ["_law_source_here", "_law_most", "_law_row", "_law_found", "_law_k"]
def P11 : List Str := ["_law_source_here", "_law_most"]
def w11_1 : Z.Ss := (.cons (.app 3 (.ife (.cmp .Eq (.call "_law_draw" (.io 0 (.sh (.int 2) .nil))) (.int 0)) (.call "_law_draw" (.io 0 (.sh (.int 256) .nil))) (.call "_law_pick" (.io 0 (.sh (.var 2) .nil))))) .nil)
def b11 : Z.Ss := (.cons (.asg 2 (.lst (.cons (.int 0) (.cons (.int 1) (.cons (.int 9) (.cons (.int 10) (.cons (.int 13) (.cons (.int 32) (.cons (.int 61) (.cons (.int 63) (.cons (.int 64) (.cons (.int 95) (.cons (.int 97) (.cons (.int 126) (.cons (.int 127) (.cons (.int 128) (.cons (.int 192) (.cons (.int 255) .nil)))))))))))))))))) (.cons (.asg 3 (.lst .nil)) (.cons (.for_ (.name 4) (.rng1 (.call "_law_draw" (.io 0 (.sh (.bin .Add (.var 1) (.int 1)) .nil)))) w11_1 [4]) (.cons (.ret (.var 3)) .nil))))
def d11 : He.DefD := ⟨("_law_bytes", none), "_law_bytes", "_law_bytes", defArgs (top 14), defBody (top 14), defScope (top 14), [], []⟩
theorem sc11 : FnScope N11 P11 (defScope (top 14)) := ⟨rfl, rfl, rfl, by decide +kernel, rfl, by decide +kernel, by decide +kernel⟩
theorem m11 : b11.mat ⟨N11, defScope (top 14), fun _ => true, nkT, kwT⟩ (defBody (top 14)) = true := by kernel_rfl
def f11 : Fn := fnOf G11 2 5 b11
def G12 : Tb := G11.add "_law_bytes" f11
/-! _law_strewn -/
def N12 : List Str := ["_law_source_here", "_law_codes", "_law_some", "_law_found", "_law_k", "_law_at"]
def P12 : List Str := ["_law_source_here", "_law_codes", "_law_some"]
def w12_1 : Z.Ss := (.cons (.asg 5 (.call "_law_draw" (.io 0 (.sh (.bin .Add (.blt .len (.cons (.var 3) .nil)) (.int 1)) .nil)))) (.cons (.asg 3 (.bin .Add (.bin .Add (.slc (.var 3) .none (.some (.var 5))) (.lst (.cons (.call "_law_pick" (.io 0 (.sh (.var 2) .nil))) .nil))) (.slc (.var 3) (.some (.var 5)) .none))) .nil))
def b12 : Z.Ss := (.cons (.asg 3 (.blt .list (.cons (.var 1) .nil))) (.cons (.for_ (.name 4) (.rng1 (.call "_law_draw" (.io 0 (.sh (.int 5) .nil)))) w12_1 [4, 5]) (.cons (.ret (.var 3)) .nil)))
def d12 : He.DefD := ⟨("_law_strewn", none), "_law_strewn", "_law_strewn", defArgs (top 15), defBody (top 15), defScope (top 15), [], []⟩
theorem sc12 : FnScope N12 P12 (defScope (top 15)) := ⟨rfl, rfl, rfl, by decide +kernel, rfl, by decide +kernel, by decide +kernel⟩
theorem m12 : b12.mat ⟨N12, defScope (top 15), fun _ => true, nkT, kwT⟩ (defBody (top 15)) = true := by kernel_rfl
def f12 : Fn := fnOf G12 3 6 b12
def G13 : Tb := G12.add "_law_strewn" f12
/-! _law_read_right -/
def N13 : List Str := ["_law_codes", "_law_data", "_law_defects"]
def P13 : List Str := ["_law_codes", "_law_data", "_law_defects"]
def b13 : Z.Ss := (.cons (.ret (.call "_law_same" (.sh (.call "base64_read" (.sh (.var 0) .nil)) (.sh (.tup (.cons (.blt .tuple (.cons (.var 1) .nil)) (.cons (.var 2) .nil))) .nil)))) .nil)
def d13 : He.DefD := ⟨("_law_read_right", none), "_law_read_right", "_law_read_right", defArgs (top 16), defBody (top 16), defScope (top 16), [], []⟩
theorem sc13 : FnScope N13 P13 (defScope (top 16)) := ⟨rfl, rfl, rfl, by decide +kernel, rfl, by decide +kernel, by decide +kernel⟩
theorem m13 : b13.mat ⟨N13, defScope (top 16), fun _ => true, nkT, kwT⟩ (defBody (top 16)) = true := by kernel_rfl
def f13 : Fn := fnOf G13 3 3 b13
def G14 : Tb := G13.add "_law_read_right" f13
/-! _law_spoilt_right -/
def N14 : List Str := ["_law_source_here", "_law_data", "_law_signs", "_law_bare", "_law_less", "_law_odd", "_law_missing", "_law_code"]
def P14 : List Str := ["_law_source_here", "_law_data", "_law_signs"]
def x14_1 : Z.X := (.var 7)
def ts14_1 : Z.Ts := (.cons (.cmp .NotEq (.var 7) (.int 61)) .nil)
def b14 : Z.Ss := (.cons (.asg 3 (.lc x14_1 (.name 7) (.seq (.var 2)) ts14_1 [7])) (.cons (.asg 4 (.bin .Add (.var 3) (.bin .Mult (.lst (.cons (.int 61) .nil)) (.call "_law_draw" (.io 0 (.sh (.bin .Add (.bin .Sub (.blt .len (.cons (.var 2) .nil)) (.blt .len (.cons (.var 3) .nil))) (.int 1)) .nil)))))) (.cons (.ife (.not (.val (.call "_law_read_right" (.sh (.var 4) (.sh (.var 1) (.sh (.bin .Mult (.lst (.cons (.str "base64 padding") .nil)) (.blt .int (.cons (.cmp .Lt (.blt .len (.cons (.var 4) .nil)) (.blt .len (.cons (.var 2) .nil))) .nil))) .nil)))))) (.cons (.ret (.bl false)) .nil) .nil) (.cons (.asg 5 (.call "_law_strewn" (.io 0 (.sh (.var 3) (.sh (.lst (.cons (.int 32) (.cons (.int 33) (.cons (.int 45) (.cons (.int 46) (.cons (.int 95) (.cons (.int 128) .nil))))))) .nil))))) (.cons (.ife (.cmp .Eq (.blt .len (.cons (.var 5) .nil)) (.blt .len (.cons (.var 3) .nil))) (.cons (.asg 5 (.bin .Add (.lst (.cons (.int 33) .nil)) (.var 5))) .nil) .nil) (.cons (.ife (.cmp .Eq (.bin .Mod (.blt .int (.cons (.blt .len (.cons (.var 3) .nil)) .nil)) (.int 4)) (.int 0)) (.cons (.ret (.call "_law_read_right" (.sh (.var 5) (.sh (.var 1) (.sh (.lst (.cons (.str "base64 characters") .nil)) .nil))))) .nil) .nil) (.cons (.asg 6 (.call "_law_draw" (.io 0 (.sh (.int 2) .nil)))) (.cons (.asg 5 (.bin .Add (.var 5) (.bin .Mult (.lst (.cons (.int 61) .nil)) (.bin .Sub (.bin .Sub (.blt .len (.cons (.var 2) .nil)) (.blt .len (.cons (.var 3) .nil))) (.var 6))))) (.cons (.ret (.call "_law_read_right" (.sh (.var 5) (.sh (.var 1) (.sh (.bin .Add (.lst (.cons (.str "base64 characters") .nil)) (.bin .Mult (.lst (.cons (.str "base64 padding") .nil)) (.var 6))) .nil))))) .nil)))))))))
def d14 : He.DefD := ⟨("_law_spoilt_right", none), "_law_spoilt_right", "_law_spoilt_right", defArgs (top 17), defBody (top 17), defScope (top 17), [], []⟩
theorem sc14 : FnScope N14 P14 (defScope (top 17)) := ⟨rfl, rfl, rfl, by decide +kernel, rfl, by decide +kernel, by decide +kernel⟩
theorem m14 : b14.mat ⟨N14, defScope (top 17), fun _ => true, nkT, kwT⟩ (defBody (top 17)) = true := by kernel_rfl
def f14 : Fn := fnOf G14 3 8 b14
def G15 : Tb := G14.add "_law_spoilt_right" f14
/-! law -/
def N15 : List Str := ["_law_script", "_law_k", "_law_source_here", "_law_data", "_law_other", "_law_signs", "_law_lines", "_law_row", "_law_great", "_law_told", "_law_code", "_law_j"]
def P15 : List Str := ["_law_script"]
def x15_1 : Z.X := (.bin .Add (.int 65) (.call "_law_draw" (.io 2 (.sh (.int 26) .nil))))
def x15_2 : Z.X := (.var 10)
def w15_1 : Z.Ss := (.cons (.asg 2 (.call "_law_source" (.sh (.var 0) (.sh (.var 1) .nil)))) (.cons (.par [3, 4] (.cons (.call "_law_bytes" (.io 2 (.sh (.int 40) .nil))) (.cons (.call "_law_bytes" (.io 2 (.sh (.int 1) .nil))) .nil))) (.cons (.asg 5 (.call "base64_text" (.sh (.var 3) .nil))) (.cons (.ife (.bl2 .Or (.cons (.cmp .NotEq (.blt .len (.cons (.var 5) .nil)) (.bin .Mult (.bin .FloorDiv (.bin .Add (.blt .len (.cons (.var 3) .nil)) (.int 2)) (.int 3)) (.int 4))) (.cons (.cmp .NotEq (.cmp .Eq (.call "base64_text" (.sh (.var 4) .nil)) (.var 5)) (.cmp .Eq (.var 4) (.var 3))) .nil))) (.cons (.ret (.bl false)) .nil) .nil) (.cons (.asg 6 (.call "base64_lines" (.sh (.var 3) (.sh (.bin .Add (.bin .Add (.int 1) (.bin .Mult (.call "_law_draw" (.io 2 (.sh (.int 20) .nil))) (.int 3))) (.int 2)) (.sh (.tup (.cons (.int 13) (.cons (.int 10) .nil))) .nil))))) (.cons (.ife (.not (.val (.call "_law_read_right" (.sh (.call "_law_strewn" (.io 2 (.sh (.var 5) (.sh (.lst (.cons (.int 10) (.cons (.int 13) .nil))) .nil)))) (.sh (.var 3) (.sh (.lst .nil) .nil)))))) (.cons (.ret (.bl false)) .nil) .nil) (.cons (.ife (.bl2 .Or (.cons (.cmp .NotEq (.lc x15_2 (.name 10) (.seq (.idx (.call "base64_read" (.sh (.var 6) .nil)) (.int 0))) .nil [10]) (.var 3)) (.cons (.not (.val (.call "_law_spoilt_right" (.io 2 (.sh (.var 3) (.sh (.blt .list (.cons (.var 5) .nil)) .nil)))))) .nil))) (.cons (.ret (.bl false)) .nil) .nil) (.cons (.asg 7 (.lc x15_1 (.name 11) (.rng1 (.bin .Mult (.int 4) (.call "_law_draw" (.io 2 (.sh (.int 5) .nil))))) .nil [11])) (.cons (.asg 8 (.ife (.cmp .Eq (.var 1) (.int 0)) (.bin .Mult (.var 3) (.bin .Add (.int 1) (.call "_law_draw" (.io 2 (.sh (.int 24) .nil))))) (.var 3))) (.cons (.ife (.not (.val (.call "_law_read_right" (.sh (.call "base64_text" (.sh (.var 8) .nil)) (.sh (.var 8) (.sh (.lst .nil) .nil)))))) (.cons (.ret (.bl false)) .nil) .nil) (.cons (.asg 9 (.call "base64_read" (.sh (.var 7) .nil))) (.cons (.ife (.bl2 .Or (.cons (.cmp .NotEq (.idx (.var 9) (.int 1)) (.lst .nil)) (.cons (.not (.val (.call "_law_same" (.sh (.call "base64_read" (.sh (.call "base64_text" (.sh (.idx (.var 9) (.int 0)) .nil)) .nil)) (.sh (.var 9) .nil))))) .nil))) (.cons (.ret (.bl false)) .nil) .nil) .nil))))))))))))
def b15 : Z.Ss := (.cons (.for_ (.name 1) (.rng1 (.int 12)) w15_1 [1, 2, 3, 4, 5, 6, 7, 8, 9]) (.cons (.ret (.bl true)) .nil))
def d15 : He.DefD := ⟨("law", none), "law", "law", defArgs (top 18), defBody (top 18), defScope (top 18), [], []⟩
theorem sc15 : FnScope N15 P15 (defScope (top 18)) := ⟨rfl, rfl, rfl, by decide +kernel, rfl, by decide +kernel, by decide +kernel⟩
theorem m15 : b15.mat ⟨N15, defScope (top 18), fun _ => true, nkT, kwT⟩ (defBody (top 18)) = true := by kernel_rfl
def f15 : Fn := fnOf G15 1 12 b15
def G16 : Tb := G15.add "law" f15
/-! the head -/
def fnT : List He.DefD := [d0, d1, d2, d3, d4, d5, d6, d7, d8, d9, d10, d11, d12, d13, d14, d15]
def faT : List He.Fa := [.glo "base64_text", .glo "base64_lines", .glo "is_sign", .glo "digit_of", .glo "bytes_of_signs", .glo "fills_behind", .glo "base64_read", .glo "_law_source", .glo "_law_draw", .glo "_law_pick", .glo "_law_same", .glo "_law_bytes", .glo "_law_strewn", .glo "_law_read_right", .glo "_law_spoilt_right", .glo "law", .free "len", .free "int", .free "ord", .free "tuple", .free "list", .free "all", .free "any", .free "max", .free "min", .free "range", .free "enumerate", .free "zip", .free "isinstance", .free "bool", .free "str"]
def exT (K : PySem.W.Frag) : Bool := gIs K "SIGNS" (.str "ABCDEFGHIJKLMNOPQRSTUVWXYZabcdefghijklmnopqrstuvwxyz0123456789+/") && (dfAll K [(.int 57), (.tup [.int 10])] d1.dfl && (true))
abbrev RW : PySem.W.OpenRow := PySem.W.OpenLaw.row PySem.Challenge.rw_foldpost_k08_whole_base_64_judged
abbrev hk : PySem.W.Hook := hookZ 5 faT fnT exT
def ob (s : PySem.W.SharedT) : He.AlD × Bool := obsZG 5 faT fnT exT (HandSHeadRun.getT s)
theorem ob_eq (s : PySem.W.SharedT) : ob s = hk.obs s.abs := obsZG_eq (HandSHeadRun.getT_eq s)
theorem run (w : World) : HandSHeadRun.RunEq RW (PySem.W.view RW.prog [18]) hk ob 2000 ["SIGNS", "base64_text", "base64_lines", "is_sign", "digit_of", "bytes_of_signs", "fills_behind", "base64_read", "_law_source", "_law_draw", "_law_pick", "_law_same", "_law_bytes", "_law_strewn", "_law_read_right", "_law_spoilt_right"] w := by
  intro os
  kernel_rfl
section
variable {P : Program} {w : World} {K : PySem.W.Frag} {mg : Str → Option Value} {base : Heap} {h : Heap}
theorem ex_at {l : List Bool} : True := trivial
theorem env0 (X : K.In h) (G : h.Ns mainGlobals mg) (c : SaysZ faT fnT exT K) : EnvK P w K mg base G0 nkT 0 := fun A r => by
  have ex := c.2
  unfold exT at ex
  simp only [Bool.and_eq_true] at ex
  refine ⟨fun x d h => ?_, fun x hx => ?_, fun x f h => (nomatch h)⟩
  · have h : gcT x = some d := h
    unfold gcT at h
    split at h
    · rename_i e
      cases h
      rw [e]
      exact gIs_ok X G (ex.1)
    cases h
  · simp only [bltNames, List.mem_cons, List.not_mem_nil, or_false] at hx
    rcases hx with rfl | rfl | rfl | rfl | rfl | rfl | rfl | rfl | rfl | rfl | rfl | rfl | rfl | rfl | rfl
    · exact He.free_ok X G (c.1.fact 16 (f := .free "len") rfl)
    · exact He.free_ok X G (c.1.fact 17 (f := .free "int") rfl)
    · exact He.free_ok X G (c.1.fact 18 (f := .free "ord") rfl)
    · exact He.free_ok X G (c.1.fact 19 (f := .free "tuple") rfl)
    · exact He.free_ok X G (c.1.fact 20 (f := .free "list") rfl)
    · exact He.free_ok X G (c.1.fact 21 (f := .free "all") rfl)
    · exact He.free_ok X G (c.1.fact 22 (f := .free "any") rfl)
    · exact He.free_ok X G (c.1.fact 23 (f := .free "max") rfl)
    · exact He.free_ok X G (c.1.fact 24 (f := .free "min") rfl)
    · exact He.free_ok X G (c.1.fact 25 (f := .free "range") rfl)
    · exact He.free_ok X G (c.1.fact 26 (f := .free "enumerate") rfl)
    · exact He.free_ok X G (c.1.fact 27 (f := .free "zip") rfl)
    · exact He.free_ok X G (c.1.fact 28 (f := .free "isinstance") rfl)
    · exact He.free_ok X G (c.1.fact 29 (f := .free "bool") rfl)
    · exact He.free_ok X G (c.1.fact 30 (f := .free "str") rfl)
theorem env1 (X : K.In h) (G : h.Ns mainGlobals mg) (c : SaysZ faT fnT exT K) : EnvK P w K mg base G1 nkT 1 := by
  obtain ⟨fd, F⟩ := c.1.def_ 0 (d := d0) rfl
  have gm : mg ("base64_text" : Str) = some (.ref (He.ga K "base64_text")) := He.glo_ok X G (c.1.fact 0 (f := .glo "base64_text") rfl)
  have hb : ("base64_text" : Str) ∉ nkT → Binds K fd P0 [] := fun _ => F.bindsN fun _ _ _ _ _ _ us hl => match us, hl with | [_], _ => rfl
  have hq : ∀ c q, kwT c = some q → q.f = ("base64_text" : Str) → KwOk K fd P0 q := fun cc q e1 e2 => by
    match cc, e1 with
    | _, e1 => cases e1
  exact (env0 X G c).step (ps := P0) (N := N0) F sc0 m0 gm hb hq
theorem env2 (X : K.In h) (G : h.Ns mainGlobals mg) (c : SaysZ faT fnT exT K) : EnvK P w K mg base G2 nkT 2 := by
  obtain ⟨fd, F⟩ := c.1.def_ 1 (d := d1) rfl
  have gm : mg ("base64_lines" : Str) = some (.ref (He.ga K "base64_lines")) := He.glo_ok X G (c.1.fact 1 (f := .glo "base64_lines") rfl)
  have hb : ("base64_lines" : Str) ∉ nkT → Binds K fd P1 [] := fun _ => by
    obtain ⟨ds, h1, h2⟩ := F.binds1 (ps := P1) 3 2 (fun z => nomatch z) rfl fun _ _ _ _ _ _ _ us its l1 l2 => match us, its, l1, l2 with | [_, _, _], [_, _], _, _ => ⟨_, rfl, rfl⟩
    cases h1
    exact h2
  have hq : ∀ c q, kwT c = some q → q.f = ("base64_lines" : Str) → KwOk K fd P1 q := fun cc q e1 e2 => by
    have ex := c.2
    unfold exT at ex
    simp only [Bool.and_eq_true] at ex
    have hd := dfAll_ok ex.2.1
    match cc, e1 with
    | _, e1 => cases e1
  exact (env1 X G c).step (ps := P1) (N := N1) F sc1 m1 gm hb hq
theorem env3 (X : K.In h) (G : h.Ns mainGlobals mg) (c : SaysZ faT fnT exT K) : EnvK P w K mg base G3 nkT 3 := by
  obtain ⟨fd, F⟩ := c.1.def_ 2 (d := d2) rfl
  have gm : mg ("is_sign" : Str) = some (.ref (He.ga K "is_sign")) := He.glo_ok X G (c.1.fact 2 (f := .glo "is_sign") rfl)
  have hb : ("is_sign" : Str) ∉ nkT → Binds K fd P2 [] := fun _ => F.bindsN fun _ _ _ _ _ _ us hl => match us, hl with | [_], _ => rfl
  have hq : ∀ c q, kwT c = some q → q.f = ("is_sign" : Str) → KwOk K fd P2 q := fun cc q e1 e2 => by
    match cc, e1 with
    | _, e1 => cases e1
  exact (env2 X G c).step (ps := P2) (N := N2) F sc2 m2 gm hb hq
theorem env4 (X : K.In h) (G : h.Ns mainGlobals mg) (c : SaysZ faT fnT exT K) : EnvK P w K mg base G4 nkT 4 := by
  obtain ⟨fd, F⟩ := c.1.def_ 3 (d := d3) rfl
  have gm : mg ("digit_of" : Str) = some (.ref (He.ga K "digit_of")) := He.glo_ok X G (c.1.fact 3 (f := .glo "digit_of") rfl)
  have hb : ("digit_of" : Str) ∉ nkT → Binds K fd P3 [] := fun _ => F.bindsN fun _ _ _ _ _ _ us hl => match us, hl with | [_], _ => rfl
  have hq : ∀ c q, kwT c = some q → q.f = ("digit_of" : Str) → KwOk K fd P3 q := fun cc q e1 e2 => by
    match cc, e1 with
    | _, e1 => cases e1
  exact (env3 X G c).step (ps := P3) (N := N3) F sc3 m3 gm hb hq
theorem env5 (X : K.In h) (G : h.Ns mainGlobals mg) (c : SaysZ faT fnT exT K) : EnvK P w K mg base G5 nkT 5 := by
  obtain ⟨fd, F⟩ := c.1.def_ 4 (d := d4) rfl
  have gm : mg ("bytes_of_signs" : Str) = some (.ref (He.ga K "bytes_of_signs")) := He.glo_ok X G (c.1.fact 4 (f := .glo "bytes_of_signs") rfl)
  have hb : ("bytes_of_signs" : Str) ∉ nkT → Binds K fd P4 [] := fun _ => F.bindsN fun _ _ _ _ _ _ us hl => match us, hl with | [_], _ => rfl
  have hq : ∀ c q, kwT c = some q → q.f = ("bytes_of_signs" : Str) → KwOk K fd P4 q := fun cc q e1 e2 => by
    match cc, e1 with
    | _, e1 => cases e1
  exact (env4 X G c).step (ps := P4) (N := N4) F sc4 m4 gm hb hq
theorem env6 (X : K.In h) (G : h.Ns mainGlobals mg) (c : SaysZ faT fnT exT K) : EnvK P w K mg base G6 nkT 6 := by
  obtain ⟨fd, F⟩ := c.1.def_ 5 (d := d5) rfl
  have gm : mg ("fills_behind" : Str) = some (.ref (He.ga K "fills_behind")) := He.glo_ok X G (c.1.fact 5 (f := .glo "fills_behind") rfl)
  have hb : ("fills_behind" : Str) ∉ nkT → Binds K fd P5 [] := fun _ => F.bindsN fun _ _ _ _ _ _ us hl => match us, hl with | [_], _ => rfl
  have hq : ∀ c q, kwT c = some q → q.f = ("fills_behind" : Str) → KwOk K fd P5 q := fun cc q e1 e2 => by
    match cc, e1 with
    | _, e1 => cases e1
  exact (env5 X G c).step (ps := P5) (N := N5) F sc5 m5 gm hb hq
theorem env7 (X : K.In h) (G : h.Ns mainGlobals mg) (c : SaysZ faT fnT exT K) : EnvK P w K mg base G7 nkT 7 := by
  obtain ⟨fd, F⟩ := c.1.def_ 6 (d := d6) rfl
  have gm : mg ("base64_read" : Str) = some (.ref (He.ga K "base64_read")) := He.glo_ok X G (c.1.fact 6 (f := .glo "base64_read") rfl)
  have hb : ("base64_read" : Str) ∉ nkT → Binds K fd P6 [] := fun _ => F.bindsN fun _ _ _ _ _ _ us hl => match us, hl with | [_], _ => rfl
  have hq : ∀ c q, kwT c = some q → q.f = ("base64_read" : Str) → KwOk K fd P6 q := fun cc q e1 e2 => by
    match cc, e1 with
    | _, e1 => cases e1
  exact (env6 X G c).step (ps := P6) (N := N6) F sc6 m6 gm hb hq
theorem env8 (X : K.In h) (G : h.Ns mainGlobals mg) (c : SaysZ faT fnT exT K) : EnvK P w K mg base G8 nkT 8 := by
  obtain ⟨fd, F⟩ := c.1.def_ 7 (d := d7) rfl
  have gm : mg ("_law_source" : Str) = some (.ref (He.ga K "_law_source")) := He.glo_ok X G (c.1.fact 7 (f := .glo "_law_source") rfl)
  have hb : ("_law_source" : Str) ∉ nkT → Binds K fd P7 [] := fun _ => F.bindsN fun _ _ _ _ _ _ us hl => match us, hl with | [_, _], _ => rfl
  have hq : ∀ c q, kwT c = some q → q.f = ("_law_source" : Str) → KwOk K fd P7 q := fun cc q e1 e2 => by
    match cc, e1 with
    | _, e1 => cases e1
  exact (env7 X G c).step (ps := P7) (N := N7) F sc7 m7 gm hb hq
theorem env9 (X : K.In h) (G : h.Ns mainGlobals mg) (c : SaysZ faT fnT exT K) : EnvK P w K mg base G9 nkT 9 := by
  obtain ⟨fd, F⟩ := c.1.def_ 8 (d := d8) rfl
  have gm : mg ("_law_draw" : Str) = some (.ref (He.ga K "_law_draw")) := He.glo_ok X G (c.1.fact 8 (f := .glo "_law_draw") rfl)
  have hb : ("_law_draw" : Str) ∉ nkT → Binds K fd P8 [] := fun _ => F.bindsN fun _ _ _ _ _ _ us hl => match us, hl with | [_, _], _ => rfl
  have hq : ∀ c q, kwT c = some q → q.f = ("_law_draw" : Str) → KwOk K fd P8 q := fun cc q e1 e2 => by
    match cc, e1 with
    | _, e1 => cases e1
  exact (env8 X G c).step (ps := P8) (N := N8) F sc8 m8 gm hb hq
theorem env10 (X : K.In h) (G : h.Ns mainGlobals mg) (c : SaysZ faT fnT exT K) : EnvK P w K mg base G10 nkT 10 := by
  obtain ⟨fd, F⟩ := c.1.def_ 9 (d := d9) rfl
  have gm : mg ("_law_pick" : Str) = some (.ref (He.ga K "_law_pick")) := He.glo_ok X G (c.1.fact 9 (f := .glo "_law_pick") rfl)
  have hb : ("_law_pick" : Str) ∉ nkT → Binds K fd P9 [] := fun _ => F.bindsN fun _ _ _ _ _ _ us hl => match us, hl with | [_, _], _ => rfl
  have hq : ∀ c q, kwT c = some q → q.f = ("_law_pick" : Str) → KwOk K fd P9 q := fun cc q e1 e2 => by
    match cc, e1 with
    | _, e1 => cases e1
  exact (env9 X G c).step (ps := P9) (N := N9) F sc9 m9 gm hb hq
theorem env11 (X : K.In h) (G : h.Ns mainGlobals mg) (c : SaysZ faT fnT exT K) : EnvK P w K mg base G11 nkT 16 := by
  obtain ⟨fd, F⟩ := c.1.def_ 10 (d := d10) rfl
  have gm : mg ("_law_same" : Str) = some (.ref (He.ga K "_law_same")) := He.glo_ok X G (c.1.fact 10 (f := .glo "_law_same") rfl)
  have hb : ("_law_same" : Str) ∉ nkT → Binds K fd P10 [] := fun _ => F.bindsN fun _ _ _ _ _ _ us hl => match us, hl with | [_, _], _ => rfl
  have hq : ∀ c q, kwT c = some q → q.f = ("_law_same" : Str) → KwOk K fd P10 q := fun cc q e1 e2 => by
    match cc, e1 with
    | _, e1 => cases e1
  have z : ∀ n, EnvK P w K mg base (R10 n) nkT (10 + n) := fun n => by
    induction n with
    | zero => exact (env10 X G c).zero (ps := P10) F gm hb hq
    | succ n ih => exact ih.step (ps := P10) (N := N10) F sc10 (by have : (R10 n).kw = kwT := (by clear ih; induction n with | zero => rfl | succ n ih => exact ih); rw [this]; exact m10) gm hb (by have : (R10 n).kw = kwT := (by clear ih; induction n with | zero => rfl | succ n ih => exact ih); rw [this]; exact hq)
  exact z 6
theorem env12 (X : K.In h) (G : h.Ns mainGlobals mg) (c : SaysZ faT fnT exT K) : EnvK P w K mg base G12 nkT 17 := by
  obtain ⟨fd, F⟩ := c.1.def_ 11 (d := d11) rfl
  have gm : mg ("_law_bytes" : Str) = some (.ref (He.ga K "_law_bytes")) := He.glo_ok X G (c.1.fact 11 (f := .glo "_law_bytes") rfl)
  have hb : ("_law_bytes" : Str) ∉ nkT → Binds K fd P11 [] := fun _ => F.bindsN fun _ _ _ _ _ _ us hl => match us, hl with | [_, _], _ => rfl
  have hq : ∀ c q, kwT c = some q → q.f = ("_law_bytes" : Str) → KwOk K fd P11 q := fun cc q e1 e2 => by
    match cc, e1 with
    | _, e1 => cases e1
  exact (env11 X G c).step (ps := P11) (N := N11) F sc11 m11 gm hb hq
theorem env13 (X : K.In h) (G : h.Ns mainGlobals mg) (c : SaysZ faT fnT exT K) : EnvK P w K mg base G13 nkT 18 := by
  obtain ⟨fd, F⟩ := c.1.def_ 12 (d := d12) rfl
  have gm : mg ("_law_strewn" : Str) = some (.ref (He.ga K "_law_strewn")) := He.glo_ok X G (c.1.fact 12 (f := .glo "_law_strewn") rfl)
  have hb : ("_law_strewn" : Str) ∉ nkT → Binds K fd P12 [] := fun _ => F.bindsN fun _ _ _ _ _ _ us hl => match us, hl with | [_, _, _], _ => rfl
  have hq : ∀ c q, kwT c = some q → q.f = ("_law_strewn" : Str) → KwOk K fd P12 q := fun cc q e1 e2 => by
    match cc, e1 with
    | _, e1 => cases e1
  exact (env12 X G c).step (ps := P12) (N := N12) F sc12 m12 gm hb hq
theorem env14 (X : K.In h) (G : h.Ns mainGlobals mg) (c : SaysZ faT fnT exT K) : EnvK P w K mg base G14 nkT 19 := by
  obtain ⟨fd, F⟩ := c.1.def_ 13 (d := d13) rfl
  have gm : mg ("_law_read_right" : Str) = some (.ref (He.ga K "_law_read_right")) := He.glo_ok X G (c.1.fact 13 (f := .glo "_law_read_right") rfl)
  have hb : ("_law_read_right" : Str) ∉ nkT → Binds K fd P13 [] := fun _ => F.bindsN fun _ _ _ _ _ _ us hl => match us, hl with | [_, _, _], _ => rfl
  have hq : ∀ c q, kwT c = some q → q.f = ("_law_read_right" : Str) → KwOk K fd P13 q := fun cc q e1 e2 => by
    match cc, e1 with
    | _, e1 => cases e1
  exact (env13 X G c).step (ps := P13) (N := N13) F sc13 m13 gm hb hq
theorem env15 (X : K.In h) (G : h.Ns mainGlobals mg) (c : SaysZ faT fnT exT K) : EnvK P w K mg base G15 nkT 20 := by
  obtain ⟨fd, F⟩ := c.1.def_ 14 (d := d14) rfl
  have gm : mg ("_law_spoilt_right" : Str) = some (.ref (He.ga K "_law_spoilt_right")) := He.glo_ok X G (c.1.fact 14 (f := .glo "_law_spoilt_right") rfl)
  have hb : ("_law_spoilt_right" : Str) ∉ nkT → Binds K fd P14 [] := fun _ => F.bindsN fun _ _ _ _ _ _ us hl => match us, hl with | [_, _, _], _ => rfl
  have hq : ∀ c q, kwT c = some q → q.f = ("_law_spoilt_right" : Str) → KwOk K fd P14 q := fun cc q e1 e2 => by
    match cc, e1 with
    | _, e1 => cases e1
  exact (env14 X G c).step (ps := P14) (N := N14) F sc14 m14 gm hb hq
theorem env16 (X : K.In h) (G : h.Ns mainGlobals mg) (c : SaysZ faT fnT exT K) : EnvK P w K mg base G16 nkT 21 := by
  obtain ⟨fd, F⟩ := c.1.def_ 15 (d := d15) rfl
  have gm : mg ("law" : Str) = some (.ref (He.ga K "law")) := He.glo_ok X G (c.1.fact 15 (f := .glo "law") rfl)
  have hb : ("law" : Str) ∉ nkT → Binds K fd P15 [] := fun _ => F.bindsN fun _ _ _ _ _ _ us hl => match us, hl with | [_], _ => rfl
  have hq : ∀ c q, kwT c = some q → q.f = ("law" : Str) → KwOk K fd P15 q := fun cc q e1 e2 => by
    match cc, e1 with
    | _, e1 => cases e1
  exact (env15 X G c).step (ps := P15) (N := N15) F sc15 m15 gm hb hq
end
theorem law_ok {P : Program} {w : World} {K : PySem.W.Frag} {h : Heap} {mg : Str → Option Value} {f : Addr} (X : K.In h) (G : h.Ns mainGlobals mg) (hfa : mg ("law" : Str) = some (.ref f)) (c : SaysZ faT fnT exT K) :
    ∃ fd : FuncData, (∀ (s : Shared) (v : Value), BindsTo s fd ⟨[v], []⟩ [("_law_script", v)]) ∧ ∀ base : Heap, K.In base → base.Ns mainGlobals mg → FnOk P w K mg base (L2.CX P w) 21 f fd ["_law_script"] (spM K mg 1 f15) := by
  obtain ⟨fd, F⟩ := c.1.def_ 15 (d := d15) rfl
  have e := hfa.symm.trans (He.glo_ok X G (c.1.fact 15 (f := .glo "law") rfl))
  cases e
  have b := FunD.bindsA (ps := P15) F fun _ _ _ _ _ _ us hl => match us, hl with | [_], _ => rfl
  exact ⟨fd, fun s v => b s [v] rfl, fun base _ _ => def_ok (ps := P15) (N := N15) (env15 X G c) F sc15 m15⟩
end
end Lw
open PySem PySem.W PySem.Calls PyProof.Rows
theorem Lw.holds (hm : ∀ ns : List Int, ns.length ≤ 63 → ∃ A', Lw.f15 [.sh (.fz (ns.map .int))] = .ok (.sh (.bl true)) A') : PySem.Challenge.rw_foldpost_k08_whole_base_64_judged.Holds := by
  w_on; o_law
  refine HandSHeadRun.head_any (r := OpenLaw.row PySem.Challenge.rw_foldpost_k08_whole_base_64_judged) (q := view (OpenLaw.row PySem.Challenge.rw_foldpost_k08_whole_base_64_judged).prog [18]) (H := Lw.hk) (ob := Lw.ob) (M := 2000) (loose := ["SIGNS", "base64_text", "base64_lines", "is_sign", "digit_of", "bytes_of_signs", "fills_behind", "base64_read", "_law_source", "_law_draw", "_law_pick", "_law_same", "_law_bytes", "_law_strewn", "_law_read_right", "_law_spoilt_right"]) (d := HandSHeadRun.topDef (OpenLaw.row PySem.Challenge.rw_foldpost_k08_whole_base_64_judged).prog 18) (kwd := []) Lw.ob_eq
    (by kernel_rfl) (fun s => by kernel_rfl) Lw.run (by kernel_rfl) (by kernel_rfl) (by kernel_rfl) (by rfl) (by first | assumption | decide +kernel) (by decide +kernel) ⟨rfl, rfl, rfl, rfl, rfl, by decide +kernel⟩ ?hw ?hc
  case hw => w_witness2
  case hc =>
    refine Z.walk_Z (l := PySem.Challenge.rw_foldpost_k08_whole_base_64_judged) (n := 63) (k := 21) (x := "_law_script") rfl (by decide) (by kernel_rfl) ⟨rfl, by decide, by decide⟩ ?F
    intro w mg fa h Y G hmg0
    obtain ⟨K, KX, c⟩ := Y
    have hmg : mg ("law" : PySem.Str) = some (.ref fa) := by
      have e : (HandSHeadRun.topDef (OpenLaw.row PySem.Challenge.rw_foldpost_k08_whole_base_64_judged).prog 18).name = ("law" : PySem.Str) := by kernel_rfl
      rw [← e]
      exact hmg0
    obtain ⟨fd, hb, hF⟩ := Lw.law_ok (P := (PySem.Challenge.rw_foldpost_k08_whole_base_64_judged).prog) (w := w) KX G hmg c
    exact ⟨K, fd, Lw.f15, KX, hb, hm, hF⟩

end
section
set_option Elab.async false
set_option linter.all false
set_option maxRecDepth 100000
set_option maxHeartbeats 0
namespace Lw
open PySem PySem.Spec PyProof.Rows L2 Z
/-! ### signs -/
def SG : Str := "ABCDEFGHIJKLMNOPQRSTUVWXYZabcdefghijklmnopqrstuvwxyz0123456789+/"
def sgn (v : Int) : Int := ((SG.cps.toList.getD v.toNat 0 : Nat) : Int)
theorem SG_len : SG.cps.toList.length = 64 := by decide +kernel
theorem SG_line : line SG.cps.size = true := by rw [line_eq]; decide +kernel
theorem sign_at (v : Int) (h0 : 0 ≤ v) (h1 : v < 64) : ∃ c : Nat, atI SG.cps.toList v = some c ∧ sgn v = (c : Int) := by
  have hl : v.toNat < SG.cps.toList.length := by rw [SG_len]; omega
  refine ⟨SG.cps.toList[v.toNat], ?_, ?_⟩
  · unfold atI ixN
    rw [SG_len, if_pos h0, if_pos (by omega)]
    simp only [Option.bind_some]
    exact List.getElem?_eq_getElem hl
  · unfold sgn
    rw [List.getD_eq_getElem?_getD, List.getElem?_eq_getElem hl]
    rfl
def grp (n : Int) : List Int := [sgn (n / 262144 % 64), sgn (n / 4096 % 64), sgn (n / 64 % 64), sgn (n % 64)]
def b64 : List Int → List Int
  | a :: b :: c :: r => grp ((a * 256 + b) * 256 + c) ++ b64 r
  | [a, b] => (grp ((a * 256 + b) * 256)).take 3 ++ [61]
  | [a] => (grp (a * 256 * 256)).take 2 ++ [61, 61]
  | [] => []
theorem G0_signs : G0.gc "SIGNS" = some (.str SG) := by kernel_rfl
/-- one sign, in its block -/
theorem sign_x (s0 s1 s2 s3 s5 s6 : Sl) (n p : Int) (hp : 0 < p ∧ p < 18446744073709551616) : x0_1.den G0 [s0, s1, s2, s3, .sh (.int n), s5, s6, .sh (.int p)] = .ok (.sh (.int (sgn (n / p % 64)))) [s0, s1, s2, s3, .sh (.int n), s5, s6, .sh (.int p)] := by
  obtain ⟨c, e1, e2⟩ := sign_at (n / p % 64) (Int.emod_nonneg _ (by omega)) (Int.emod_lt_of_pos _ (by omega))
  have hg := G0_signs
  have hl : SG.cps.size ≤ 16777216 := by decide +kernel
  simp -dsimp [x0_1, line_eq, Ss.den, S.den, X.den, Xs.denL, Xs.denS, Xs.denB, Xs.denP, Xo.den, As.den, T.den, Ts.denB, Ts.denA, It.den, putM, appM, extM, augM, shM, share, ownAt, Sl.own, Sl.put, putR, appR, extR, own1, ixN, varM, idxR, slcR, negR, notR, view, bop, addR, subR, mulR, fdivR, modR, powR, bltR, lenR, intR, ordR, tupleR, listR, cop, copR, cmpI, isNone, ↓bind_L, bindL_ok, bindL_ex, bindL_bad, ↓thn_L, thnL_ok, thnL_ex, thnL_bad, ↓seq_L, seqL_next, seqL_brk, seqL_cnt, seqL_ret, seqL_ex, seqL_bad, asgR, notIo, okS, ↓ofO_L, ofOL_some, ofOL_none, fnEnd, ioB, callR_E, callE, toSlots, backSlots, owns, parSet, pickR, setT, setL, killL, killD, kill1, restore, plainSlot, seqD, itemsD, isiR, isiD, hg, hp, e1, e2, hl, Str.length]
theorem int_x (s0 s1 s2 s3 s4 s6 s7 : Sl) (n : Int) : x0_2.den G0 [s0, s1, s2, s3, s4, .sh (.int n), s6, s7] = .ok (.sh (.int n)) [s0, s1, s2, s3, s4, .sh (.int n), s6, s7] := by
  simp -dsimp [x0_2, line_eq, Ss.den, S.den, X.den, Xs.denL, Xs.denS, Xs.denB, Xs.denP, Xo.den, As.den, T.den, Ts.denB, Ts.denA, It.den, putM, appM, extM, augM, shM, share, ownAt, Sl.own, Sl.put, putR, appR, extR, own1, ixN, varM, idxR, slcR, negR, notR, view, bop, addR, subR, mulR, fdivR, modR, powR, bltR, lenR, intR, ordR, tupleR, listR, cop, copR, cmpI, isNone, ↓bind_L, bindL_ok, bindL_ex, bindL_bad, ↓thn_L, thnL_ok, thnL_ex, thnL_bad, ↓seq_L, seqL_next, seqL_brk, seqL_cnt, seqL_ret, seqL_ex, seqL_bad, asgR, notIo, okS, ↓ofO_L, ofOL_some, ofOL_none, fnEnd, ioB, callR_E, callE, toSlots, backSlots, owns, parSet, pickR, setT, setL, killL, killD, kill1, restore, plainSlot, seqD, itemsD, isiR, isiD]
theorem cut2 (xs : List D) : cutD xs none (some 2) = xs.take 2 := cutD_to xs 2
theorem cut3 (xs : List D) : cutD xs none (some 3) = xs.take 3 := cutD_to xs 3
theorem cut4 (xs : List D) : cutD xs none (some 4) = xs.take 4 := cutD_to xs 4
theorem text_step (bs row found : List Int) (c : D) (hc : c = .lst (iD bs) ∨ c = .tup (iD bs)) (a : Int) (h : cutD (iD bs) (some a) (some (a + 3)) = iD row) (hr : row.length = 1 ∨ row.length = 2 ∨ row.length = 3)
    (hf : found.length ≤ 16777000) : Nx (w0_2.den G0 [.sh c, .ow (iD found), .sh (.int a), .un, .un, .un, .un, .un]) fun F2 => killD F2 [2, 3, 4, 5, 6] = [.sh c, .ow (iD (found ++ b64 row)), .un, .un, .un, .un, .un, .un] := by
  have hl : found.length + 4 ≤ 16777216 := by omega
  have hl2 : found.length ≤ 16777212 := by omega
  match row, hr, h with
  | [x], _, h =>
    rcases hc with rfl | rfl <;> simp -dsimp [w0_2, w0_1, line_eq, Ss.den, S.den, X.den, Xs.denL, Xs.denS, Xs.denB, Xs.denP, Xo.den, As.den, T.den, Ts.denB, Ts.denA, It.den, putM, appM, extM, augM, shM, share, ownAt, Sl.own, Sl.put, putR, appR, extR, own1, ixN, varM, idxR, slcR, negR, notR, view, bop, addR, subR, mulR, fdivR, modR, powR, bltR, lenR, intR, ordR, tupleR, listR, cop, copR, cmpI, isNone, ↓bind_L, bindL_ok, bindL_ex, bindL_bad, ↓thn_L, thnL_ok, thnL_ex, thnL_bad, ↓seq_L, seqL_next, seqL_brk, seqL_cnt, seqL_ret, seqL_ex, seqL_bad, asgR, notIo, okS, ↓ofO_L, ofOL_some, ofOL_none, fnEnd, ioB, callR_E, callE, toSlots, backSlots, owns, parSet, pickR, setT, setL, killL, killD, kill1, restore, plainSlot, seqD, itemsD, isiR, isiD, Z.forM, lcLoop, noX, h, int_x, sign_x, line_eq, hl, hl2, fits_eq, mulOk_eq, Nx, cut2, cut3, cut4, b64, grp]
  | [x, y], _, h =>
    rcases hc with rfl | rfl <;> simp -dsimp [w0_2, w0_1, line_eq, Ss.den, S.den, X.den, Xs.denL, Xs.denS, Xs.denB, Xs.denP, Xo.den, As.den, T.den, Ts.denB, Ts.denA, It.den, putM, appM, extM, augM, shM, share, ownAt, Sl.own, Sl.put, putR, appR, extR, own1, ixN, varM, idxR, slcR, negR, notR, view, bop, addR, subR, mulR, fdivR, modR, powR, bltR, lenR, intR, ordR, tupleR, listR, cop, copR, cmpI, isNone, ↓bind_L, bindL_ok, bindL_ex, bindL_bad, ↓thn_L, thnL_ok, thnL_ex, thnL_bad, ↓seq_L, seqL_next, seqL_brk, seqL_cnt, seqL_ret, seqL_ex, seqL_bad, asgR, notIo, okS, ↓ofO_L, ofOL_some, ofOL_none, fnEnd, ioB, callR_E, callE, toSlots, backSlots, owns, parSet, pickR, setT, setL, killL, killD, kill1, restore, plainSlot, seqD, itemsD, isiR, isiD, Z.forM, lcLoop, noX, h, int_x, sign_x, line_eq, hl, hl2, fits_eq, mulOk_eq, Nx, cut2, cut3, cut4, b64, grp]
  | [x, y, z], _, h =>
    rcases hc with rfl | rfl <;> simp -dsimp [w0_2, w0_1, line_eq, Ss.den, S.den, X.den, Xs.denL, Xs.denS, Xs.denB, Xs.denP, Xo.den, As.den, T.den, Ts.denB, Ts.denA, It.den, putM, appM, extM, augM, shM, share, ownAt, Sl.own, Sl.put, putR, appR, extR, own1, ixN, varM, idxR, slcR, negR, notR, view, bop, addR, subR, mulR, fdivR, modR, powR, bltR, lenR, intR, ordR, tupleR, listR, cop, copR, cmpI, isNone, ↓bind_L, bindL_ok, bindL_ex, bindL_bad, ↓thn_L, thnL_ok, thnL_ex, thnL_bad, ↓seq_L, seqL_next, seqL_brk, seqL_cnt, seqL_ret, seqL_ex, seqL_bad, asgR, notIo, okS, ↓ofO_L, ofOL_some, ofOL_none, fnEnd, ioB, callR_E, callE, toSlots, backSlots, owns, parSet, pickR, setT, setL, killL, killD, kill1, restore, plainSlot, seqD, itemsD, isiR, isiD, Z.forM, lcLoop, noX, h, int_x, sign_x, line_eq, hl, hl2, fits_eq, mulOk_eq, Nx, cut2, cut3, cut4, b64, grp]
theorem b64_len : ∀ bs : List Int, (b64 bs).length ≤ 2 * bs.length + 4
  | a :: b :: c :: r => by
    have := b64_len r
    simp [b64, grp]
    omega
  | [a, b] => by simp [b64, grp]
  | [a] => by simp [b64, grp]
  | [] => by simp [b64]
theorem b64_chunk (r : List Int) (h : r ≠ []) : b64 r = b64 (r.take 3) ++ b64 (r.drop 3) := by
  match r, h with
  | [a], _ => simp [b64]
  | [a, b], _ => simp [b64]
  | a :: b :: c :: r, _ => simp [b64]
theorem view_of {bs : List Int} {c : D} (hc : c = .lst (iD bs) ∨ c = .tup (iD bs)) (F : Fm) : ∃ k, view (.sh c) F = some (k, iD bs) := by
  rcases hc with rfl | rfl
  · exact ⟨.l, rfl⟩
  · exact ⟨.t, rfl⟩
theorem text_loop (bs : List Int) (c : D) (hc : c = .lst (iD bs) ∨ c = .tup (iD bs)) (hl : bs.length ≤ 100000) :
    Z.forM (.name 2) (w0_2.den G0) [2, 3, 4, 5, 6] ((List.range ((bs.length + 3 - 1) / 3)).map fun k => .int ((k * 3 : Nat) : Int)) [.sh c, .ow [], .un, .un, .un, .un, .un, .un] = .next [.sh c, .ow (iD (b64 bs)), .un, .un, .un, .un, .un, .un] := by
  obtain ⟨F', e, p⟩ := forM_kill (tg := .name 2) (b := w0_2.den G0) (dead := [2, 3, 4, 5, 6]) (fun i F => ∃ found : List Int, F = [.sh c, .ow (iD found), .un, .un, .un, .un, .un, .un] ∧ found ++ b64 (bs.drop (i * 3)) = b64 bs)
    ((List.range ((bs.length + 3 - 1) / 3)).map fun k => .int ((k * 3 : Nat) : Int)) [.sh c, .ow [], .un, .un, .un, .un, .un, .un] ⟨[], by simp -dsimp [line_eq, Ss.den, S.den, X.den, Xs.denL, Xs.denS, Xs.denB, Xs.denP, Xo.den, As.den, T.den, Ts.denB, Ts.denA, It.den, putM, appM, extM, augM, shM, share, ownAt, Sl.own, Sl.put, putR, appR, extR, own1, ixN, varM, idxR, slcR, negR, notR, view, bop, addR, subR, mulR, fdivR, modR, powR, bltR, lenR, intR, ordR, tupleR, listR, cop, copR, cmpI, isNone, ↓bind_L, bindL_ok, bindL_ex, bindL_bad, ↓thn_L, thnL_ok, thnL_ex, thnL_bad, ↓seq_L, seqL_next, seqL_brk, seqL_cnt, seqL_ret, seqL_ex, seqL_bad, asgR, notIo, okS, ↓ofO_L, ofOL_some, ofOL_none, fnEnd, ioB, callR_E, callE, toSlots, backSlots, owns, parSet, pickR, setT, setL, killL, killD, kill1, restore, plainSlot, seqD, itemsD, isiR, isiD], by simp⟩ (fun i d F hd hp => by
      obtain ⟨found, rfl, hq⟩ := hp
      have hi : i < (bs.length + 3 - 1) / 3 := by
        by_cases z : i < (bs.length + 3 - 1) / 3
        · exact z
        · rw [List.getElem?_eq_none (by simpa using z)] at hd; cases hd
      have hd' : d = .int ((i * 3 : Nat) : Int) := by
        rw [List.getElem?_map, List.getElem?_range hi] at hd
        exact (Option.some.inj hd).symm
      subst hd'
      have hi2 : i * 3 < bs.length := by omega
      refine ⟨[.sh c, .ow (iD found), .sh (.int ((i * 3 : Nat) : Int)), .un, .un, .un, .un, .un], by simp -dsimp [line_eq, Ss.den, S.den, X.den, Xs.denL, Xs.denS, Xs.denB, Xs.denP, Xo.den, As.den, T.den, Ts.denB, Ts.denA, It.den, putM, appM, extM, augM, shM, share, ownAt, Sl.own, Sl.put, putR, appR, extR, own1, ixN, varM, idxR, slcR, negR, notR, view, bop, addR, subR, mulR, fdivR, modR, powR, bltR, lenR, intR, ordR, tupleR, listR, cop, copR, cmpI, isNone, ↓bind_L, bindL_ok, bindL_ex, bindL_bad, ↓thn_L, thnL_ok, thnL_ex, thnL_bad, ↓seq_L, seqL_next, seqL_brk, seqL_cnt, seqL_ret, seqL_ex, seqL_bad, asgR, notIo, okS, ↓ofO_L, ofOL_some, ofOL_none, fnEnd, ioB, callR_E, callE, toSlots, backSlots, owns, parSet, pickR, setT, setL, killL, killD, kill1, restore, plainSlot, seqD, itemsD, isiR, isiD], ?_⟩
      have hne : bs.drop (i * 3) ≠ [] := fun z => by
        have := congrArg List.length z
        simp at this
        omega
      have hcut : cutD (iD bs) (some ((i * 3 : Nat) : Int)) (some (((i * 3 : Nat) : Int) + 3)) = iD ((bs.drop (i * 3)).take 3) := by
        rw [show (((i * 3 : Nat) : Int) + 3) = ((i * 3 + 3 : Nat) : Int) by omega, cutD_nat, ← List.map_drop, ← List.map_take]
        congr 2
        omega
      have hlen : ((bs.drop (i * 3)).take 3).length = 1 ∨ ((bs.drop (i * 3)).take 3).length = 2 ∨ ((bs.drop (i * 3)).take 3).length = 3 := by
        rw [List.length_take, List.length_drop]
        omega
      have hfl : found.length ≤ 16777000 := by
        have := congrArg List.length hq
        rw [List.length_append] at this
        have := b64_len bs
        omega
      have st := text_step bs _ found c hc _ hcut hlen hfl
      obtain ⟨F2, e2, p2⟩ := st.get
      rcases e2 with e2 | e2 <;> rw [e2] <;> exact ⟨_, p2, by
        rw [List.append_assoc, ← hq, b64_chunk _ hne, List.drop_drop, show i * 3 + 3 = (i + 1) * 3 by omega]⟩)
  obtain ⟨found, rfl, hq⟩ := p
  rw [List.length_map, List.length_range, List.drop_of_length_le (by omega)] at hq
  simp only [b64, List.append_nil] at hq
  rw [e, hq]
/-- base64_text -/
theorem f0_ok (bs : List Int) (c : D) (hc : c = .lst (iD bs) ∨ c = .tup (iD bs)) (hl : bs.length ≤ 100000) : f0 [.sh c] = .ok (.sh (.tup (iD (b64 bs)))) [.un] := by
  have e := text_loop bs c hc hl
  have er : rng3 [.sh (.int 0), .sh (.int (bs.length : Int)), .sh (.int 3)] = some ((List.range ((bs.length + 3 - 1) / 3)).map fun k => .int ((k * 3 : Nat) : Int)) := rng3_nat (n := bs.length) (c := 3) (Nat.succ_pos _) (by omega) (by omega)
  generalize ((List.range ((bs.length + 3 - 1) / 3)).map fun k => D.int ((k * 3 : Nat) : Int)) = ds at e er
  rcases hc with rfl | rfl <;> simp -dsimp [f0, fnOf, b0, line_eq, Ss.den, S.den, X.den, Xs.denL, Xs.denS, Xs.denB, Xs.denP, Xo.den, As.den, T.den, Ts.denB, Ts.denA, It.den, putM, appM, extM, augM, shM, share, ownAt, Sl.own, Sl.put, putR, appR, extR, own1, ixN, varM, idxR, slcR, negR, notR, view, bop, addR, subR, mulR, fdivR, modR, powR, bltR, lenR, intR, ordR, tupleR, listR, cop, copR, cmpI, isNone, ↓bind_L, bindL_ok, bindL_ex, bindL_bad, ↓thn_L, thnL_ok, thnL_ex, thnL_bad, ↓seq_L, seqL_next, seqL_brk, seqL_cnt, seqL_ret, seqL_ex, seqL_bad, asgR, notIo, okS, ↓ofO_L, ofOL_some, ofOL_none, fnEnd, ioB, callR_E, callE, toSlots, backSlots, owns, parSet, pickR, setT, setL, killL, killD, kill1, restore, plainSlot, seqD, itemsD, isiR, isiD, line_eq, er, e]
end Lw

end
section
set_option Elab.async false
set_option linter.all false
set_option maxRecDepth 100000
set_option maxHeartbeats 0
namespace Lw
open PySem PySem.Spec PyProof.Rows L2 Z
/-! ### base64_lines -/
def lng (bs : List Int) (m : Nat) (en : List Int) (k : Nat) : List Int := b64 ((bs.drop (k * m)).take m) ++ en
def lns (bs : List Int) (m : Nat) (en : List Int) : List Int := (List.range ((bs.length + m - 1) / m)).flatMap (lng bs m en)
theorem lng_len {bs en : List Int} {m k : Nat} (h : bs.length ≤ 1000) (h2 : en.length ≤ 10) : (lng bs m en k).length ≤ 2014 := by
  unfold lng
  rw [List.length_append]
  have := b64_len ((bs.drop (k * m)).take m)
  rw [List.length_take, List.length_drop] at this
  omega
theorem lnr_len {bs en : List Int} {m : Nat} (h : bs.length ≤ 1000) (h2 : en.length ≤ 10) : ∀ i, ((List.range i).flatMap (lng bs m en)).length ≤ 2014 * i
  | 0 => by simp
  | i + 1 => by
    rw [List.range_succ, List.flatMap_append, List.length_append]
    have := lnr_len (m := m) h h2 i
    have := lng_len (bs := bs) (en := en) (m := m) (k := i) h h2
    simp only [List.flatMap_cons, List.flatMap_nil, List.append_nil]
    omega
theorem G1_text : G1.fn "base64_text" = some f0 := by kernel_rfl
theorem lines_loop (bs en : List Int) (m : Nat) (c e : D) (hc : c = .lst (iD bs) ∨ c = .tup (iD bs)) (he : e = .lst (iD en) ∨ e = .tup (iD en)) (hl : bs.length ≤ 1000) (hl2 : en.length ≤ 10) (hm : 0 < m) :
    Z.forM (.name 4) (w1_1.den G1) [4] ((List.range ((bs.length + m - 1) / m)).map fun k => .int ((k * m : Nat) : Int)) [.sh c, .sh (.int (m : Int)), .sh e, .ow [], .un] = .next [.sh c, .sh (.int (m : Int)), .sh e, .ow (iD (lns bs m en)), .un] := by
  obtain ⟨F', q, p⟩ := forM_kill (tg := .name 4) (b := w1_1.den G1) (dead := [4]) (fun i F => F = [.sh c, .sh (.int (m : Int)), .sh e, .ow (iD ((List.range i).flatMap (lng bs m en))), .un])
    ((List.range ((bs.length + m - 1) / m)).map fun k => .int ((k * m : Nat) : Int)) [.sh c, .sh (.int (m : Int)), .sh e, .ow [], .un] (by simp -dsimp [line_eq, Ss.den, S.den, X.den, Xs.denL, Xs.denS, Xs.denB, Xs.denP, Xo.den, As.den, T.den, Ts.denB, Ts.denA, It.den, putM, appM, extM, augM, shM, share, ownAt, Sl.own, Sl.put, putR, appR, extR, own1, ixN, varM, idxR, slcR, negR, notR, view, bop, addR, subR, mulR, fdivR, modR, powR, bltR, lenR, intR, ordR, tupleR, listR, cop, copR, cmpI, isNone, ↓bind_L, bindL_ok, bindL_ex, bindL_bad, ↓thn_L, thnL_ok, thnL_ex, thnL_bad, ↓seq_L, seqL_next, seqL_brk, seqL_cnt, seqL_ret, seqL_ex, seqL_bad, asgR, notIo, okS, ↓ofO_L, ofOL_some, ofOL_none, fnEnd, ioB, callR_E, callE, toSlots, backSlots, owns, parSet, pickR, setT, setL, killL, killD, kill1, restore, plainSlot, seqD, itemsD, isiR, isiD]) (fun i d F hd hp => by
      subst hp
      have hi : i < (bs.length + m - 1) / m := by
        by_cases z : i < (bs.length + m - 1) / m
        · exact z
        · rw [List.getElem?_eq_none (by simpa using z)] at hd; cases hd
      have hd' : d = .int ((i * m : Nat) : Int) := by
        rw [List.getElem?_map, List.getElem?_range hi] at hd
        exact (Option.some.inj hd).symm
      subst hd'
      have hin : i ≤ 1000 := by
        have : (bs.length + m - 1) / m ≤ bs.length := by
          by_cases h0 : bs.length = 0
          · rw [h0, Nat.div_eq_of_lt (by omega)]; exact Nat.zero_le _
          · rw [show bs.length + m - 1 = (bs.length - 1) + m by omega, Nat.add_div_right _ hm]
            have := Nat.div_le_self (bs.length - 1) m
            omega
        omega
      refine ⟨[.sh c, .sh (.int (m : Int)), .sh e, .ow (iD ((List.range i).flatMap (lng bs m en))), .sh (.int ((i * m : Nat) : Int))], by simp -dsimp [line_eq, Ss.den, S.den, X.den, Xs.denL, Xs.denS, Xs.denB, Xs.denP, Xo.den, As.den, T.den, Ts.denB, Ts.denA, It.den, putM, appM, extM, augM, shM, share, ownAt, Sl.own, Sl.put, putR, appR, extR, own1, ixN, varM, idxR, slcR, negR, notR, view, bop, addR, subR, mulR, fdivR, modR, powR, bltR, lenR, intR, ordR, tupleR, listR, cop, copR, cmpI, isNone, ↓bind_L, bindL_ok, bindL_ex, bindL_bad, ↓thn_L, thnL_ok, thnL_ex, thnL_bad, ↓seq_L, seqL_next, seqL_brk, seqL_cnt, seqL_ret, seqL_ex, seqL_bad, asgR, notIo, okS, ↓ofO_L, ofOL_some, ofOL_none, fnEnd, ioB, callR_E, callE, toSlots, backSlots, owns, parSet, pickR, setT, setL, killL, killD, kill1, restore, plainSlot, seqD, itemsD, isiR, isiD], ?_⟩
      have hcut : cutD (iD bs) (some ((i * m : Nat) : Int)) (some (((i * m : Nat) : Int) + (m : Int))) = iD ((bs.drop (i * m)).take m) := by
        rw [show (((i * m : Nat) : Int) + (m : Int)) = ((i * m + m : Nat) : Int) by omega, cutD_nat, ← List.map_drop, ← List.map_take]
        congr 2
        omega
      have hf : ((List.range i).flatMap (lng bs m en)).length ≤ 2014 * i := lnr_len hl hl2 i
      have hg : (b64 ((bs.drop (i * m)).take m)).length ≤ 2004 := by
        have := b64_len ((bs.drop (i * m)).take m)
        rw [List.length_take, List.length_drop] at this
        omega
      have hr : (List.range (i + 1)).flatMap (lng bs m en) = (List.range i).flatMap (lng bs m en) ++ (b64 ((bs.drop (i * m)).take m) ++ en) := by
        rw [List.range_succ, List.flatMap_append]
        simp [lng]
      rw [hr]
      generalize (List.range i).flatMap (lng bs m en) = found at hf ⊢
      generalize ((i * m : Nat) : Int) = a at hcut ⊢
      have hlen : ((bs.drop (i * m)).take m).length ≤ 100000 := by
        rw [List.length_take, List.length_drop]
        omega
      generalize (bs.drop (i * m)).take m = row at hcut hg hlen ⊢
      have ef := f0_ok row (.lst (iD row)) (.inl rfl) hlen
      have ef2 := f0_ok row (.tup (iD row)) (.inr rfl) hlen
      have eg := G1_text
      have q1 : found.length + (b64 row).length ≤ 16777216 := by omega
      have q2 : found.length + ((b64 row).length + en.length) ≤ 16777216 := by omega
      rcases hc with rfl | rfl <;> rcases he with rfl | rfl <;> simp -dsimp [w1_1, line_eq, Ss.den, S.den, X.den, Xs.denL, Xs.denS, Xs.denB, Xs.denP, Xo.den, As.den, T.den, Ts.denB, Ts.denA, It.den, putM, appM, extM, augM, shM, share, ownAt, Sl.own, Sl.put, putR, appR, extR, own1, ixN, varM, idxR, slcR, negR, notR, view, bop, addR, subR, mulR, fdivR, modR, powR, bltR, lenR, intR, ordR, tupleR, listR, cop, copR, cmpI, isNone, ↓bind_L, bindL_ok, bindL_ex, bindL_bad, ↓thn_L, thnL_ok, thnL_ex, thnL_bad, ↓seq_L, seqL_next, seqL_brk, seqL_cnt, seqL_ret, seqL_ex, seqL_bad, asgR, notIo, okS, ↓ofO_L, ofOL_some, ofOL_none, fnEnd, ioB, callR_E, callE, toSlots, backSlots, owns, parSet, pickR, setT, setL, killL, killD, kill1, restore, plainSlot, seqD, itemsD, isiR, isiD, hcut, eg, ef, ef2, line_eq, q1, q2, Nx, Nat.add_assoc])
  rw [q, p, List.length_map, List.length_range]
  rfl
theorem f1_ok (bs en : List Int) (m : Nat) (c e : D) (hc : c = .lst (iD bs) ∨ c = .tup (iD bs)) (he : e = .lst (iD en) ∨ e = .tup (iD en)) (hl : bs.length ≤ 1000) (hl2 : en.length ≤ 10) (hm : 0 < m) (hm2 : m < 1000000) :
    f1 [.sh c, .sh (.int (m : Int)), .sh e] = .ok (.sh (.tup (iD (lns bs m en)))) [.un, .un, .un] := by
  have q := lines_loop bs en m c e hc he hl hl2 hm
  have er : rng3 [.sh (.int 0), .sh (.int (bs.length : Int)), .sh (.int (m : Int))] = some ((List.range ((bs.length + m - 1) / m)).map fun k => .int ((k * m : Nat) : Int)) := rng3_nat (n := bs.length) (c := m) hm (by omega) (by omega)
  generalize ((List.range ((bs.length + m - 1) / m)).map fun k => D.int ((k * m : Nat) : Int)) = ds at q er
  rcases hc with rfl | rfl <;> simp -dsimp [f1, fnOf, b1, line_eq, Ss.den, S.den, X.den, Xs.denL, Xs.denS, Xs.denB, Xs.denP, Xo.den, As.den, T.den, Ts.denB, Ts.denA, It.den, putM, appM, extM, augM, shM, share, ownAt, Sl.own, Sl.put, putR, appR, extR, own1, ixN, varM, idxR, slcR, negR, notR, view, bop, addR, subR, mulR, fdivR, modR, powR, bltR, lenR, intR, ordR, tupleR, listR, cop, copR, cmpI, isNone, ↓bind_L, bindL_ok, bindL_ex, bindL_bad, ↓thn_L, thnL_ok, thnL_ex, thnL_bad, ↓seq_L, seqL_next, seqL_brk, seqL_cnt, seqL_ret, seqL_ex, seqL_bad, asgR, notIo, okS, ↓ofO_L, ofOL_some, ofOL_none, fnEnd, ioB, callR_E, callE, toSlots, backSlots, owns, parSet, pickR, setT, setL, killL, killD, kill1, restore, plainSlot, seqD, itemsD, isiR, isiD, line_eq, er, q]
end Lw

end
section
set_option Elab.async false
set_option linter.all false
set_option maxRecDepth 100000
set_option maxHeartbeats 4000000
namespace Lw
open PySem PySem.Spec PyProof.Rows L2 Z
/-! ### signs, digits -/
def isS (c : Int) : Bool := decide (65 ≤ c ∧ c ≤ 90) || decide (97 ≤ c ∧ c ≤ 122) || decide (48 ≤ c ∧ c ≤ 57) || decide (c = 43 ∨ c = 47)
theorem f2_ok (c : Int) : f2 [.sh (.int c)] = .ok (.sh (.bl (isS c))) [.un] := by
  unfold isS
  by_cases d1 : c = 43
  · subst d1
    simp -dsimp [f2, fnOf, b2, line_eq, Ss.den, S.den, X.den, Xs.denL, Xs.denS, Xs.denB, Xs.denP, Xo.den, As.den, T.den, Ts.denB, Ts.denA, It.den, putM, appM, extM, augM, shM, share, ownAt, Sl.own, Sl.put, putR, appR, extR, own1, ixN, varM, idxR, slcR, negR, notR, view, bop, addR, subR, mulR, fdivR, modR, powR, bltR, lenR, intR, ordR, tupleR, listR, cop, copR, cmpI, isNone, ↓bind_L, bindL_ok, bindL_ex, bindL_bad, ↓thn_L, thnL_ok, thnL_ex, thnL_bad, ↓seq_L, seqL_next, seqL_brk, seqL_cnt, seqL_ret, seqL_ex, seqL_bad, asgR, notIo, okS, ↓ofO_L, ofOL_some, ofOL_none, fnEnd, ioB, callR_E, callE, toSlots, backSlots, owns, parSet, pickR, setT, setL, killL, killD, kill1, restore, plainSlot, seqD, itemsD, isiR, isiD, eqR, neR, pyR, D.py, D.pyL, SeqAt.shaped, PyData.canLay0, PyData.canLayAll0, PyData.depth, PyData.depthAll, PyData.eqv, PyData.eqvAll, Z.inR, Z.inF, Z.inG, Z.ninR, D.flat]
  · by_cases d2 : c = 47
    · subst d2
      simp -dsimp [f2, fnOf, b2, line_eq, Ss.den, S.den, X.den, Xs.denL, Xs.denS, Xs.denB, Xs.denP, Xo.den, As.den, T.den, Ts.denB, Ts.denA, It.den, putM, appM, extM, augM, shM, share, ownAt, Sl.own, Sl.put, putR, appR, extR, own1, ixN, varM, idxR, slcR, negR, notR, view, bop, addR, subR, mulR, fdivR, modR, powR, bltR, lenR, intR, ordR, tupleR, listR, cop, copR, cmpI, isNone, ↓bind_L, bindL_ok, bindL_ex, bindL_bad, ↓thn_L, thnL_ok, thnL_ex, thnL_bad, ↓seq_L, seqL_next, seqL_brk, seqL_cnt, seqL_ret, seqL_ex, seqL_bad, asgR, notIo, okS, ↓ofO_L, ofOL_some, ofOL_none, fnEnd, ioB, callR_E, callE, toSlots, backSlots, owns, parSet, pickR, setT, setL, killL, killD, kill1, restore, plainSlot, seqD, itemsD, isiR, isiD, eqR, neR, pyR, D.py, D.pyL, SeqAt.shaped, PyData.canLay0, PyData.canLayAll0, PyData.depth, PyData.depthAll, PyData.eqv, PyData.eqvAll, Z.inR, Z.inF, Z.inG, Z.ninR, D.flat]
    · by_cases a1 : 65 ≤ c <;> by_cases a2 : c ≤ 90 <;> by_cases a3 : 97 ≤ c <;> by_cases a4 : c ≤ 122 <;> by_cases a5 : 48 ≤ c <;> by_cases a6 : c ≤ 57 <;> (try omega) <;>
      simp -dsimp [f2, fnOf, b2, line_eq, Ss.den, S.den, X.den, Xs.denL, Xs.denS, Xs.denB, Xs.denP, Xo.den, As.den, T.den, Ts.denB, Ts.denA, It.den, putM, appM, extM, augM, shM, share, ownAt, Sl.own, Sl.put, putR, appR, extR, own1, ixN, varM, idxR, slcR, negR, notR, view, bop, addR, subR, mulR, fdivR, modR, powR, bltR, lenR, intR, ordR, tupleR, listR, cop, copR, cmpI, isNone, ↓bind_L, bindL_ok, bindL_ex, bindL_bad, ↓thn_L, thnL_ok, thnL_ex, thnL_bad, ↓seq_L, seqL_next, seqL_brk, seqL_cnt, seqL_ret, seqL_ex, seqL_bad, asgR, notIo, okS, ↓ofO_L, ofOL_some, ofOL_none, fnEnd, ioB, callR_E, callE, toSlots, backSlots, owns, parSet, pickR, setT, setL, killL, killD, kill1, restore, plainSlot, seqD, itemsD, isiR, isiD, eqR, neR, pyR, D.py, D.pyL, SeqAt.shaped, PyData.canLay0, PyData.canLayAll0, PyData.depth, PyData.depthAll, PyData.eqv, PyData.eqvAll, Z.inR, Z.inF, Z.inG, Z.ninR, D.flat, a1, a2, a3, a4, a5, a6, d1, d2, Ne.symm d1, Ne.symm d2]
def dg (c : Int) : Int := if c = 43 ∨ c = 47 then 62 + c / 47 else if c ≤ 57 then c + 4 else if c ≤ 90 then c - 65 else c - 71
theorem f3_ok (c : Int) : f3 [.sh (.int c)] = .ok (.sh (.int (dg c))) [.un] := by
  unfold dg
  by_cases d1 : c = 43
  · subst d1
    simp -dsimp [f3, fnOf, b3, line_eq, Ss.den, S.den, X.den, Xs.denL, Xs.denS, Xs.denB, Xs.denP, Xo.den, As.den, T.den, Ts.denB, Ts.denA, It.den, putM, appM, extM, augM, shM, share, ownAt, Sl.own, Sl.put, putR, appR, extR, own1, ixN, varM, idxR, slcR, negR, notR, view, bop, addR, subR, mulR, fdivR, modR, powR, bltR, lenR, intR, ordR, tupleR, listR, cop, copR, cmpI, isNone, ↓bind_L, bindL_ok, bindL_ex, bindL_bad, ↓thn_L, thnL_ok, thnL_ex, thnL_bad, ↓seq_L, seqL_next, seqL_brk, seqL_cnt, seqL_ret, seqL_ex, seqL_bad, asgR, notIo, okS, ↓ofO_L, ofOL_some, ofOL_none, fnEnd, ioB, callR_E, callE, toSlots, backSlots, owns, parSet, pickR, setT, setL, killL, killD, kill1, restore, plainSlot, seqD, itemsD, isiR, isiD, eqR, neR, pyR, D.py, D.pyL, SeqAt.shaped, PyData.canLay0, PyData.canLayAll0, PyData.depth, PyData.depthAll, PyData.eqv, PyData.eqvAll, Z.inR, Z.inF, Z.inG, Z.ninR, D.flat]
  · by_cases d2 : c = 47
    · subst d2
      simp -dsimp [f3, fnOf, b3, line_eq, Ss.den, S.den, X.den, Xs.denL, Xs.denS, Xs.denB, Xs.denP, Xo.den, As.den, T.den, Ts.denB, Ts.denA, It.den, putM, appM, extM, augM, shM, share, ownAt, Sl.own, Sl.put, putR, appR, extR, own1, ixN, varM, idxR, slcR, negR, notR, view, bop, addR, subR, mulR, fdivR, modR, powR, bltR, lenR, intR, ordR, tupleR, listR, cop, copR, cmpI, isNone, ↓bind_L, bindL_ok, bindL_ex, bindL_bad, ↓thn_L, thnL_ok, thnL_ex, thnL_bad, ↓seq_L, seqL_next, seqL_brk, seqL_cnt, seqL_ret, seqL_ex, seqL_bad, asgR, notIo, okS, ↓ofO_L, ofOL_some, ofOL_none, fnEnd, ioB, callR_E, callE, toSlots, backSlots, owns, parSet, pickR, setT, setL, killL, killD, kill1, restore, plainSlot, seqD, itemsD, isiR, isiD, eqR, neR, pyR, D.py, D.pyL, SeqAt.shaped, PyData.canLay0, PyData.canLayAll0, PyData.depth, PyData.depthAll, PyData.eqv, PyData.eqvAll, Z.inR, Z.inF, Z.inG, Z.ninR, D.flat]
    · by_cases a1 : c ≤ 57 <;> by_cases a2 : c ≤ 90 <;> simp -dsimp [f3, fnOf, b3, line_eq, Ss.den, S.den, X.den, Xs.denL, Xs.denS, Xs.denB, Xs.denP, Xo.den, As.den, T.den, Ts.denB, Ts.denA, It.den, putM, appM, extM, augM, shM, share, ownAt, Sl.own, Sl.put, putR, appR, extR, own1, ixN, varM, idxR, slcR, negR, notR, view, bop, addR, subR, mulR, fdivR, modR, powR, bltR, lenR, intR, ordR, tupleR, listR, cop, copR, cmpI, isNone, ↓bind_L, bindL_ok, bindL_ex, bindL_bad, ↓thn_L, thnL_ok, thnL_ex, thnL_bad, ↓seq_L, seqL_next, seqL_brk, seqL_cnt, seqL_ret, seqL_ex, seqL_bad, asgR, notIo, okS, ↓ofO_L, ofOL_some, ofOL_none, fnEnd, ioB, callR_E, callE, toSlots, backSlots, owns, parSet, pickR, setT, setL, killL, killD, kill1, restore, plainSlot, seqD, itemsD, isiR, isiD, eqR, neR, pyR, D.py, D.pyL, SeqAt.shaped, PyData.canLay0, PyData.canLayAll0, PyData.depth, PyData.depthAll, PyData.eqv, PyData.eqvAll, Z.inR, Z.inF, Z.inG, Z.ninR, D.flat, a1, a2, d1, d2, Ne.symm d1, Ne.symm d2]
end Lw

end
section
set_option Elab.async false
set_option linter.all false
set_option maxRecDepth 100000
set_option maxHeartbeats 4000000
namespace Lw
open PySem PySem.Spec PyProof.Rows L2 Z
def grp3 (n : Int) : List Int := [n / 65536, n / 256 % 256, n % 256]
def num4 (a b c d : Int) : Int := ((a * 64 + b) * 64 + c) * 64 + d
def bos : List Int → List Int
  | a :: b :: c :: d :: r => grp3 (num4 (dg a) (dg b) (dg c) (dg d)) ++ bos r
  | [a, b, c] => (grp3 (num4 (dg a) (dg b) (dg c) 0)).take 2
  | [a, b] => (grp3 (num4 (dg a) (dg b) 0 0)).take 1
  | [_] => []
  | [] => []
theorem cut0 (xs : List D) : cutD xs none (some 0) = [] := cutD_to xs 0
theorem cut1 (xs : List D) : cutD xs none (some 1) = xs.take 1 := cutD_to xs 1
theorem G4_digit : G4.fn "digit_of" = some f3 := by kernel_rfl
theorem bos_step (bs row found : List Int) (c : D) (hc : c = .lst (iD bs) ∨ c = .tup (iD bs)) (a : Int) (h : cutD (iD bs) (some a) (some (a + 4)) = iD row) (hr : row.length = 1 ∨ row.length = 2 ∨ row.length = 3 ∨ row.length = 4)
    (hf : found.length ≤ 16777000) : Nx (w4_2.den G4 [.sh c, .ow (iD found), .sh (.int a), .un, .un, .un, .un]) fun F2 => killD F2 [2, 3, 4, 5] = [.sh c, .ow (iD (found ++ bos row)), .un, .un, .un, .un, .un] := by
  have hl : found.length ≤ 16777213 := by omega
  have hl1 : found.length ≤ 16777214 := by omega
  have hl2 : found.length ≤ 16777215 := by omega
  have hl3 : found.length ≤ 16777216 := by omega
  have g := G4_digit
  match row, hr, h with
  | [x], _, h =>
    rcases hc with rfl | rfl <;> simp -dsimp [w4_2, w4_1, x4_1, line_eq, Ss.den, S.den, X.den, Xs.denL, Xs.denS, Xs.denB, Xs.denP, Xo.den, As.den, T.den, Ts.denB, Ts.denA, It.den, putM, appM, extM, augM, shM, share, ownAt, Sl.own, Sl.put, putR, appR, extR, own1, ixN, varM, idxR, slcR, negR, notR, view, bop, addR, subR, mulR, fdivR, modR, powR, bltR, lenR, intR, ordR, tupleR, listR, cop, copR, cmpI, isNone, ↓bind_L, bindL_ok, bindL_ex, bindL_bad, ↓thn_L, thnL_ok, thnL_ex, thnL_bad, ↓seq_L, seqL_next, seqL_brk, seqL_cnt, seqL_ret, seqL_ex, seqL_bad, asgR, notIo, okS, ↓ofO_L, ofOL_some, ofOL_none, fnEnd, ioB, callR_E, callE, toSlots, backSlots, owns, parSet, pickR, setT, setL, killL, killD, kill1, restore, plainSlot, seqD, itemsD, isiR, isiD, Z.forM, lcLoop, noX, g, f3_ok, h, hl, hl1, hl2, hl3, fits_eq, mulOk_eq, Nx, cut0, cut1, cut2, cut3, bos, grp3, num4]
  | [x, y], _, h =>
    rcases hc with rfl | rfl <;> simp -dsimp [w4_2, w4_1, x4_1, line_eq, Ss.den, S.den, X.den, Xs.denL, Xs.denS, Xs.denB, Xs.denP, Xo.den, As.den, T.den, Ts.denB, Ts.denA, It.den, putM, appM, extM, augM, shM, share, ownAt, Sl.own, Sl.put, putR, appR, extR, own1, ixN, varM, idxR, slcR, negR, notR, view, bop, addR, subR, mulR, fdivR, modR, powR, bltR, lenR, intR, ordR, tupleR, listR, cop, copR, cmpI, isNone, ↓bind_L, bindL_ok, bindL_ex, bindL_bad, ↓thn_L, thnL_ok, thnL_ex, thnL_bad, ↓seq_L, seqL_next, seqL_brk, seqL_cnt, seqL_ret, seqL_ex, seqL_bad, asgR, notIo, okS, ↓ofO_L, ofOL_some, ofOL_none, fnEnd, ioB, callR_E, callE, toSlots, backSlots, owns, parSet, pickR, setT, setL, killL, killD, kill1, restore, plainSlot, seqD, itemsD, isiR, isiD, Z.forM, lcLoop, noX, g, f3_ok, h, hl, hl1, hl2, hl3, fits_eq, mulOk_eq, Nx, cut0, cut1, cut2, cut3, bos, grp3, num4]
  | [x, y, z], _, h =>
    rcases hc with rfl | rfl <;> simp -dsimp [w4_2, w4_1, x4_1, line_eq, Ss.den, S.den, X.den, Xs.denL, Xs.denS, Xs.denB, Xs.denP, Xo.den, As.den, T.den, Ts.denB, Ts.denA, It.den, putM, appM, extM, augM, shM, share, ownAt, Sl.own, Sl.put, putR, appR, extR, own1, ixN, varM, idxR, slcR, negR, notR, view, bop, addR, subR, mulR, fdivR, modR, powR, bltR, lenR, intR, ordR, tupleR, listR, cop, copR, cmpI, isNone, ↓bind_L, bindL_ok, bindL_ex, bindL_bad, ↓thn_L, thnL_ok, thnL_ex, thnL_bad, ↓seq_L, seqL_next, seqL_brk, seqL_cnt, seqL_ret, seqL_ex, seqL_bad, asgR, notIo, okS, ↓ofO_L, ofOL_some, ofOL_none, fnEnd, ioB, callR_E, callE, toSlots, backSlots, owns, parSet, pickR, setT, setL, killL, killD, kill1, restore, plainSlot, seqD, itemsD, isiR, isiD, Z.forM, lcLoop, noX, g, f3_ok, h, hl, hl1, hl2, hl3, fits_eq, mulOk_eq, Nx, cut0, cut1, cut2, cut3, bos, grp3, num4]
  | [x, y, z, w], _, h =>
    rcases hc with rfl | rfl <;> simp -dsimp [w4_2, w4_1, x4_1, line_eq, Ss.den, S.den, X.den, Xs.denL, Xs.denS, Xs.denB, Xs.denP, Xo.den, As.den, T.den, Ts.denB, Ts.denA, It.den, putM, appM, extM, augM, shM, share, ownAt, Sl.own, Sl.put, putR, appR, extR, own1, ixN, varM, idxR, slcR, negR, notR, view, bop, addR, subR, mulR, fdivR, modR, powR, bltR, lenR, intR, ordR, tupleR, listR, cop, copR, cmpI, isNone, ↓bind_L, bindL_ok, bindL_ex, bindL_bad, ↓thn_L, thnL_ok, thnL_ex, thnL_bad, ↓seq_L, seqL_next, seqL_brk, seqL_cnt, seqL_ret, seqL_ex, seqL_bad, asgR, notIo, okS, ↓ofO_L, ofOL_some, ofOL_none, fnEnd, ioB, callR_E, callE, toSlots, backSlots, owns, parSet, pickR, setT, setL, killL, killD, kill1, restore, plainSlot, seqD, itemsD, isiR, isiD, Z.forM, lcLoop, noX, g, f3_ok, h, hl, hl1, hl2, hl3, fits_eq, mulOk_eq, Nx, cut0, cut1, cut2, cut3, bos, grp3, num4]
theorem bos_len : ∀ bs : List Int, (bos bs).length ≤ bs.length
  | a :: b :: c :: d :: r => by
    have := bos_len r
    simp [bos, grp3]
    omega
  | [a, b, c] => by simp [bos, grp3]
  | [a, b] => by simp [bos, grp3]
  | [a] => by simp [bos]
  | [] => by simp [bos]
theorem bos_chunk (r : List Int) (h : r ≠ []) : bos r = bos (r.take 4) ++ bos (r.drop 4) := by
  match r, h with
  | [a], _ => simp [bos]
  | [a, b], _ => simp [bos]
  | [a, b, c], _ => simp [bos]
  | a :: b :: c :: d :: r, _ => simp [bos]
theorem bos_loop (bs : List Int) (c : D) (hc : c = .lst (iD bs) ∨ c = .tup (iD bs)) (hl : bs.length ≤ 100000) :
    Z.forM (.name 2) (w4_2.den G4) [2, 3, 4, 5] ((List.range ((bs.length + 4 - 1) / 4)).map fun k => .int ((k * 4 : Nat) : Int)) [.sh c, .ow [], .un, .un, .un, .un, .un] = .next [.sh c, .ow (iD (bos bs)), .un, .un, .un, .un, .un] := by
  obtain ⟨F', e, p⟩ := forM_kill (tg := .name 2) (b := w4_2.den G4) (dead := [2, 3, 4, 5]) (fun i F => ∃ found : List Int, F = [.sh c, .ow (iD found), .un, .un, .un, .un, .un] ∧ found ++ bos (bs.drop (i * 4)) = bos bs)
    ((List.range ((bs.length + 4 - 1) / 4)).map fun k => .int ((k * 4 : Nat) : Int)) [.sh c, .ow [], .un, .un, .un, .un, .un] ⟨[], by simp -dsimp [line_eq, Ss.den, S.den, X.den, Xs.denL, Xs.denS, Xs.denB, Xs.denP, Xo.den, As.den, T.den, Ts.denB, Ts.denA, It.den, putM, appM, extM, augM, shM, share, ownAt, Sl.own, Sl.put, putR, appR, extR, own1, ixN, varM, idxR, slcR, negR, notR, view, bop, addR, subR, mulR, fdivR, modR, powR, bltR, lenR, intR, ordR, tupleR, listR, cop, copR, cmpI, isNone, ↓bind_L, bindL_ok, bindL_ex, bindL_bad, ↓thn_L, thnL_ok, thnL_ex, thnL_bad, ↓seq_L, seqL_next, seqL_brk, seqL_cnt, seqL_ret, seqL_ex, seqL_bad, asgR, notIo, okS, ↓ofO_L, ofOL_some, ofOL_none, fnEnd, ioB, callR_E, callE, toSlots, backSlots, owns, parSet, pickR, setT, setL, killL, killD, kill1, restore, plainSlot, seqD, itemsD, isiR, isiD], by simp⟩ (fun i d F hd hp => by
      obtain ⟨found, rfl, hq⟩ := hp
      have hi : i < (bs.length + 4 - 1) / 4 := by
        by_cases z : i < (bs.length + 4 - 1) / 4
        · exact z
        · rw [List.getElem?_eq_none (by simpa using z)] at hd; cases hd
      have hd' : d = .int ((i * 4 : Nat) : Int) := by
        rw [List.getElem?_map, List.getElem?_range hi] at hd
        exact (Option.some.inj hd).symm
      subst hd'
      have hi2 : i * 4 < bs.length := by omega
      refine ⟨[.sh c, .ow (iD found), .sh (.int ((i * 4 : Nat) : Int)), .un, .un, .un, .un], by simp -dsimp [line_eq, Ss.den, S.den, X.den, Xs.denL, Xs.denS, Xs.denB, Xs.denP, Xo.den, As.den, T.den, Ts.denB, Ts.denA, It.den, putM, appM, extM, augM, shM, share, ownAt, Sl.own, Sl.put, putR, appR, extR, own1, ixN, varM, idxR, slcR, negR, notR, view, bop, addR, subR, mulR, fdivR, modR, powR, bltR, lenR, intR, ordR, tupleR, listR, cop, copR, cmpI, isNone, ↓bind_L, bindL_ok, bindL_ex, bindL_bad, ↓thn_L, thnL_ok, thnL_ex, thnL_bad, ↓seq_L, seqL_next, seqL_brk, seqL_cnt, seqL_ret, seqL_ex, seqL_bad, asgR, notIo, okS, ↓ofO_L, ofOL_some, ofOL_none, fnEnd, ioB, callR_E, callE, toSlots, backSlots, owns, parSet, pickR, setT, setL, killL, killD, kill1, restore, plainSlot, seqD, itemsD, isiR, isiD], ?_⟩
      have hne : bs.drop (i * 4) ≠ [] := fun z => by
        have := congrArg List.length z
        simp at this
        omega
      have hcut : cutD (iD bs) (some ((i * 4 : Nat) : Int)) (some (((i * 4 : Nat) : Int) + 4)) = iD ((bs.drop (i * 4)).take 4) := by
        rw [show (((i * 4 : Nat) : Int) + 4) = ((i * 4 + 4 : Nat) : Int) by omega, cutD_nat, ← List.map_drop, ← List.map_take]
        congr 2
        omega
      have hlen : ((bs.drop (i * 4)).take 4).length = 1 ∨ ((bs.drop (i * 4)).take 4).length = 2 ∨ ((bs.drop (i * 4)).take 4).length = 3 ∨ ((bs.drop (i * 4)).take 4).length = 4 := by
        rw [List.length_take, List.length_drop]
        omega
      have hfl : found.length ≤ 16777000 := by
        have := congrArg List.length hq
        rw [List.length_append] at this
        have := bos_len bs
        omega
      refine (bos_step bs _ found c hc _ hcut hlen hfl).mono fun F2 q => ⟨_, q, ?_⟩
      rw [List.append_assoc, ← hq, bos_chunk _ hne, List.drop_drop, show i * 4 + 4 = (i + 1) * 4 by omega])
  obtain ⟨found, rfl, hq⟩ := p
  rw [List.length_map, List.length_range, List.drop_of_length_le (by omega)] at hq
  simp only [bos, List.append_nil] at hq
  rw [e, hq]
theorem f4_ok (bs : List Int) (c : D) (hc : c = .lst (iD bs) ∨ c = .tup (iD bs)) (hl : bs.length ≤ 100000) : f4 [.sh c] = .ok (.sh (.tup (iD (bos bs)))) [.un] := by
  have e := bos_loop bs c hc hl
  have er : rng3 [.sh (.int 0), .sh (.int (bs.length : Int)), .sh (.int 4)] = some ((List.range ((bs.length + 4 - 1) / 4)).map fun k => .int ((k * 4 : Nat) : Int)) := rng3_nat (n := bs.length) (c := 4) (Nat.succ_pos _) (by omega) (by omega)
  generalize ((List.range ((bs.length + 4 - 1) / 4)).map fun k => D.int ((k * 4 : Nat) : Int)) = ds at e er
  rcases hc with rfl | rfl <;> simp -dsimp [f4, fnOf, b4, line_eq, Ss.den, S.den, X.den, Xs.denL, Xs.denS, Xs.denB, Xs.denP, Xo.den, As.den, T.den, Ts.denB, Ts.denA, It.den, putM, appM, extM, augM, shM, share, ownAt, Sl.own, Sl.put, putR, appR, extR, own1, ixN, varM, idxR, slcR, negR, notR, view, bop, addR, subR, mulR, fdivR, modR, powR, bltR, lenR, intR, ordR, tupleR, listR, cop, copR, cmpI, isNone, ↓bind_L, bindL_ok, bindL_ex, bindL_bad, ↓thn_L, thnL_ok, thnL_ex, thnL_bad, ↓seq_L, seqL_next, seqL_brk, seqL_cnt, seqL_ret, seqL_ex, seqL_bad, asgR, notIo, okS, ↓ofO_L, ofOL_some, ofOL_none, fnEnd, ioB, callR_E, callE, toSlots, backSlots, owns, parSet, pickR, setT, setL, killL, killD, kill1, restore, plainSlot, seqD, itemsD, isiR, isiD, er, e]
end Lw

end
section
set_option Elab.async false
set_option linter.all false
set_option maxRecDepth 100000
set_option maxHeartbeats 4000000
namespace Lw
open PySem PySem.Spec PyProof.Rows L2 Z
theorem lc_int {own : List Nat} {tg : Tgt} {t : Fm → Rs Bool} {e : Fm → Rs Rv} (p : Int → Bool) {F0 : Fm} (xs : List Int)
    (h : ∀ x ∈ xs, ∃ F1 F2, setT tg (.int x) F0 = some F1 ∧ t F1 = .ok (p x) F2 ∧ (p x = false → killL F2 own = F0) ∧ (p x = true → ∃ F3, shM e F2 = .ok (.sh (.int x)) F3 ∧ killL F3 own = F0)) (hl : xs.length ≤ 16777216) :
    lcLoop own tg t e (iD xs) [] F0 = .ok (iD (xs.filter p)) F0 := by
  rw [lc_fil (fun d => match d with | .int i => p i | _ => false) id]
  · rw [List.nil_append, List.map_id, List.filter_map]
    rfl
  · intro d hd
    obtain ⟨x, hx, rfl⟩ := List.mem_map.mp hd
    exact h x hx
  · simpa using hl
def idx : Nat → List Int → List Int
  | _, [] => []
  | k, c :: r => if isS c then (k : Int) :: idx (k + 1) r else idx (k + 1) r
def bh : List Int → Option (List Int)
  | [] => none
  | c :: r => match bh r with
    | some x => some x
    | none => if isS c then some r else none
def fb (codes : List Int) : Nat := (((bh codes).getD codes).filter fun c => decide (c = 61)).length
theorem idx_none : ∀ (codes : List Int) (k : Nat), bh codes = none → idx k codes = []
  | [], _, _ => rfl
  | c :: r, k, h => by
    unfold bh at h
    cases q : bh r with
    | some x => rw [q] at h; cases h
    | none =>
      rw [q] at h
      cases hc : isS c with
      | true => rw [hc] at h; cases h
      | false =>
        unfold idx
        rw [hc]
        exact idx_none r (k + 1) q
theorem idx_some : ∀ (codes : List Int) (k : Nat) (x : List Int), bh codes = some x → ∃ (ini : List Int) (n : Nat), idx k codes = ini ++ [((k + n : Nat) : Int)] ∧ n < codes.length ∧ codes.drop (n + 1) = x
  | [], _, _, h => by cases h
  | c :: r, k, x, h => by
    unfold bh at h
    cases q : bh r with
    | some y =>
      rw [q] at h
      cases h
      obtain ⟨ini, n, e1, e2, e3⟩ := idx_some r (k + 1) x q
      cases hc : isS c with
      | true =>
        refine ⟨(k : Int) :: ini, n + 1, ?_, by simp; omega, by simpa using e3⟩
        unfold idx
        rw [hc, if_pos rfl, e1, show k + 1 + n = k + (n + 1) by omega]
        rfl
      | false =>
        refine ⟨ini, n + 1, ?_, by simp; omega, by simpa using e3⟩
        unfold idx
        rw [hc, if_neg (by decide), e1, show k + 1 + n = k + (n + 1) by omega]
    | none =>
      rw [q] at h
      cases hc : isS c with
      | true =>
        rw [hc] at h
        cases h
        refine ⟨[], 0, ?_, by simp, rfl⟩
        unfold idx
        rw [hc, if_pos rfl, idx_none r (k + 1) q]
        rfl
      | false => rw [hc] at h; cases h
theorem enum_idx : ∀ (codes : List Int) (k : Nat), ((enumD k (iD codes)).filter fun d => match d with | .tup [_, .int c] => isS c | _ => false).map (fun d => match d with | .tup [i, _] => i | _ => d) = iD (idx k codes)
  | [], _ => rfl
  | c :: r, k => by
    have ih := enum_idx r (k + 1)
    simp only [List.map_cons, enumD]
    cases hc : isS c with
    | true =>
      rw [List.filter_cons_of_pos (by simpa using hc)]
      unfold idx
      rw [hc, if_pos rfl]
      simp only [List.map_cons]
      exact congrArg (_ :: ·) ih
    | false =>
      rw [List.filter_cons_of_neg (by simpa using hc)]
      unfold idx
      rw [hc, if_neg (by decide)]
      exact ih
theorem enum_len : ∀ (ds : List D) (k : Nat), (enumD k ds).length = ds.length
  | [], _ => rfl
  | d :: ds, k => congrArg (· + 1) (enum_len ds (k + 1))
theorem enum_mem : ∀ (codes : List Int) (k : Nat) (d : D), d ∈ enumD k (iD codes) → ∃ (i : Nat) (c : Int), d = .tup [.int (i : Int), .int c]
  | c :: r, k, d, h => by
    rcases List.mem_cons.mp h with rfl | h
    · exact ⟨k, c, rfl⟩
    · exact enum_mem r (k + 1) d h
theorem G5_sign : G5.fn "is_sign" = some f2 := by kernel_rfl
theorem at_last (ini : List D) (d : D) : atI (ini ++ [d]) (-1) = some d := by
  have h : (ini ++ [d]).length = ini.length + 1 := by simp
  unfold atI ixN
  rw [h, if_neg (by omega), if_pos (by omega)]
  have : (-1 + ((ini.length + 1 : Nat) : Int)).toNat = ini.length := by omega
  rw [this]
  simp
theorem f5_ok (codes : List Int) (hl : codes.length ≤ 1000000) : f5 [.sh (.lst (iD codes))] = .ok (.sh (.int (fb codes : Int))) [.un] := by
  have g := G5_sign
  have e1 : lcLoop [3, 4] (.tup [3, 4]) (ts5_2.denA G5) (x5_2.den G5) (enumD 0 (iD codes)) [] [.sh (.lst (iD codes)), .un, .un, .un, .un] = .ok (iD (idx 0 codes)) [.sh (.lst (iD codes)), .un, .un, .un, .un] := by
    rw [lc_fil (fun d => match d with | .tup [_, .int c] => isS c | _ => false) (fun d => match d with | .tup [i, _] => i | _ => d), List.nil_append, enum_idx]
    · intro d hd
      obtain ⟨i, c, rfl⟩ := enum_mem codes 0 d hd
      refine ⟨[.sh (.lst (iD codes)), .un, .un, .sh (.int (i : Int)), .sh (.int c)], [.sh (.lst (iD codes)), .un, .un, .sh (.int (i : Int)), .sh (.int c)], by simp -dsimp [line_eq, Ss.den, S.den, X.den, Xs.denL, Xs.denS, Xs.denB, Xs.denP, Xo.den, As.den, T.den, Ts.denB, Ts.denA, It.den, putM, appM, extM, augM, shM, share, ownAt, Sl.own, Sl.put, putR, appR, extR, own1, ixN, varM, idxR, slcR, negR, notR, view, bop, addR, subR, mulR, fdivR, modR, powR, bltR, lenR, intR, ordR, tupleR, listR, cop, copR, cmpI, isNone, ↓bind_L, bindL_ok, bindL_ex, bindL_bad, ↓thn_L, thnL_ok, thnL_ex, thnL_bad, ↓seq_L, seqL_next, seqL_brk, seqL_cnt, seqL_ret, seqL_ex, seqL_bad, asgR, notIo, okS, ↓ofO_L, ofOL_some, ofOL_none, fnEnd, ioB, callR_E, callE, toSlots, backSlots, owns, parSet, pickR, setT, setL, killL, killD, kill1, restore, plainSlot, seqD, itemsD, isiR, isiD], ?_, fun _ => by simp -dsimp [line_eq, Ss.den, S.den, X.den, Xs.denL, Xs.denS, Xs.denB, Xs.denP, Xo.den, As.den, T.den, Ts.denB, Ts.denA, It.den, putM, appM, extM, augM, shM, share, ownAt, Sl.own, Sl.put, putR, appR, extR, own1, ixN, varM, idxR, slcR, negR, notR, view, bop, addR, subR, mulR, fdivR, modR, powR, bltR, lenR, intR, ordR, tupleR, listR, cop, copR, cmpI, isNone, ↓bind_L, bindL_ok, bindL_ex, bindL_bad, ↓thn_L, thnL_ok, thnL_ex, thnL_bad, ↓seq_L, seqL_next, seqL_brk, seqL_cnt, seqL_ret, seqL_ex, seqL_bad, asgR, notIo, okS, ↓ofO_L, ofOL_some, ofOL_none, fnEnd, ioB, callR_E, callE, toSlots, backSlots, owns, parSet, pickR, setT, setL, killL, killD, kill1, restore, plainSlot, seqD, itemsD, isiR, isiD], fun _ => ⟨[.sh (.lst (iD codes)), .un, .un, .sh (.int (i : Int)), .sh (.int c)], by simp -dsimp [x5_2, line_eq, Ss.den, S.den, X.den, Xs.denL, Xs.denS, Xs.denB, Xs.denP, Xo.den, As.den, T.den, Ts.denB, Ts.denA, It.den, putM, appM, extM, augM, shM, share, ownAt, Sl.own, Sl.put, putR, appR, extR, own1, ixN, varM, idxR, slcR, negR, notR, view, bop, addR, subR, mulR, fdivR, modR, powR, bltR, lenR, intR, ordR, tupleR, listR, cop, copR, cmpI, isNone, ↓bind_L, bindL_ok, bindL_ex, bindL_bad, ↓thn_L, thnL_ok, thnL_ex, thnL_bad, ↓seq_L, seqL_next, seqL_brk, seqL_cnt, seqL_ret, seqL_ex, seqL_bad, asgR, notIo, okS, ↓ofO_L, ofOL_some, ofOL_none, fnEnd, ioB, callR_E, callE, toSlots, backSlots, owns, parSet, pickR, setT, setL, killL, killD, kill1, restore, plainSlot, seqD, itemsD, isiR, isiD], by simp -dsimp [line_eq, Ss.den, S.den, X.den, Xs.denL, Xs.denS, Xs.denB, Xs.denP, Xo.den, As.den, T.den, Ts.denB, Ts.denA, It.den, putM, appM, extM, augM, shM, share, ownAt, Sl.own, Sl.put, putR, appR, extR, own1, ixN, varM, idxR, slcR, negR, notR, view, bop, addR, subR, mulR, fdivR, modR, powR, bltR, lenR, intR, ordR, tupleR, listR, cop, copR, cmpI, isNone, ↓bind_L, bindL_ok, bindL_ex, bindL_bad, ↓thn_L, thnL_ok, thnL_ex, thnL_bad, ↓seq_L, seqL_next, seqL_brk, seqL_cnt, seqL_ret, seqL_ex, seqL_bad, asgR, notIo, okS, ↓ofO_L, ofOL_some, ofOL_none, fnEnd, ioB, callR_E, callE, toSlots, backSlots, owns, parSet, pickR, setT, setL, killL, killD, kill1, restore, plainSlot, seqD, itemsD, isiR, isiD]⟩⟩
      simp -dsimp [ts5_2, line_eq, Ss.den, S.den, X.den, Xs.denL, Xs.denS, Xs.denB, Xs.denP, Xo.den, As.den, T.den, Ts.denB, Ts.denA, It.den, putM, appM, extM, augM, shM, share, ownAt, Sl.own, Sl.put, putR, appR, extR, own1, ixN, varM, idxR, slcR, negR, notR, view, bop, addR, subR, mulR, fdivR, modR, powR, bltR, lenR, intR, ordR, tupleR, listR, cop, copR, cmpI, isNone, ↓bind_L, bindL_ok, bindL_ex, bindL_bad, ↓thn_L, thnL_ok, thnL_ex, thnL_bad, ↓seq_L, seqL_next, seqL_brk, seqL_cnt, seqL_ret, seqL_ex, seqL_bad, asgR, notIo, okS, ↓ofO_L, ofOL_some, ofOL_none, fnEnd, ioB, callR_E, callE, toSlots, backSlots, owns, parSet, pickR, setT, setL, killL, killD, kill1, restore, plainSlot, seqD, itemsD, isiR, isiD, g, f2_ok]
    · rw [enum_len]
      simp
      omega
  have e2 : ∀ (rest : List Int) (s1 : Sl), rest.length ≤ 1000000 → lcLoop [4] (.name 4) (ts5_1.denA G5) (x5_1.den G5) (iD rest) [] [.sh (.lst (iD codes)), s1, .sh (.lst (iD rest)), .un, .un] = .ok (iD (rest.filter fun c => decide (c = 61))) [.sh (.lst (iD codes)), s1, .sh (.lst (iD rest)), .un, .un] := fun rest s1 hr => by
    refine lc_int (fun c => decide (c = 61)) rest (fun x _ => ?_) (by omega)
    refine ⟨[.sh (.lst (iD codes)), s1, .sh (.lst (iD rest)), .un, .sh (.int x)], [.sh (.lst (iD codes)), s1, .sh (.lst (iD rest)), .un, .sh (.int x)], by simp -dsimp [line_eq, Ss.den, S.den, X.den, Xs.denL, Xs.denS, Xs.denB, Xs.denP, Xo.den, As.den, T.den, Ts.denB, Ts.denA, It.den, putM, appM, extM, augM, shM, share, ownAt, Sl.own, Sl.put, putR, appR, extR, own1, ixN, varM, idxR, slcR, negR, notR, view, bop, addR, subR, mulR, fdivR, modR, powR, bltR, lenR, intR, ordR, tupleR, listR, cop, copR, cmpI, isNone, ↓bind_L, bindL_ok, bindL_ex, bindL_bad, ↓thn_L, thnL_ok, thnL_ex, thnL_bad, ↓seq_L, seqL_next, seqL_brk, seqL_cnt, seqL_ret, seqL_ex, seqL_bad, asgR, notIo, okS, ↓ofO_L, ofOL_some, ofOL_none, fnEnd, ioB, callR_E, callE, toSlots, backSlots, owns, parSet, pickR, setT, setL, killL, killD, kill1, restore, plainSlot, seqD, itemsD, isiR, isiD], ?_, fun _ => by simp -dsimp [line_eq, Ss.den, S.den, X.den, Xs.denL, Xs.denS, Xs.denB, Xs.denP, Xo.den, As.den, T.den, Ts.denB, Ts.denA, It.den, putM, appM, extM, augM, shM, share, ownAt, Sl.own, Sl.put, putR, appR, extR, own1, ixN, varM, idxR, slcR, negR, notR, view, bop, addR, subR, mulR, fdivR, modR, powR, bltR, lenR, intR, ordR, tupleR, listR, cop, copR, cmpI, isNone, ↓bind_L, bindL_ok, bindL_ex, bindL_bad, ↓thn_L, thnL_ok, thnL_ex, thnL_bad, ↓seq_L, seqL_next, seqL_brk, seqL_cnt, seqL_ret, seqL_ex, seqL_bad, asgR, notIo, okS, ↓ofO_L, ofOL_some, ofOL_none, fnEnd, ioB, callR_E, callE, toSlots, backSlots, owns, parSet, pickR, setT, setL, killL, killD, kill1, restore, plainSlot, seqD, itemsD, isiR, isiD], fun _ => ⟨[.sh (.lst (iD codes)), s1, .sh (.lst (iD rest)), .un, .sh (.int x)], by simp -dsimp [x5_1, line_eq, Ss.den, S.den, X.den, Xs.denL, Xs.denS, Xs.denB, Xs.denP, Xo.den, As.den, T.den, Ts.denB, Ts.denA, It.den, putM, appM, extM, augM, shM, share, ownAt, Sl.own, Sl.put, putR, appR, extR, own1, ixN, varM, idxR, slcR, negR, notR, view, bop, addR, subR, mulR, fdivR, modR, powR, bltR, lenR, intR, ordR, tupleR, listR, cop, copR, cmpI, isNone, ↓bind_L, bindL_ok, bindL_ex, bindL_bad, ↓thn_L, thnL_ok, thnL_ex, thnL_bad, ↓seq_L, seqL_next, seqL_brk, seqL_cnt, seqL_ret, seqL_ex, seqL_bad, asgR, notIo, okS, ↓ofO_L, ofOL_some, ofOL_none, fnEnd, ioB, callR_E, callE, toSlots, backSlots, owns, parSet, pickR, setT, setL, killL, killD, kill1, restore, plainSlot, seqD, itemsD, isiR, isiD], by simp -dsimp [line_eq, Ss.den, S.den, X.den, Xs.denL, Xs.denS, Xs.denB, Xs.denP, Xo.den, As.den, T.den, Ts.denB, Ts.denA, It.den, putM, appM, extM, augM, shM, share, ownAt, Sl.own, Sl.put, putR, appR, extR, own1, ixN, varM, idxR, slcR, negR, notR, view, bop, addR, subR, mulR, fdivR, modR, powR, bltR, lenR, intR, ordR, tupleR, listR, cop, copR, cmpI, isNone, ↓bind_L, bindL_ok, bindL_ex, bindL_bad, ↓thn_L, thnL_ok, thnL_ex, thnL_bad, ↓seq_L, seqL_next, seqL_brk, seqL_cnt, seqL_ret, seqL_ex, seqL_bad, asgR, notIo, okS, ↓ofO_L, ofOL_some, ofOL_none, fnEnd, ioB, callR_E, callE, toSlots, backSlots, owns, parSet, pickR, setT, setL, killL, killD, kill1, restore, plainSlot, seqD, itemsD, isiR, isiD]⟩⟩
    by_cases hx : x = 61
    · simp -dsimp [ts5_1, line_eq, Ss.den, S.den, X.den, Xs.denL, Xs.denS, Xs.denB, Xs.denP, Xo.den, As.den, T.den, Ts.denB, Ts.denA, It.den, putM, appM, extM, augM, shM, share, ownAt, Sl.own, Sl.put, putR, appR, extR, own1, ixN, varM, idxR, slcR, negR, notR, view, bop, addR, subR, mulR, fdivR, modR, powR, bltR, lenR, intR, ordR, tupleR, listR, cop, copR, cmpI, isNone, ↓bind_L, bindL_ok, bindL_ex, bindL_bad, ↓thn_L, thnL_ok, thnL_ex, thnL_bad, ↓seq_L, seqL_next, seqL_brk, seqL_cnt, seqL_ret, seqL_ex, seqL_bad, asgR, notIo, okS, ↓ofO_L, ofOL_some, ofOL_none, fnEnd, ioB, callR_E, callE, toSlots, backSlots, owns, parSet, pickR, setT, setL, killL, killD, kill1, restore, plainSlot, seqD, itemsD, isiR, isiD, eqR, neR, pyR, D.py, D.pyL, SeqAt.shaped, PyData.canLay0, PyData.canLayAll0, PyData.depth, PyData.depthAll, PyData.eqv, PyData.eqvAll, Z.inR, Z.inF, Z.inG, Z.ninR, D.flat, hx]
    · simp -dsimp [ts5_1, line_eq, Ss.den, S.den, X.den, Xs.denL, Xs.denS, Xs.denB, Xs.denP, Xo.den, As.den, T.den, Ts.denB, Ts.denA, It.den, putM, appM, extM, augM, shM, share, ownAt, Sl.own, Sl.put, putR, appR, extR, own1, ixN, varM, idxR, slcR, negR, notR, view, bop, addR, subR, mulR, fdivR, modR, powR, bltR, lenR, intR, ordR, tupleR, listR, cop, copR, cmpI, isNone, ↓bind_L, bindL_ok, bindL_ex, bindL_bad, ↓thn_L, thnL_ok, thnL_ex, thnL_bad, ↓seq_L, seqL_next, seqL_brk, seqL_cnt, seqL_ret, seqL_ex, seqL_bad, asgR, notIo, okS, ↓ofO_L, ofOL_some, ofOL_none, fnEnd, ioB, callR_E, callE, toSlots, backSlots, owns, parSet, pickR, setT, setL, killL, killD, kill1, restore, plainSlot, seqD, itemsD, isiR, isiD, eqR, neR, pyR, D.py, D.pyL, SeqAt.shaped, PyData.canLay0, PyData.canLayAll0, PyData.depth, PyData.depthAll, PyData.eqv, PyData.eqvAll, Z.inR, Z.inF, Z.inG, Z.ninR, D.flat, hx]
  unfold fb
  cases q : bh codes with
  | none =>
    rw [idx_none codes 0 q] at e1
    simp at e1
    have e2 := e2 codes (.ow []) hl
    simp only [Option.getD_none]
    simp -dsimp [f5, fnOf, b5, line_eq, Ss.den, S.den, X.den, Xs.denL, Xs.denS, Xs.denB, Xs.denP, Xo.den, As.den, T.den, Ts.denB, Ts.denA, It.den, putM, appM, extM, augM, shM, share, ownAt, Sl.own, Sl.put, putR, appR, extR, own1, ixN, varM, idxR, slcR, negR, notR, view, bop, addR, subR, mulR, fdivR, modR, powR, bltR, lenR, intR, ordR, tupleR, listR, cop, copR, cmpI, isNone, ↓bind_L, bindL_ok, bindL_ex, bindL_bad, ↓thn_L, thnL_ok, thnL_ex, thnL_bad, ↓seq_L, seqL_next, seqL_brk, seqL_cnt, seqL_ret, seqL_ex, seqL_bad, asgR, notIo, okS, ↓ofO_L, ofOL_some, ofOL_none, fnEnd, ioB, callR_E, callE, toSlots, backSlots, owns, parSet, pickR, setT, setL, killL, killD, kill1, restore, plainSlot, seqD, itemsD, isiR, isiD, eqR, neR, pyR, D.py, D.pyL, SeqAt.shaped, PyData.canLay0, PyData.canLayAll0, PyData.depth, PyData.depthAll, PyData.eqv, PyData.eqvAll, Z.inR, Z.inF, Z.inG, Z.ninR, D.flat, e1, e2]
  | some x =>
    obtain ⟨ini, n, k1, k2, k3⟩ := idx_some codes 0 x q
    rw [Nat.zero_add] at k1
    have hx : x.length ≤ 1000000 := by rw [← k3, List.length_drop]; omega
    have e2 := e2 x (.ow (iD (idx 0 codes))) hx
    have hla : atI (iD (idx 0 codes)) (-1) = some (.int (n : Int)) := by
      rw [k1, iD, List.map_append]
      exact at_last _ _
    have hcut : cutD (iD codes) (some ((n : Int) + 1)) none = iD x := by
      rw [show ((n : Int) + 1) = ((n + 1 : Nat) : Int) by omega, cutD_from, ← List.map_drop, k3]
    have hs1 := lay_ints (idx 0 codes)
    have hs2 := depth_ints' (idx 0 codes)
    have hs3 : PyData.eqvAll (D.pyL (iD (idx 0 codes))) [] = false := by
      have := eqv_ints (idx 0 codes) []
      simp only [iD, List.map_nil, D.pyL] at this
      rw [this, k1]
      simp
    simp only [Option.getD_some]
    generalize iD (idx 0 codes) = I at *
    simp -dsimp [f5, fnOf, b5, line_eq, Ss.den, S.den, X.den, Xs.denL, Xs.denS, Xs.denB, Xs.denP, Xo.den, As.den, T.den, Ts.denB, Ts.denA, It.den, putM, appM, extM, augM, shM, share, ownAt, Sl.own, Sl.put, putR, appR, extR, own1, ixN, varM, idxR, slcR, negR, notR, view, bop, addR, subR, mulR, fdivR, modR, powR, bltR, lenR, intR, ordR, tupleR, listR, cop, copR, cmpI, isNone, ↓bind_L, bindL_ok, bindL_ex, bindL_bad, ↓thn_L, thnL_ok, thnL_ex, thnL_bad, ↓seq_L, seqL_next, seqL_brk, seqL_cnt, seqL_ret, seqL_ex, seqL_bad, asgR, notIo, okS, ↓ofO_L, ofOL_some, ofOL_none, fnEnd, ioB, callR_E, callE, toSlots, backSlots, owns, parSet, pickR, setT, setL, killL, killD, kill1, restore, plainSlot, seqD, itemsD, isiR, isiD, eqR, neR, pyR, D.py, D.pyL, SeqAt.shaped, PyData.canLay0, PyData.canLayAll0, PyData.depth, PyData.depthAll, PyData.eqv, PyData.eqvAll, Z.inR, Z.inF, Z.inG, Z.ninR, D.flat, e1, e2, hla, hcut, hs1, hs2, hs3]
end Lw

end
section
set_option Elab.async false
set_option linter.all false
set_option maxRecDepth 100000
set_option maxHeartbeats 1000000
namespace Lw
open PySem PySem.Spec PyProof.Rows L2 Z
def r61 (n : Nat) : List Int := List.replicate n 61
def notEnd (c : Int) : Bool := !(decide (c = 10) || decide (c = 13))
def lk (n : Nat) : Nat := (4 - n % 4) % 4
def read64 (src : List Int) : List Int × List Str :=
  let codes := src.filter notEnd
  let signs := codes.filter isS
  if codes ++ r61 (lk codes.length) = signs ++ r61 (lk signs.length) ∧ lk signs.length < 3 then (bos signs, if 0 < lk codes.length then ["base64 padding"] else [])
  else if lk signs.length = 3 then (codes.filter fun c => decide (c < 256), ["base64 length"])
  else (bos signs, "base64 characters" :: (if fb codes < lk signs.length then ["base64 padding"] else []))
def resD (r : List Int × List Str) : D := .tup [.tup (iD r.1), .lst (r.2.map .str)]
theorem neg4 (n : Nat) : (-(n : Int)) % 4 = ((lk n : Nat) : Int) := by unfold lk; omega
theorem rep61 (n : Nat) : (List.replicate n [D.int 61]).flatten = iD (r61 n) := by
  unfold r61
  induction n with
  | zero => rfl
  | succ n ih => rw [List.replicate_succ, List.flatten_cons, ih, List.replicate_succ]; rfl
theorem G6_sign : G6.fn "is_sign" = some f2 := by kernel_rfl
theorem G6_bos : G6.fn "bytes_of_signs" = some f4 := by kernel_rfl
theorem G6_fb : G6.fn "fills_behind" = some f5 := by kernel_rfl
theorem eq_lists (xs ys : List Int) (F : Fm) : eqR (.fr (iD xs)) (.fr (iD ys)) F = some (decide (xs = ys)) := by
  have h1 := shaped_ints xs
  have h2 := shaped_ints ys
  have h3 := eqv_ints xs ys
  simp only [eqR, pyR, h1, h2, Bool.and_self, if_true, PyData.eqv, h3]
theorem eqI (i j : Int) (F : Fm) : eqR (.sh (.int i)) (.sh (.int j)) F = some (decide (i = j)) := by
  simp only [eqR, pyR, D.py, SeqAt.shaped, PyData.canLay0, PyData.depth, PyData.eqv]
  by_cases h : i = j <;> simp [h]
theorem map_app (xs ys : List Int) : iD xs ++ iD ys = iD (xs ++ ys) := (List.map_append ..).symm
theorem f6_ok (src : List Int) (c : D) (hc : c = .lst (iD src) ∨ c = .tup (iD src)) (hl : src.length ≤ 90000) : f6 [.sh c] = .ok (.sh (resD (read64 src))) [.un] := by
  have g1 := G6_sign
  have g2 := G6_bos
  have g3 := G6_fb
  have e1 : lcLoop [6] (.name 6) (ts6_3.denA G6) (x6_3.den G6) (iD src) [] [.sh c, .un, .un, .un, .un, .un, .un] = .ok (iD (src.filter notEnd)) [.sh c, .un, .un, .un, .un, .un, .un] := by
    refine lc_int notEnd src (fun x _ => ?_) (by omega)
    refine ⟨[.sh c, .un, .un, .un, .un, .un, .sh (.int x)], [.sh c, .un, .un, .un, .un, .un, .sh (.int x)], by simp -dsimp [line_eq, Ss.den, S.den, X.den, Xs.denL, Xs.denS, Xs.denB, Xs.denP, Xo.den, As.den, T.den, Ts.denB, Ts.denA, It.den, putM, appM, extM, augM, shM, share, ownAt, Sl.own, Sl.put, putR, appR, extR, own1, ixN, varM, idxR, slcR, negR, notR, view, bop, addR, subR, mulR, fdivR, modR, powR, bltR, lenR, intR, ordR, tupleR, listR, cop, copR, cmpI, isNone, ↓bind_L, bindL_ok, bindL_ex, bindL_bad, ↓thn_L, thnL_ok, thnL_ex, thnL_bad, ↓seq_L, seqL_next, seqL_brk, seqL_cnt, seqL_ret, seqL_ex, seqL_bad, asgR, notIo, okS, ↓ofO_L, ofOL_some, ofOL_none, fnEnd, ioB, callR_E, callE, toSlots, backSlots, owns, parSet, pickR, setT, setL, killL, killD, kill1, restore, plainSlot, seqD, itemsD, isiR, isiD], ?_, fun _ => by simp -dsimp [line_eq, Ss.den, S.den, X.den, Xs.denL, Xs.denS, Xs.denB, Xs.denP, Xo.den, As.den, T.den, Ts.denB, Ts.denA, It.den, putM, appM, extM, augM, shM, share, ownAt, Sl.own, Sl.put, putR, appR, extR, own1, ixN, varM, idxR, slcR, negR, notR, view, bop, addR, subR, mulR, fdivR, modR, powR, bltR, lenR, intR, ordR, tupleR, listR, cop, copR, cmpI, isNone, ↓bind_L, bindL_ok, bindL_ex, bindL_bad, ↓thn_L, thnL_ok, thnL_ex, thnL_bad, ↓seq_L, seqL_next, seqL_brk, seqL_cnt, seqL_ret, seqL_ex, seqL_bad, asgR, notIo, okS, ↓ofO_L, ofOL_some, ofOL_none, fnEnd, ioB, callR_E, callE, toSlots, backSlots, owns, parSet, pickR, setT, setL, killL, killD, kill1, restore, plainSlot, seqD, itemsD, isiR, isiD], fun _ => ⟨[.sh c, .un, .un, .un, .un, .un, .sh (.int x)], by simp -dsimp [x6_3, line_eq, Ss.den, S.den, X.den, Xs.denL, Xs.denS, Xs.denB, Xs.denP, Xo.den, As.den, T.den, Ts.denB, Ts.denA, It.den, putM, appM, extM, augM, shM, share, ownAt, Sl.own, Sl.put, putR, appR, extR, own1, ixN, varM, idxR, slcR, negR, notR, view, bop, addR, subR, mulR, fdivR, modR, powR, bltR, lenR, intR, ordR, tupleR, listR, cop, copR, cmpI, isNone, ↓bind_L, bindL_ok, bindL_ex, bindL_bad, ↓thn_L, thnL_ok, thnL_ex, thnL_bad, ↓seq_L, seqL_next, seqL_brk, seqL_cnt, seqL_ret, seqL_ex, seqL_bad, asgR, notIo, okS, ↓ofO_L, ofOL_some, ofOL_none, fnEnd, ioB, callR_E, callE, toSlots, backSlots, owns, parSet, pickR, setT, setL, killL, killD, kill1, restore, plainSlot, seqD, itemsD, isiR, isiD], by simp -dsimp [line_eq, Ss.den, S.den, X.den, Xs.denL, Xs.denS, Xs.denB, Xs.denP, Xo.den, As.den, T.den, Ts.denB, Ts.denA, It.den, putM, appM, extM, augM, shM, share, ownAt, Sl.own, Sl.put, putR, appR, extR, own1, ixN, varM, idxR, slcR, negR, notR, view, bop, addR, subR, mulR, fdivR, modR, powR, bltR, lenR, intR, ordR, tupleR, listR, cop, copR, cmpI, isNone, ↓bind_L, bindL_ok, bindL_ex, bindL_bad, ↓thn_L, thnL_ok, thnL_ex, thnL_bad, ↓seq_L, seqL_next, seqL_brk, seqL_cnt, seqL_ret, seqL_ex, seqL_bad, asgR, notIo, okS, ↓ofO_L, ofOL_some, ofOL_none, fnEnd, ioB, callR_E, callE, toSlots, backSlots, owns, parSet, pickR, setT, setL, killL, killD, kill1, restore, plainSlot, seqD, itemsD, isiR, isiD]⟩⟩
    unfold notEnd
    by_cases h1 : x = 10
    · subst h1
      simp -dsimp [ts6_3, line_eq, Ss.den, S.den, X.den, Xs.denL, Xs.denS, Xs.denB, Xs.denP, Xo.den, As.den, T.den, Ts.denB, Ts.denA, It.den, putM, appM, extM, augM, shM, share, ownAt, Sl.own, Sl.put, putR, appR, extR, own1, ixN, varM, idxR, slcR, negR, notR, view, bop, addR, subR, mulR, fdivR, modR, powR, bltR, lenR, intR, ordR, tupleR, listR, cop, copR, cmpI, isNone, ↓bind_L, bindL_ok, bindL_ex, bindL_bad, ↓thn_L, thnL_ok, thnL_ex, thnL_bad, ↓seq_L, seqL_next, seqL_brk, seqL_cnt, seqL_ret, seqL_ex, seqL_bad, asgR, notIo, okS, ↓ofO_L, ofOL_some, ofOL_none, fnEnd, ioB, callR_E, callE, toSlots, backSlots, owns, parSet, pickR, setT, setL, killL, killD, kill1, restore, plainSlot, seqD, itemsD, isiR, isiD, eqR, neR, pyR, D.py, D.pyL, SeqAt.shaped, PyData.canLay0, PyData.canLayAll0, PyData.depth, PyData.depthAll, PyData.eqv, PyData.eqvAll, Z.inR, Z.inF, Z.inG, Z.ninR, D.flat]
    · by_cases h2 : x = 13
      · subst h2
        simp -dsimp [ts6_3, line_eq, Ss.den, S.den, X.den, Xs.denL, Xs.denS, Xs.denB, Xs.denP, Xo.den, As.den, T.den, Ts.denB, Ts.denA, It.den, putM, appM, extM, augM, shM, share, ownAt, Sl.own, Sl.put, putR, appR, extR, own1, ixN, varM, idxR, slcR, negR, notR, view, bop, addR, subR, mulR, fdivR, modR, powR, bltR, lenR, intR, ordR, tupleR, listR, cop, copR, cmpI, isNone, ↓bind_L, bindL_ok, bindL_ex, bindL_bad, ↓thn_L, thnL_ok, thnL_ex, thnL_bad, ↓seq_L, seqL_next, seqL_brk, seqL_cnt, seqL_ret, seqL_ex, seqL_bad, asgR, notIo, okS, ↓ofO_L, ofOL_some, ofOL_none, fnEnd, ioB, callR_E, callE, toSlots, backSlots, owns, parSet, pickR, setT, setL, killL, killD, kill1, restore, plainSlot, seqD, itemsD, isiR, isiD, eqR, neR, pyR, D.py, D.pyL, SeqAt.shaped, PyData.canLay0, PyData.canLayAll0, PyData.depth, PyData.depthAll, PyData.eqv, PyData.eqvAll, Z.inR, Z.inF, Z.inG, Z.ninR, D.flat]
      · simp -dsimp [ts6_3, line_eq, Ss.den, S.den, X.den, Xs.denL, Xs.denS, Xs.denB, Xs.denP, Xo.den, As.den, T.den, Ts.denB, Ts.denA, It.den, putM, appM, extM, augM, shM, share, ownAt, Sl.own, Sl.put, putR, appR, extR, own1, ixN, varM, idxR, slcR, negR, notR, view, bop, addR, subR, mulR, fdivR, modR, powR, bltR, lenR, intR, ordR, tupleR, listR, cop, copR, cmpI, isNone, ↓bind_L, bindL_ok, bindL_ex, bindL_bad, ↓thn_L, thnL_ok, thnL_ex, thnL_bad, ↓seq_L, seqL_next, seqL_brk, seqL_cnt, seqL_ret, seqL_ex, seqL_bad, asgR, notIo, okS, ↓ofO_L, ofOL_some, ofOL_none, fnEnd, ioB, callR_E, callE, toSlots, backSlots, owns, parSet, pickR, setT, setL, killL, killD, kill1, restore, plainSlot, seqD, itemsD, isiR, isiD, eqR, neR, pyR, D.py, D.pyL, SeqAt.shaped, PyData.canLay0, PyData.canLayAll0, PyData.depth, PyData.depthAll, PyData.eqv, PyData.eqvAll, Z.inR, Z.inF, Z.inG, Z.ninR, D.flat, h1, h2, Ne.symm h1, Ne.symm h2]
  have hcl : (src.filter notEnd).length ≤ 90000 := Nat.le_trans (List.length_filter_le ..) hl
  unfold read64
  simp only []
  generalize src.filter notEnd = codes at *
  have e2 : lcLoop [6] (.name 6) (ts6_2.denA G6) (x6_2.den G6) (iD codes) [] [.sh c, .sh (.lst (iD codes)), .un, .un, .un, .un, .un] = .ok (iD (codes.filter isS)) [.sh c, .sh (.lst (iD codes)), .un, .un, .un, .un, .un] := by
    refine lc_int isS codes (fun x _ => ?_) (by omega)
    refine ⟨[.sh c, .sh (.lst (iD codes)), .un, .un, .un, .un, .sh (.int x)], [.sh c, .sh (.lst (iD codes)), .un, .un, .un, .un, .sh (.int x)], by simp -dsimp [line_eq, Ss.den, S.den, X.den, Xs.denL, Xs.denS, Xs.denB, Xs.denP, Xo.den, As.den, T.den, Ts.denB, Ts.denA, It.den, putM, appM, extM, augM, shM, share, ownAt, Sl.own, Sl.put, putR, appR, extR, own1, ixN, varM, idxR, slcR, negR, notR, view, bop, addR, subR, mulR, fdivR, modR, powR, bltR, lenR, intR, ordR, tupleR, listR, cop, copR, cmpI, isNone, ↓bind_L, bindL_ok, bindL_ex, bindL_bad, ↓thn_L, thnL_ok, thnL_ex, thnL_bad, ↓seq_L, seqL_next, seqL_brk, seqL_cnt, seqL_ret, seqL_ex, seqL_bad, asgR, notIo, okS, ↓ofO_L, ofOL_some, ofOL_none, fnEnd, ioB, callR_E, callE, toSlots, backSlots, owns, parSet, pickR, setT, setL, killL, killD, kill1, restore, plainSlot, seqD, itemsD, isiR, isiD], ?_, fun _ => by simp -dsimp [line_eq, Ss.den, S.den, X.den, Xs.denL, Xs.denS, Xs.denB, Xs.denP, Xo.den, As.den, T.den, Ts.denB, Ts.denA, It.den, putM, appM, extM, augM, shM, share, ownAt, Sl.own, Sl.put, putR, appR, extR, own1, ixN, varM, idxR, slcR, negR, notR, view, bop, addR, subR, mulR, fdivR, modR, powR, bltR, lenR, intR, ordR, tupleR, listR, cop, copR, cmpI, isNone, ↓bind_L, bindL_ok, bindL_ex, bindL_bad, ↓thn_L, thnL_ok, thnL_ex, thnL_bad, ↓seq_L, seqL_next, seqL_brk, seqL_cnt, seqL_ret, seqL_ex, seqL_bad, asgR, notIo, okS, ↓ofO_L, ofOL_some, ofOL_none, fnEnd, ioB, callR_E, callE, toSlots, backSlots, owns, parSet, pickR, setT, setL, killL, killD, kill1, restore, plainSlot, seqD, itemsD, isiR, isiD], fun _ => ⟨[.sh c, .sh (.lst (iD codes)), .un, .un, .un, .un, .sh (.int x)], by simp -dsimp [x6_2, line_eq, Ss.den, S.den, X.den, Xs.denL, Xs.denS, Xs.denB, Xs.denP, Xo.den, As.den, T.den, Ts.denB, Ts.denA, It.den, putM, appM, extM, augM, shM, share, ownAt, Sl.own, Sl.put, putR, appR, extR, own1, ixN, varM, idxR, slcR, negR, notR, view, bop, addR, subR, mulR, fdivR, modR, powR, bltR, lenR, intR, ordR, tupleR, listR, cop, copR, cmpI, isNone, ↓bind_L, bindL_ok, bindL_ex, bindL_bad, ↓thn_L, thnL_ok, thnL_ex, thnL_bad, ↓seq_L, seqL_next, seqL_brk, seqL_cnt, seqL_ret, seqL_ex, seqL_bad, asgR, notIo, okS, ↓ofO_L, ofOL_some, ofOL_none, fnEnd, ioB, callR_E, callE, toSlots, backSlots, owns, parSet, pickR, setT, setL, killL, killD, kill1, restore, plainSlot, seqD, itemsD, isiR, isiD], by simp -dsimp [line_eq, Ss.den, S.den, X.den, Xs.denL, Xs.denS, Xs.denB, Xs.denP, Xo.den, As.den, T.den, Ts.denB, Ts.denA, It.den, putM, appM, extM, augM, shM, share, ownAt, Sl.own, Sl.put, putR, appR, extR, own1, ixN, varM, idxR, slcR, negR, notR, view, bop, addR, subR, mulR, fdivR, modR, powR, bltR, lenR, intR, ordR, tupleR, listR, cop, copR, cmpI, isNone, ↓bind_L, bindL_ok, bindL_ex, bindL_bad, ↓thn_L, thnL_ok, thnL_ex, thnL_bad, ↓seq_L, seqL_next, seqL_brk, seqL_cnt, seqL_ret, seqL_ex, seqL_bad, asgR, notIo, okS, ↓ofO_L, ofOL_some, ofOL_none, fnEnd, ioB, callR_E, callE, toSlots, backSlots, owns, parSet, pickR, setT, setL, killL, killD, kill1, restore, plainSlot, seqD, itemsD, isiR, isiD]⟩⟩
    simp -dsimp [ts6_2, line_eq, Ss.den, S.den, X.den, Xs.denL, Xs.denS, Xs.denB, Xs.denP, Xo.den, As.den, T.den, Ts.denB, Ts.denA, It.den, putM, appM, extM, augM, shM, share, ownAt, Sl.own, Sl.put, putR, appR, extR, own1, ixN, varM, idxR, slcR, negR, notR, view, bop, addR, subR, mulR, fdivR, modR, powR, bltR, lenR, intR, ordR, tupleR, listR, cop, copR, cmpI, isNone, ↓bind_L, bindL_ok, bindL_ex, bindL_bad, ↓thn_L, thnL_ok, thnL_ex, thnL_bad, ↓seq_L, seqL_next, seqL_brk, seqL_cnt, seqL_ret, seqL_ex, seqL_bad, asgR, notIo, okS, ↓ofO_L, ofOL_some, ofOL_none, fnEnd, ioB, callR_E, callE, toSlots, backSlots, owns, parSet, pickR, setT, setL, killL, killD, kill1, restore, plainSlot, seqD, itemsD, isiR, isiD, g1, f2_ok]
  have hsl : (codes.filter isS).length ≤ 90000 := Nat.le_trans (List.length_filter_le ..) hcl
  have e3 : ∀ (s2 s3 s4 : Sl), lcLoop [6] (.name 6) (ts6_1.denA G6) (x6_1.den G6) (iD codes) [] [.sh c, .sh (.lst (iD codes)), s2, s3, s4, .un, .un] = .ok (iD (codes.filter fun c => decide (c < 256))) [.sh c, .sh (.lst (iD codes)), s2, s3, s4, .un, .un] := fun s2 s3 s4 => by
    refine lc_int (fun c => decide (c < 256)) codes (fun x _ => ?_) (by omega)
    refine ⟨[.sh c, .sh (.lst (iD codes)), s2, s3, s4, .un, .sh (.int x)], [.sh c, .sh (.lst (iD codes)), s2, s3, s4, .un, .sh (.int x)], by simp -dsimp [line_eq, Ss.den, S.den, X.den, Xs.denL, Xs.denS, Xs.denB, Xs.denP, Xo.den, As.den, T.den, Ts.denB, Ts.denA, It.den, putM, appM, extM, augM, shM, share, ownAt, Sl.own, Sl.put, putR, appR, extR, own1, ixN, varM, idxR, slcR, negR, notR, view, bop, addR, subR, mulR, fdivR, modR, powR, bltR, lenR, intR, ordR, tupleR, listR, cop, copR, cmpI, isNone, ↓bind_L, bindL_ok, bindL_ex, bindL_bad, ↓thn_L, thnL_ok, thnL_ex, thnL_bad, ↓seq_L, seqL_next, seqL_brk, seqL_cnt, seqL_ret, seqL_ex, seqL_bad, asgR, notIo, okS, ↓ofO_L, ofOL_some, ofOL_none, fnEnd, ioB, callR_E, callE, toSlots, backSlots, owns, parSet, pickR, setT, setL, killL, killD, kill1, restore, plainSlot, seqD, itemsD, isiR, isiD], ?_, fun _ => by simp -dsimp [line_eq, Ss.den, S.den, X.den, Xs.denL, Xs.denS, Xs.denB, Xs.denP, Xo.den, As.den, T.den, Ts.denB, Ts.denA, It.den, putM, appM, extM, augM, shM, share, ownAt, Sl.own, Sl.put, putR, appR, extR, own1, ixN, varM, idxR, slcR, negR, notR, view, bop, addR, subR, mulR, fdivR, modR, powR, bltR, lenR, intR, ordR, tupleR, listR, cop, copR, cmpI, isNone, ↓bind_L, bindL_ok, bindL_ex, bindL_bad, ↓thn_L, thnL_ok, thnL_ex, thnL_bad, ↓seq_L, seqL_next, seqL_brk, seqL_cnt, seqL_ret, seqL_ex, seqL_bad, asgR, notIo, okS, ↓ofO_L, ofOL_some, ofOL_none, fnEnd, ioB, callR_E, callE, toSlots, backSlots, owns, parSet, pickR, setT, setL, killL, killD, kill1, restore, plainSlot, seqD, itemsD, isiR, isiD], fun _ => ⟨[.sh c, .sh (.lst (iD codes)), s2, s3, s4, .un, .sh (.int x)], by simp -dsimp [x6_1, line_eq, Ss.den, S.den, X.den, Xs.denL, Xs.denS, Xs.denB, Xs.denP, Xo.den, As.den, T.den, Ts.denB, Ts.denA, It.den, putM, appM, extM, augM, shM, share, ownAt, Sl.own, Sl.put, putR, appR, extR, own1, ixN, varM, idxR, slcR, negR, notR, view, bop, addR, subR, mulR, fdivR, modR, powR, bltR, lenR, intR, ordR, tupleR, listR, cop, copR, cmpI, isNone, ↓bind_L, bindL_ok, bindL_ex, bindL_bad, ↓thn_L, thnL_ok, thnL_ex, thnL_bad, ↓seq_L, seqL_next, seqL_brk, seqL_cnt, seqL_ret, seqL_ex, seqL_bad, asgR, notIo, okS, ↓ofO_L, ofOL_some, ofOL_none, fnEnd, ioB, callR_E, callE, toSlots, backSlots, owns, parSet, pickR, setT, setL, killL, killD, kill1, restore, plainSlot, seqD, itemsD, isiR, isiD], by simp -dsimp [line_eq, Ss.den, S.den, X.den, Xs.denL, Xs.denS, Xs.denB, Xs.denP, Xo.den, As.den, T.den, Ts.denB, Ts.denA, It.den, putM, appM, extM, augM, shM, share, ownAt, Sl.own, Sl.put, putR, appR, extR, own1, ixN, varM, idxR, slcR, negR, notR, view, bop, addR, subR, mulR, fdivR, modR, powR, bltR, lenR, intR, ordR, tupleR, listR, cop, copR, cmpI, isNone, ↓bind_L, bindL_ok, bindL_ex, bindL_bad, ↓thn_L, thnL_ok, thnL_ex, thnL_bad, ↓seq_L, seqL_next, seqL_brk, seqL_cnt, seqL_ret, seqL_ex, seqL_bad, asgR, notIo, okS, ↓ofO_L, ofOL_some, ofOL_none, fnEnd, ioB, callR_E, callE, toSlots, backSlots, owns, parSet, pickR, setT, setL, killL, killD, kill1, restore, plainSlot, seqD, itemsD, isiR, isiD]⟩⟩
    simp -dsimp [ts6_1, line_eq, Ss.den, S.den, X.den, Xs.denL, Xs.denS, Xs.denB, Xs.denP, Xo.den, As.den, T.den, Ts.denB, Ts.denA, It.den, putM, appM, extM, augM, shM, share, ownAt, Sl.own, Sl.put, putR, appR, extR, own1, ixN, varM, idxR, slcR, negR, notR, view, bop, addR, subR, mulR, fdivR, modR, powR, bltR, lenR, intR, ordR, tupleR, listR, cop, copR, cmpI, isNone, ↓bind_L, bindL_ok, bindL_ex, bindL_bad, ↓thn_L, thnL_ok, thnL_ex, thnL_bad, ↓seq_L, seqL_next, seqL_brk, seqL_cnt, seqL_ret, seqL_ex, seqL_bad, asgR, notIo, okS, ↓ofO_L, ofOL_some, ofOL_none, fnEnd, ioB, callR_E, callE, toSlots, backSlots, owns, parSet, pickR, setT, setL, killL, killD, kill1, restore, plainSlot, seqD, itemsD, isiR, isiD]
  generalize codes.filter isS = signs at *
  have n1 := neg4 codes.length
  have n2 := neg4 signs.length
  have b1 : lk codes.length ≤ 3 := by unfold lk; omega
  have b2 : lk signs.length ≤ 3 := by unfold lk; omega
  have e4 := f4_ok signs (.lst (iD signs)) (.inl rfl) (by omega)
  have e5 := f5_ok codes (by omega)
  generalize lk codes.length = m at *
  generalize lk signs.length = l at *
  have m1 : -9223372036854775808 ≤ (m : Int) ∧ (m : Int) < 9223372036854775808 := by omega
  have m2 : -9223372036854775808 ≤ (l : Int) ∧ (l : Int) < 9223372036854775808 := by omega
  have t1 := rep61 m
  have t2 := rep61 l
  have z1 : m ≤ 16777216 := by omega
  have z2 : l ≤ 16777216 := by omega
  have z3 : codes.length + m ≤ 16777216 := by omega
  have z4 : signs.length + l ≤ 16777216 := by omega
  have z5 : (r61 m).length = m := by simp [r61]
  have z6 : (r61 l).length = l := by simp [r61]
  have q : ∀ F, eqR (.fr (iD codes ++ iD (r61 m))) (.fr (iD signs ++ iD (r61 l))) F = some (decide (codes ++ r61 m = signs ++ r61 l)) := fun F => by
    rw [map_app, map_app]
    exact eq_lists _ _ F
  generalize fb codes = b at *
  generalize bos signs = bb at *
  generalize (codes.filter fun c => decide (c < 256)) = far at *
  by_cases k1 : codes ++ r61 m = signs ++ r61 l
  · rw [decide_eq_true k1] at q
    by_cases k2 : l < 3
    · rw [if_pos ⟨k1, k2⟩]
      have k2' : (l : Int) < 3 := by omega
      by_cases k3 : 0 < m
      · have k3' : 0 < (m : Int) := by omega
        rcases hc with rfl | rfl <;>
        simp -dsimp [f6, fnOf, b6, line_eq, Ss.den, S.den, X.den, Xs.denL, Xs.denS, Xs.denB, Xs.denP, Xo.den, As.den, T.den, Ts.denB, Ts.denA, It.den, putM, appM, extM, augM, shM, share, ownAt, Sl.own, Sl.put, putR, appR, extR, own1, ixN, varM, idxR, slcR, negR, notR, view, bop, addR, subR, mulR, fdivR, modR, powR, bltR, lenR, intR, ordR, tupleR, listR, cop, copR, cmpI, isNone, ↓bind_L, bindL_ok, bindL_ex, bindL_bad, ↓thn_L, thnL_ok, thnL_ex, thnL_bad, ↓seq_L, seqL_next, seqL_brk, seqL_cnt, seqL_ret, seqL_ex, seqL_bad, asgR, notIo, okS, ↓ofO_L, ofOL_some, ofOL_none, fnEnd, ioB, callR_E, callE, toSlots, backSlots, owns, parSet, pickR, setT, setL, killL, killD, kill1, restore, plainSlot, seqD, itemsD, isiR, isiD, g1, g2, g3, e1, e2, e4, n1, n2, mulOk_eq, m1, m2, t1, t2, z1, z2, z3, z4, z5, z6, q, eqI, k2, k2', k3, k3', resD]
      · have k3' : ¬ 0 < (m : Int) := by omega
        rcases hc with rfl | rfl <;>
        simp -dsimp [f6, fnOf, b6, line_eq, Ss.den, S.den, X.den, Xs.denL, Xs.denS, Xs.denB, Xs.denP, Xo.den, As.den, T.den, Ts.denB, Ts.denA, It.den, putM, appM, extM, augM, shM, share, ownAt, Sl.own, Sl.put, putR, appR, extR, own1, ixN, varM, idxR, slcR, negR, notR, view, bop, addR, subR, mulR, fdivR, modR, powR, bltR, lenR, intR, ordR, tupleR, listR, cop, copR, cmpI, isNone, ↓bind_L, bindL_ok, bindL_ex, bindL_bad, ↓thn_L, thnL_ok, thnL_ex, thnL_bad, ↓seq_L, seqL_next, seqL_brk, seqL_cnt, seqL_ret, seqL_ex, seqL_bad, asgR, notIo, okS, ↓ofO_L, ofOL_some, ofOL_none, fnEnd, ioB, callR_E, callE, toSlots, backSlots, owns, parSet, pickR, setT, setL, killL, killD, kill1, restore, plainSlot, seqD, itemsD, isiR, isiD, g1, g2, g3, e1, e2, e4, n1, n2, mulOk_eq, m1, m2, t1, t2, z1, z2, z3, z4, z5, z6, q, eqI, k2, k2', k3, k3', resD]
    · have h3 : l = 3 := by omega
      have q3 : ∀ F, eqR (.sh (.int (l : Int))) (.sh (.int 3)) F = some true := fun F => by rw [eqI, decide_eq_true (by omega)]
      have k2' : ¬ (l : Int) < 3 := by omega
      rw [if_neg (fun z => k2 z.2), if_pos h3]
      rcases hc with rfl | rfl <;>
      simp -dsimp [f6, fnOf, b6, line_eq, Ss.den, S.den, X.den, Xs.denL, Xs.denS, Xs.denB, Xs.denP, Xo.den, As.den, T.den, Ts.denB, Ts.denA, It.den, putM, appM, extM, augM, shM, share, ownAt, Sl.own, Sl.put, putR, appR, extR, own1, ixN, varM, idxR, slcR, negR, notR, view, bop, addR, subR, mulR, fdivR, modR, powR, bltR, lenR, intR, ordR, tupleR, listR, cop, copR, cmpI, isNone, ↓bind_L, bindL_ok, bindL_ex, bindL_bad, ↓thn_L, thnL_ok, thnL_ex, thnL_bad, ↓seq_L, seqL_next, seqL_brk, seqL_cnt, seqL_ret, seqL_ex, seqL_bad, asgR, notIo, okS, ↓ofO_L, ofOL_some, ofOL_none, fnEnd, ioB, callR_E, callE, toSlots, backSlots, owns, parSet, pickR, setT, setL, killL, killD, kill1, restore, plainSlot, seqD, itemsD, isiR, isiD, g1, g2, g3, e1, e2, e3, e4, n1, n2, mulOk_eq, m1, m2, t1, t2, z1, z2, z3, z4, z5, z6, q, q3, k2', resD]
  · rw [decide_eq_false k1] at q
    rw [if_neg (fun z => k1 z.1)]
    by_cases k2 : l = 3
    · have q3 : ∀ F, eqR (.sh (.int (l : Int))) (.sh (.int 3)) F = some true := fun F => by rw [eqI, decide_eq_true (by omega)]
      rw [if_pos k2]
      rcases hc with rfl | rfl <;>
      simp -dsimp [f6, fnOf, b6, line_eq, Ss.den, S.den, X.den, Xs.denL, Xs.denS, Xs.denB, Xs.denP, Xo.den, As.den, T.den, Ts.denB, Ts.denA, It.den, putM, appM, extM, augM, shM, share, ownAt, Sl.own, Sl.put, putR, appR, extR, own1, ixN, varM, idxR, slcR, negR, notR, view, bop, addR, subR, mulR, fdivR, modR, powR, bltR, lenR, intR, ordR, tupleR, listR, cop, copR, cmpI, isNone, ↓bind_L, bindL_ok, bindL_ex, bindL_bad, ↓thn_L, thnL_ok, thnL_ex, thnL_bad, ↓seq_L, seqL_next, seqL_brk, seqL_cnt, seqL_ret, seqL_ex, seqL_bad, asgR, notIo, okS, ↓ofO_L, ofOL_some, ofOL_none, fnEnd, ioB, callR_E, callE, toSlots, backSlots, owns, parSet, pickR, setT, setL, killL, killD, kill1, restore, plainSlot, seqD, itemsD, isiR, isiD, g1, g2, g3, e1, e2, e3, e4, n1, n2, mulOk_eq, m1, m2, t1, t2, z1, z2, z3, z4, z5, z6, q, q3, resD]
    · have q3 : ∀ F, eqR (.sh (.int (l : Int))) (.sh (.int 3)) F = some false := fun F => by rw [eqI, decide_eq_false (by omega)]
      rw [if_neg k2]
      by_cases k3 : b < l
      · rcases hc with rfl | rfl <;>
        simp -dsimp [f6, fnOf, b6, line_eq, Ss.den, S.den, X.den, Xs.denL, Xs.denS, Xs.denB, Xs.denP, Xo.den, As.den, T.den, Ts.denB, Ts.denA, It.den, putM, appM, extM, augM, shM, share, ownAt, Sl.own, Sl.put, putR, appR, extR, own1, ixN, varM, idxR, slcR, negR, notR, view, bop, addR, subR, mulR, fdivR, modR, powR, bltR, lenR, intR, ordR, tupleR, listR, cop, copR, cmpI, isNone, ↓bind_L, bindL_ok, bindL_ex, bindL_bad, ↓thn_L, thnL_ok, thnL_ex, thnL_bad, ↓seq_L, seqL_next, seqL_brk, seqL_cnt, seqL_ret, seqL_ex, seqL_bad, asgR, notIo, okS, ↓ofO_L, ofOL_some, ofOL_none, fnEnd, ioB, callR_E, callE, toSlots, backSlots, owns, parSet, pickR, setT, setL, killL, killD, kill1, restore, plainSlot, seqD, itemsD, isiR, isiD, g1, g2, g3, e1, e2, e3, e4, e5, n1, n2, mulOk_eq, m1, m2, t1, t2, z1, z2, z3, z4, z5, z6, q, q3, k3, resD]
      · rcases hc with rfl | rfl <;>
        simp -dsimp [f6, fnOf, b6, line_eq, Ss.den, S.den, X.den, Xs.denL, Xs.denS, Xs.denB, Xs.denP, Xo.den, As.den, T.den, Ts.denB, Ts.denA, It.den, putM, appM, extM, augM, shM, share, ownAt, Sl.own, Sl.put, putR, appR, extR, own1, ixN, varM, idxR, slcR, negR, notR, view, bop, addR, subR, mulR, fdivR, modR, powR, bltR, lenR, intR, ordR, tupleR, listR, cop, copR, cmpI, isNone, ↓bind_L, bindL_ok, bindL_ex, bindL_bad, ↓thn_L, thnL_ok, thnL_ex, thnL_bad, ↓seq_L, seqL_next, seqL_brk, seqL_cnt, seqL_ret, seqL_ex, seqL_bad, asgR, notIo, okS, ↓ofO_L, ofOL_some, ofOL_none, fnEnd, ioB, callR_E, callE, toSlots, backSlots, owns, parSet, pickR, setT, setL, killL, killD, kill1, restore, plainSlot, seqD, itemsD, isiR, isiD, g1, g2, g3, e1, e2, e3, e4, e5, n1, n2, mulOk_eq, m1, m2, t1, t2, z1, z2, z3, z4, z5, z6, q, q3, k3, resD]
end Lw

end
section
set_option Elab.async false
set_option linter.all false
set_option maxRecDepth 100000
set_option maxHeartbeats 1000000
namespace Lw
open PySem PySem.Spec PyProof.Rows L2 Z
abbrev Bytes (bs : List Int) : Prop := ∀ b ∈ bs, 0 ≤ b ∧ b < 256
/-- the signs without what fills up -/
def sg : List Int → List Int
  | a :: b :: c :: r => grp ((a * 256 + b) * 256 + c) ++ sg r
  | [a, b] => (grp ((a * 256 + b) * 256)).take 3
  | [a] => (grp (a * 256 * 256)).take 2
  | [] => []
def pd (n : Nat) : Nat := (3 - n % 3) % 3
theorem b64_sg : ∀ bs : List Int, b64 bs = sg bs ++ r61 (pd bs.length)
  | a :: b :: c :: r => by
    have : pd (a :: b :: c :: r).length = pd r.length := by simp [pd]; omega
    rw [this, b64, sg, b64_sg r, List.append_assoc]
  | [a, b] => rfl
  | [a] => rfl
  | [] => rfl
theorem sg_len : ∀ bs : List Int, (sg bs).length + pd bs.length = 4 * ((bs.length + 2) / 3)
  | a :: b :: c :: r => by
    have h := sg_len r
    have : pd (a :: b :: c :: r).length = pd r.length := by simp [pd]; omega
    rw [this]
    simp [sg, grp]
    omega
  | [a, b] => by simp [sg, grp, pd]
  | [a] => by simp [sg, grp, pd]
  | [] => by simp [sg, pd]
theorem sgn_all : ∀ v < 64, isS (sgn (v : Nat)) = true ∧ sgn (v : Nat) ≠ 61 ∧ notEnd (sgn (v : Nat)) = true ∧ dg (sgn (v : Nat)) = (v : Nat) := by decide +kernel
theorem sgn_ok (v : Int) (h : 0 ≤ v ∧ v < 64) : isS (sgn v) = true ∧ sgn v ≠ 61 ∧ notEnd (sgn v) = true ∧ dg (sgn v) = v := by
  obtain ⟨n, rfl⟩ : ∃ n : Nat, v = (n : Int) := ⟨v.toNat, by omega⟩
  exact sgn_all n (by omega)
theorem grp_mem (n : Int) : ∀ x ∈ grp n, ∃ v, x = sgn v ∧ 0 ≤ v ∧ v < 64 := by
  intro x hx
  simp only [grp, List.mem_cons, List.not_mem_nil, or_false] at hx
  rcases hx with rfl | rfl | rfl | rfl <;> exact ⟨_, rfl, by omega, by omega⟩
theorem sg_mem : ∀ (bs : List Int), ∀ x ∈ sg bs, ∃ v, x = sgn v ∧ 0 ≤ v ∧ v < 64
  | a :: b :: c :: r, x, h => by
    rcases List.mem_append.mp h with h | h
    · exact grp_mem _ x h
    · exact sg_mem r x h
  | [a, b], x, h => grp_mem _ x (List.mem_of_mem_take h)
  | [a], x, h => grp_mem _ x (List.mem_of_mem_take h)
  | [], _, h => (nomatch h)
theorem sg_sign (bs : List Int) : ∀ x ∈ sg bs, isS x = true ∧ x ≠ 61 ∧ notEnd x = true := fun x h => by
  obtain ⟨v, rfl, h1, h2⟩ := sg_mem bs x h
  obtain ⟨a, b, c, _⟩ := sgn_ok v ⟨h1, h2⟩
  exact ⟨a, b, c⟩
theorem dgn (v : Int) (h : 0 ≤ v ∧ v < 64) : dg (sgn v) = v := (sgn_ok v h).2.2.2
theorem num_back (n : Int) (h : 0 ≤ n ∧ n < 16777216) : num4 (dg (sgn (n / 262144 % 64))) (dg (sgn (n / 4096 % 64))) (dg (sgn (n / 64 % 64))) (dg (sgn (n % 64))) = n := by
  rw [dgn _ (by omega), dgn _ (by omega), dgn _ (by omega), dgn _ (by omega)]
  unfold num4
  omega
theorem bos_sg : ∀ bs : List Int, Bytes bs → bos (sg bs) = bs
  | a :: b :: c :: r, h => by
    have ha := h a (by simp)
    have hb := h b (by simp)
    have hc := h c (by simp)
    have ih := bos_sg r fun x hx => h x (by simp [hx])
    simp only [sg, grp, List.cons_append, List.nil_append, bos, ih]
    rw [num_back _ (by omega)]
    simp only [grp3, List.cons_append, List.nil_append]
    rw [show ((a * 256 + b) * 256 + c) / 65536 = a by omega, show ((a * 256 + b) * 256 + c) / 256 % 256 = b by omega, show ((a * 256 + b) * 256 + c) % 256 = c by omega]
  | [a, b], h => by
    have ha := h a (by simp)
    have hb := h b (by simp)
    have e := num_back ((a * 256 + b) * 256) (by omega)
    simp only [sg, grp, List.take_succ_cons, List.take_zero, bos, grp3]
    have z : dg (sgn ((a * 256 + b) * 256 % 64)) = 0 := by rw [dgn _ (by omega)]; omega
    rw [z] at e
    rw [e, show (a * 256 + b) * 256 / 65536 = a by omega, show (a * 256 + b) * 256 / 256 % 256 = b by omega]
  | [a], h => by
    have ha := h a (by simp)
    have e := num_back (a * 256 * 256) (by omega)
    simp only [sg, grp, List.take_succ_cons, List.take_zero, bos, grp3]
    have z : dg (sgn (a * 256 * 256 % 64)) = 0 := by rw [dgn _ (by omega)]; omega
    have z2 : dg (sgn (a * 256 * 256 / 64 % 64)) = 0 := by rw [dgn _ (by omega)]; omega
    rw [z, z2] at e
    rw [e, show a * 256 * 256 / 65536 = a by omega]
  | [], _ => rfl
/-! ### filters -/
theorem fil_all {p : Int → Bool} {xs : List Int} (h : ∀ x ∈ xs, p x = true) : xs.filter p = xs := List.filter_eq_self.mpr h
theorem fil_none {p : Int → Bool} {xs : List Int} (h : ∀ x ∈ xs, p x = false) : xs.filter p = [] := List.filter_eq_nil_iff.mpr fun x hx => by rw [h x hx]; decide
theorem r61_all (p : Int → Bool) (n : Nat) (h : p 61 = true) : (r61 n).filter p = r61 n := fil_all fun x hx => by rw [List.eq_of_mem_replicate hx]; exact h
theorem r61_none (p : Int → Bool) (n : Nat) (h : p 61 = false) : (r61 n).filter p = [] := fil_none fun x hx => by rw [List.eq_of_mem_replicate hx]; exact h
theorem r61_len (n : Nat) : (r61 n).length = n := List.length_replicate ..
theorem r61_add (n m : Nat) : r61 n ++ r61 m = r61 (n + m) := List.replicate_append_replicate
theorem pd_le (n : Nat) : pd n ≤ 2 := by unfold pd; omega
theorem sg_fil (bs : List Int) : (sg bs).filter isS = sg bs := fil_all fun x hx => (sg_sign bs x hx).1
theorem sg_not (bs : List Int) : (sg bs).filter notEnd = sg bs := fil_all fun x hx => (sg_sign bs x hx).2.2
/-- signs with some filling, lines between them -/
theorem read_fill (bs src : List Int) (hb : Bytes bs) (j : Nat) (hj : j ≤ pd bs.length) (h : src.filter notEnd = sg bs ++ r61 j) : read64 src = (bs, (if j < pd bs.length then ["base64 padding"] else [] : List Str)) := by
  have hs := sg_len bs
  have hp := pd_le bs.length
  have l1 : lk (sg bs ++ r61 j).length = pd bs.length - j := by
    rw [List.length_append, r61_len]
    unfold lk
    omega
  have l2 : lk (sg bs).length = pd bs.length := by
    unfold lk
    omega
  unfold read64
  simp only [h, List.filter_append, sg_fil, r61_none isS j (by decide), List.append_nil, l1, l2]
  rw [List.append_assoc, r61_add, show j + (pd bs.length - j) = pd bs.length by omega, if_pos ⟨rfl, by omega⟩, bos_sg bs hb]
  by_cases z : j < pd bs.length
  · rw [if_pos z, if_pos (by omega)]
  · rw [if_neg z, if_neg (by omega)]
theorem read_whole (bs src : List Int) (hb : Bytes bs) (h : src.filter notEnd = b64 bs) : read64 src = (bs, []) := by
  rw [b64_sg] at h
  rw [read_fill bs src hb _ (Nat.le_refl _) h, if_neg (Nat.lt_irrefl _)]
theorem b64_not (bs : List Int) : (b64 bs).filter notEnd = b64 bs := by
  rw [b64_sg, List.filter_append, sg_not, r61_all notEnd _ (by decide)]
theorem b64_inj (xs ys : List Int) (hx : Bytes xs) (hy : Bytes ys) (h : b64 xs = b64 ys) : xs = ys := by
  have h1 := read_whole xs (b64 xs) hx (b64_not xs)
  have h2 := read_whole ys (b64 xs) hy (by rw [h, b64_not])
  rw [h1] at h2
  exact congrArg Prod.fst h2
theorem bh_app : ∀ (xs ys : List Int), (∀ y ∈ ys, isS y = false) → bh (xs ++ ys) = (bh xs).map (· ++ ys)
  | [], [], _ => rfl
  | [], y :: ys, h => by
    have e := bh_app [] ys fun z hz => h z (List.mem_cons_of_mem _ hz)
    rw [List.nil_append] at e ⊢
    unfold bh
    rw [e, h y (List.mem_cons_self ..)]
    rfl
  | x :: xs, ys, h => by
    rw [List.cons_append]
    unfold bh
    rw [bh_app xs ys h]
    cases bh xs with
    | some z => rfl
    | none => cases isS x <;> rfl
theorem bh_sub : ∀ (xs r : List Int), bh xs = some r → ∀ x ∈ r, x ∈ xs
  | c :: xs, r, h, x, hx => by
    unfold bh at h
    cases q : bh xs with
    | some z =>
      rw [q] at h
      cases h
      exact List.mem_cons_of_mem _ (bh_sub xs r q x hx)
    | none =>
      rw [q] at h
      cases s : isS c with
      | true =>
        rw [s] at h
        cases h
        exact List.mem_cons_of_mem _ hx
      | false => rw [s] at h; cases h
/-- what fills up behind others -/
theorem fb_app (xs : List Int) (n : Nat) (h : ∀ x ∈ xs, x ≠ 61) : fb (xs ++ r61 n) = n := by
  unfold fb
  rw [bh_app xs (r61 n) fun y hy => by rw [List.eq_of_mem_replicate hy]; decide]
  cases q : bh xs with
  | none =>
    simp only [Option.map_none, Option.getD_none]
    rw [List.filter_append, fil_none fun x hx => decide_eq_false (h x hx), r61_all _ _ (by decide), List.nil_append, r61_len]
  | some r =>
    simp only [Option.map_some, Option.getD_some]
    rw [List.filter_append, fil_none fun x hx => decide_eq_false (h x (bh_sub xs r q x hx)), r61_all _ _ (by decide), List.nil_append, r61_len]
/-- signs with others between -/
theorem read_odd (bs odd : List Int) (hb : Bytes bs) (m : Nat) (hm : m ≤ pd bs.length) (h1 : odd.filter isS = sg bs) (h2 : odd.filter notEnd = odd) (h3 : ∀ x ∈ odd, x ≠ 61) (h4 : ∃ x ∈ odd, isS x = false) :
    read64 (odd ++ r61 m) = (bs, (("base64 characters" : Str) :: (if m < pd bs.length then ["base64 padding"] else [] : List Str))) := by
  have hs := sg_len bs
  have hp := pd_le bs.length
  have l2 : lk (sg bs).length = pd bs.length := by
    unfold lk
    omega
  unfold read64
  simp only [List.filter_append, h2, r61_all notEnd m (by decide), h1, r61_none isS m (by decide), List.append_nil, l2]
  rw [if_neg ?_, if_neg (by omega), fb_app odd m h3, bos_sg bs hb]
  intro z
  obtain ⟨x, hx, hn⟩ := h4
  have : x ∈ sg bs ++ r61 (pd bs.length) := by
    rw [← z.1, List.append_assoc]
    exact List.mem_append_left _ hx
  rcases List.mem_append.mp this with k | k
  · rw [(sg_sign bs x k).1] at hn
    cases hn
  · exact h3 x hx (List.eq_of_mem_replicate k)
end Lw

end
section
set_option Elab.async false
set_option linter.all false
set_option maxRecDepth 100000
set_option maxHeartbeats 0
namespace Lw
open PySem PySem.Spec PyProof.Rows L2 Z
theorem dr11 : DrawOk G11 := ⟨f8, by kernel_rfl, fun h1 h2 _ h3 h4 => draw_ok h1 h2 h3 h4⟩
theorem dr9 : DrawOk G9 := ⟨f8, by kernel_rfl, fun h1 h2 _ h3 h4 => draw_ok h1 h2 h3 h4⟩
def byteRow : List D := [.int 0, .int 1, .int 9, .int 10, .int 13, .int 32, .int 61, .int 63, .int 64, .int 95, .int 97, .int 126, .int 127, .int 128, .int 192, .int 255]
theorem byteRow_ok (i : Nat) (hi : i < byteRow.length) : ∃ v : Int, byteRow[i] = .int v ∧ 0 ≤ v ∧ v < 256 := by
  have : ∀ d ∈ byteRow, ∃ v : Int, d = .int v ∧ 0 ≤ v ∧ v < 256 := by
    intro d hd
    simp only [byteRow, List.mem_cons, List.not_mem_nil, or_false] at hd
    rcases hd with rfl | rfl | rfl | rfl | rfl | rfl | rfl | rfl | rfl | rfl | rfl | rfl | rfl | rfl | rfl | rfl <;> exact ⟨_, rfl, by omega, by omega⟩
  exact this _ (List.getElem_mem hi)
def Row2 (s : Sl) : Prop := s = .ow byteRow ∨ s = .sh (.lst byteRow)
theorem G11_draw : G11.fn "_law_draw" = some f8 := by kernel_rfl
theorem G11_pick : G11.fn "_law_pick" = some f9 := by kernel_rfl
theorem bytes_step (B : Nat) (xs : List D) (h : SrcP B xs) (hB : B < 900000) (m k : D) (s2 : Sl) (h2 : Row2 s2) (fs : List Int) (hf : fs.length ≤ 1000) :
    ∃ (v : Int) (ys : List D) (s2' : Sl), w11_1.den G11 [.io xs, .sh m, s2, .ow (iD fs), .sh k] = .next [.io ys, .sh m, s2', .ow (iD (fs ++ [v])), .sh k] ∧ Row2 s2' ∧ 0 ≤ v ∧ v < 256 ∧ SrcP (B + 2) ys := by
  have hl : fs.length ≤ 16777215 := by omega
  obtain ⟨v, ys, e1, p1, p2, h⟩ := draw_ok (Γ := G8) h (by omega) (n := 2) (by omega) (by omega)
  have e1' : f8 [.io xs, .sh (.int 2)] = .ok (.sh (.int v)) [.io ys, .un] := e1
  have g1 := G11_draw
  have g2 := G11_pick
  by_cases hv : v = 0
  · subst hv
    obtain ⟨v, zs, e2, q1, q2, h⟩ := draw_ok (Γ := G8) h (by omega) (n := 256) (by omega) (by omega)
    have e2' : f8 [.io ys, .sh (.int 256)] = .ok (.sh (.int v)) [.io zs, .un] := e2
    refine ⟨v, zs, s2, ?_, h2, q1, q2, h⟩
    simp -dsimp [w11_1, line_eq, Ss.den, S.den, X.den, Xs.denL, Xs.denS, Xs.denB, Xs.denP, Xo.den, As.den, T.den, Ts.denB, Ts.denA, It.den, putM, appM, extM, augM, shM, share, ownAt, Sl.own, Sl.put, putR, appR, extR, own1, ixN, varM, idxR, slcR, negR, notR, view, bop, addR, subR, mulR, fdivR, modR, powR, bltR, lenR, intR, ordR, tupleR, listR, cop, copR, cmpI, isNone, ↓bind_L, bindL_ok, bindL_ex, bindL_bad, ↓thn_L, thnL_ok, thnL_ex, thnL_bad, ↓seq_L, seqL_next, seqL_brk, seqL_cnt, seqL_ret, seqL_ex, seqL_bad, asgR, notIo, okS, ↓ofO_L, ofOL_some, ofOL_none, fnEnd, ioB, callR_E, callE, toSlots, backSlots, owns, parSet, pickR, setT, setL, killL, killD, kill1, restore, plainSlot, seqD, itemsD, isiR, isiD, eqR, neR, pyR, D.py, D.pyL, SeqAt.shaped, PyData.canLay0, PyData.canLayAll0, PyData.depth, PyData.depthAll, PyData.eqv, PyData.eqvAll, Z.inR, Z.inF, Z.inG, Z.ninR, D.flat, g1, e1', e2', line_eq, hl]
  · obtain ⟨i, hi, zs, e2, h⟩ := pick_ok dr9 (c := .lst byteRow) (.inl rfl) h (by omega) (by decide) (by decide)
    have e2' : f9 [.io ys, .sh (.lst byteRow)] = .ok (.sh byteRow[i]) [.io zs, .un] := e2
    obtain ⟨u, hu, q1, q2⟩ := byteRow_ok i hi
    rw [hu] at e2'
    refine ⟨u, zs, .sh (.lst byteRow), ?_, .inr rfl, q1, q2, h⟩
    rcases h2 with rfl | rfl <;> simp -dsimp [w11_1, line_eq, Ss.den, S.den, X.den, Xs.denL, Xs.denS, Xs.denB, Xs.denP, Xo.den, As.den, T.den, Ts.denB, Ts.denA, It.den, putM, appM, extM, augM, shM, share, ownAt, Sl.own, Sl.put, putR, appR, extR, own1, ixN, varM, idxR, slcR, negR, notR, view, bop, addR, subR, mulR, fdivR, modR, powR, bltR, lenR, intR, ordR, tupleR, listR, cop, copR, cmpI, isNone, ↓bind_L, bindL_ok, bindL_ex, bindL_bad, ↓thn_L, thnL_ok, thnL_ex, thnL_bad, ↓seq_L, seqL_next, seqL_brk, seqL_cnt, seqL_ret, seqL_ex, seqL_bad, asgR, notIo, okS, ↓ofO_L, ofOL_some, ofOL_none, fnEnd, ioB, callR_E, callE, toSlots, backSlots, owns, parSet, pickR, setT, setL, killL, killD, kill1, restore, plainSlot, seqD, itemsD, isiR, isiD, eqR, neR, pyR, D.py, D.pyL, SeqAt.shaped, PyData.canLay0, PyData.canLayAll0, PyData.depth, PyData.depthAll, PyData.eqv, PyData.eqvAll, Z.inR, Z.inF, Z.inG, Z.ninR, D.flat, g1, g2, e1', e2', hv, line_eq, hl]
theorem f11_ok (B : Nat) (xs : List D) (h : SrcP B xs) (hB : B < 100000) (m : Nat) (hm : m ≤ 1000) :
    ∃ (bs : List Int) (ys : List D), f11 [.io xs, .sh (.int (m : Int))] = .ok (.fr (iD bs)) [.io ys, .un] ∧ bs.length ≤ m ∧ Bytes bs ∧ SrcP (B + 1 + 2 * 1000) ys := by
  obtain ⟨v, ys, e1, p1, p2, h⟩ := draw_ok (Γ := G8) h (by omega) (n := (m : Int) + 1) (by omega) (by omega)
  have e1' : f8 [.io xs, .sh (.int ((m : Int) + 1))] = .ok (.sh (.int v)) [.io ys, .un] := e1
  obtain ⟨q, rfl⟩ : ∃ q : Nat, v = (q : Int) := ⟨v.toNat, by omega⟩
  have er : rng1 [.sh (.int (q : Int))] = some ((List.range q).map fun (i : Nat) => .int (i : Int)) := by
    have : small (q : Int) = true := by rw [small_eq]; simp; omega
    simp [rng1, this]
  obtain ⟨F', e2, bs, zs, s2, rfl, hl, hb, h2, hz⟩ := forM_kill (tg := .name 4) (b := w11_1.den G11) (dead := [4]) (fun i F => ∃ bs zs s2, F = [.io zs, .sh (.int (m : Int)), s2, .ow (iD bs), .un] ∧ bs.length = i ∧ Bytes bs ∧ Row2 s2 ∧ SrcP (B + 1 + 2 * i) zs)
    ((List.range q).map fun (i : Nat) => .int (i : Int)) [.io ys, .sh (.int (m : Int)), .ow byteRow, .ow [], .un] ⟨[], ys, .ow byteRow, by simp -dsimp [line_eq, Ss.den, S.den, X.den, Xs.denL, Xs.denS, Xs.denB, Xs.denP, Xo.den, As.den, T.den, Ts.denB, Ts.denA, It.den, putM, appM, extM, augM, shM, share, ownAt, Sl.own, Sl.put, putR, appR, extR, own1, ixN, varM, idxR, slcR, negR, notR, view, bop, addR, subR, mulR, fdivR, modR, powR, bltR, lenR, intR, ordR, tupleR, listR, cop, copR, cmpI, isNone, ↓bind_L, bindL_ok, bindL_ex, bindL_bad, ↓thn_L, thnL_ok, thnL_ex, thnL_bad, ↓seq_L, seqL_next, seqL_brk, seqL_cnt, seqL_ret, seqL_ex, seqL_bad, asgR, notIo, okS, ↓ofO_L, ofOL_some, ofOL_none, fnEnd, ioB, callR_E, callE, toSlots, backSlots, owns, parSet, pickR, setT, setL, killL, killD, kill1, restore, plainSlot, seqD, itemsD, isiR, isiD], rfl, fun _ z => (nomatch z), .inl rfl, h⟩ fun i d F hd hp => by
      obtain ⟨bs, zs, s2, rfl, hl, hb, h2, hz⟩ := hp
      have hi : i < q := by
        by_cases z : i < q
        · exact z
        · rw [List.getElem?_eq_none (by simpa using z)] at hd; cases hd
      obtain ⟨v, us, s2', e3, k2, k3, k4, k5⟩ := bytes_step _ zs hz (by omega) (.int (m : Int)) d s2 h2 bs (by omega)
      refine ⟨[.io zs, .sh (.int (m : Int)), s2, .ow (iD bs), .sh d], by simp -dsimp [line_eq, Ss.den, S.den, X.den, Xs.denL, Xs.denS, Xs.denB, Xs.denP, Xo.den, As.den, T.den, Ts.denB, Ts.denA, It.den, putM, appM, extM, augM, shM, share, ownAt, Sl.own, Sl.put, putR, appR, extR, own1, ixN, varM, idxR, slcR, negR, notR, view, bop, addR, subR, mulR, fdivR, modR, powR, bltR, lenR, intR, ordR, tupleR, listR, cop, copR, cmpI, isNone, ↓bind_L, bindL_ok, bindL_ex, bindL_bad, ↓thn_L, thnL_ok, thnL_ex, thnL_bad, ↓seq_L, seqL_next, seqL_brk, seqL_cnt, seqL_ret, seqL_ex, seqL_bad, asgR, notIo, okS, ↓ofO_L, ofOL_some, ofOL_none, fnEnd, ioB, callR_E, callE, toSlots, backSlots, owns, parSet, pickR, setT, setL, killL, killD, kill1, restore, plainSlot, seqD, itemsD, isiR, isiD], ?_⟩
      rw [e3]
      refine ⟨bs ++ [v], us, s2', by simp -dsimp [line_eq, Ss.den, S.den, X.den, Xs.denL, Xs.denS, Xs.denB, Xs.denP, Xo.den, As.den, T.den, Ts.denB, Ts.denA, It.den, putM, appM, extM, augM, shM, share, ownAt, Sl.own, Sl.put, putR, appR, extR, own1, ixN, varM, idxR, slcR, negR, notR, view, bop, addR, subR, mulR, fdivR, modR, powR, bltR, lenR, intR, ordR, tupleR, listR, cop, copR, cmpI, isNone, ↓bind_L, bindL_ok, bindL_ex, bindL_bad, ↓thn_L, thnL_ok, thnL_ex, thnL_bad, ↓seq_L, seqL_next, seqL_brk, seqL_cnt, seqL_ret, seqL_ex, seqL_bad, asgR, notIo, okS, ↓ofO_L, ofOL_some, ofOL_none, fnEnd, ioB, callR_E, callE, toSlots, backSlots, owns, parSet, pickR, setT, setL, killL, killD, kill1, restore, plainSlot, seqD, itemsD, isiR, isiD], by rw [List.length_append, hl]; rfl, fun b hb' => ?_, k2, by rw [show B + 1 + 2 * (i + 1) = B + 1 + 2 * i + 2 by omega]; exact k5⟩
      rcases List.mem_append.mp hb' with z | z
      · exact hb _ z
      · rw [List.mem_singleton.mp z]
        exact ⟨k3, k4⟩
  rw [List.length_map, List.length_range] at hl hz
  refine ⟨bs, zs, ?_, by omega, hb, hz.mono (by omega)⟩
  generalize (List.range q).map (fun (i : Nat) => D.int (i : Int)) = ds at er e2
  have g1 := G11_draw
  simp [byteRow] at e2
  simp -dsimp [f11, fnOf, b11, line_eq, Ss.den, S.den, X.den, Xs.denL, Xs.denS, Xs.denB, Xs.denP, Xo.den, As.den, T.den, Ts.denB, Ts.denA, It.den, putM, appM, extM, augM, shM, share, ownAt, Sl.own, Sl.put, putR, appR, extR, own1, ixN, varM, idxR, slcR, negR, notR, view, bop, addR, subR, mulR, fdivR, modR, powR, bltR, lenR, intR, ordR, tupleR, listR, cop, copR, cmpI, isNone, ↓bind_L, bindL_ok, bindL_ex, bindL_bad, ↓thn_L, thnL_ok, thnL_ex, thnL_bad, ↓seq_L, seqL_next, seqL_brk, seqL_cnt, seqL_ret, seqL_ex, seqL_bad, asgR, notIo, okS, ↓ofO_L, ofOL_some, ofOL_none, fnEnd, ioB, callR_E, callE, toSlots, backSlots, owns, parSet, pickR, setT, setL, killL, killD, kill1, restore, plainSlot, seqD, itemsD, isiR, isiD, g1, e1', er, e2, line_eq]
end Lw

end
section
set_option Elab.async false
set_option linter.all false
set_option maxRecDepth 100000
set_option maxHeartbeats 1000000
namespace Lw
open PySem PySem.Spec PyProof.Rows L2 Z
/-! ### lines of whole groups; letters -/
theorem b64_app : ∀ (xs ys : List Int), xs.length % 3 = 0 → b64 (xs ++ ys) = b64 xs ++ b64 ys
  | a :: b :: c :: r, ys, h => by
    have ih := b64_app r ys (by simp at h; omega)
    simp only [List.cons_append, b64, ih, List.append_assoc]
  | [a, b], ys, h => by simp at h
  | [a], ys, h => by simp at h
  | [], ys, _ => by simp [b64]
theorem chunks (m : Nat) (hm : m % 3 = 0) : ∀ (q : Nat) (bs : List Int), bs.length ≤ q * m → ((List.range q).flatMap fun k => b64 ((bs.drop (k * m)).take m)) = b64 bs
  | 0, bs, h => by
    have : bs = [] := List.eq_nil_of_length_eq_zero (by omega)
    rw [this]
    rfl
  | q + 1, bs, h => by
    rw [List.range_succ_eq_map, List.flatMap_cons, List.flatMap_map]
    have e : ((List.range q).flatMap fun k => b64 ((bs.drop ((k + 1) * m)).take m)) = b64 (bs.drop m) := by
      rw [← chunks m hm q (bs.drop m) (by rw [List.length_drop]; rw [Nat.add_mul] at h; omega)]
      congr 1
      funext k
      rw [List.drop_drop, show m + k * m = (k + 1) * m by rw [Nat.add_mul]; omega]
    rw [show (fun a => b64 (List.take m (List.drop (Nat.succ a * m) bs))) = fun k => b64 ((bs.drop ((k + 1) * m)).take m) from rfl, e, Nat.zero_mul, List.drop_zero]
    by_cases hl : m ≤ bs.length
    · rw [← b64_app _ _ (by rw [List.length_take, Nat.min_eq_left hl]; exact hm), List.take_append_drop]
    · rw [List.drop_of_length_le (by omega), List.take_of_length_le (by omega)]
      simp [b64]
theorem lns_not (bs : List Int) (m : Nat) (hm : m % 3 = 0) (h0 : 0 < m) : (lns bs m [13, 10]).filter notEnd = b64 bs := by
  unfold lns
  rw [List.filter_flatMap, ← chunks m hm ((bs.length + m - 1) / m) bs (by have := Nat.div_add_mod (bs.length + m - 1) m; have := Nat.mod_lt (bs.length + m - 1) h0; rw [Nat.mul_comm]; omega)]
  congr 1
  funext k
  unfold lng
  rw [List.filter_append, b64_not]
  have : ([13, 10] : List Int).filter notEnd = [] := by decide
  rw [this, List.append_nil]
theorem read_lines (bs : List Int) (hb : Bytes bs) (m : Nat) (hm : m % 3 = 0) (h0 : 0 < m) : read64 (lns bs m [13, 10]) = (bs, []) := read_whole bs _ hb (lns_not bs m hm h0)
def Letters (r : List Int) : Prop := ∀ x ∈ r, 65 ≤ x ∧ x ≤ 90
theorem let_sign {x : Int} (h : 65 ≤ x ∧ x ≤ 90) : isS x = true ∧ notEnd x = true ∧ 0 ≤ dg x ∧ dg x < 64 := by
  refine ⟨?_, ?_, ?_⟩
  · unfold isS
    rw [decide_eq_true h]
    rfl
  · unfold notEnd
    rw [decide_eq_false (by omega), decide_eq_false (by omega)]
    rfl
  · unfold dg
    rw [if_neg (by omega), if_neg (by omega), if_pos (by omega)]
    omega
theorem bos_letters : ∀ r : List Int, Letters r → r.length % 4 = 0 → Bytes (bos r)
  | a :: b :: c :: d :: r, h, hl => by
    have ha := (let_sign (h a (by simp))).2.2
    have hb := (let_sign (h b (by simp))).2.2
    have hc := (let_sign (h c (by simp))).2.2
    have hd := (let_sign (h d (by simp))).2.2
    have ih := bos_letters r (fun x hx => h x (by simp [hx])) (by simp at hl; omega)
    intro x hx
    rcases List.mem_append.mp hx with hx | hx
    · simp only [grp3, num4, List.mem_cons, List.not_mem_nil, or_false] at hx
      rcases hx with rfl | rfl | rfl <;> omega
    · exact ih x hx
  | [a, b, c], h, hl => by simp at hl
  | [a, b], h, hl => by simp at hl
  | [a], h, hl => by simp at hl
  | [], _, _ => fun x hx => (nomatch hx)
theorem read_letters (r : List Int) (h : Letters r) (hl : r.length % 4 = 0) : read64 r = (bos r, []) := by
  have h1 : r.filter notEnd = r := fil_all fun x hx => (let_sign (h x hx)).2.1
  have h2 : r.filter isS = r := fil_all fun x hx => (let_sign (h x hx)).1
  have h3 : lk r.length = 0 := by unfold lk; omega
  unfold read64
  simp only [h1, h2, h3]
  rw [if_pos ⟨trivial, by omega⟩, if_neg (by omega)]
/-! ### strewn -/
def Strewn (junk codes out : List Int) : Prop := (∀ p : Int → Bool, (∀ j ∈ junk, p j = false) → out.filter p = codes.filter p) ∧ (∀ x ∈ out, x ∈ codes ∨ x ∈ junk) ∧
  (out.length = codes.length ∨ ∃ j ∈ junk, j ∈ out) ∧ codes.length ≤ out.length ∧ out.length ≤ codes.length + 4
theorem strew1 {junk codes out : List Int} (p : Int → Bool) (hp : ∀ j ∈ junk, p j = false) (h : out.filter p = codes.filter p) (a : Nat) (j : Int) (hj : j ∈ junk) : (out.take a ++ [j] ++ out.drop a).filter p = codes.filter p := by
  rw [List.filter_append, List.filter_append, fil_none (xs := [j]) (fun x hx => by rw [List.mem_singleton.mp hx]; exact hp j hj), List.append_nil, ← List.filter_append, List.take_append_drop, h]
theorem G12_draw : G12.fn "_law_draw" = some f8 := by kernel_rfl
theorem G12_pick : G12.fn "_law_pick" = some f9 := by kernel_rfl
theorem dr9' : DrawOk G9 := ⟨f8, by kernel_rfl, fun h1 h2 _ h3 h4 => draw_ok h1 h2 h3 h4⟩
theorem draw8 {B : Nat} {xs : List D} (h : SrcP B xs) (hB : B < 1000000) {n : Int} (hn : 0 < n) (hn2 : n < 1099511627776) : ∃ v ys, f8 [.io xs, .sh (.int n)] = .ok (.sh (.int v)) [.io ys, .un] ∧ 0 ≤ v ∧ v < n ∧ SrcP (B + 1) ys := draw_ok h hB hn hn2
theorem f12_ok (B : Nat) (xs : List D) (h : SrcP B xs) (hB : B < 900000) (codes junk : List Int) (c : D) (hc : c = .lst (iD codes) ∨ c = .tup (iD codes)) (hl : codes.length ≤ 10000) (hj : 0 < junk.length) (hj2 : junk.length < 1000) :
    ∃ (out : List Int) (ys : List D), f12 [.io xs, .sh c, .sh (.lst (iD junk))] = .ok (.fr (iD out)) [.io ys, .un, .un] ∧ Strewn junk codes out ∧ SrcP (B + 11) ys := by
  obtain ⟨v, ys, e1, p1, p2, h⟩ := draw8 h (by omega) (n := 5) (by omega) (by omega)
  obtain ⟨q, rfl⟩ : ∃ q : Nat, v = (q : Int) := ⟨v.toNat, by omega⟩
  have er : rng1 [.sh (.int (q : Int))] = some ((List.range q).map fun (i : Nat) => .int (i : Int)) := by
    have : small (q : Int) = true := by rw [small_eq]; simp; omega
    simp [rng1, this]
  have g1 := G12_draw
  have g2 := G12_pick
  obtain ⟨F', e2, out, zs, rfl, hl2, hf, hm, hx, hz⟩ := forM_kill (tg := .name 4) (b := w12_1.den G12) (dead := [4, 5]) (fun i F => ∃ (out : List Int) (zs : List D), F = [.io zs, .sh c, .sh (.lst (iD junk)), .ow (iD out), .un, .un] ∧ out.length = codes.length + i ∧
      (∀ p : Int → Bool, (∀ j ∈ junk, p j = false) → out.filter p = codes.filter p) ∧ (∀ x ∈ out, x ∈ codes ∨ x ∈ junk) ∧ (i = 0 ∨ ∃ j ∈ junk, j ∈ out) ∧ SrcP (B + 1 + 2 * i) zs)
    ((List.range q).map fun (i : Nat) => .int (i : Int)) [.io ys, .sh c, .sh (.lst (iD junk)), .ow (iD codes), .un, .un] ⟨codes, ys, by simp -dsimp [line_eq, Ss.den, S.den, X.den, Xs.denL, Xs.denS, Xs.denB, Xs.denP, Xo.den, As.den, T.den, Ts.denB, Ts.denA, It.den, putM, appM, extM, augM, shM, share, ownAt, Sl.own, Sl.put, putR, appR, extR, own1, ixN, varM, idxR, slcR, negR, notR, view, bop, addR, subR, mulR, fdivR, modR, powR, bltR, lenR, intR, ordR, tupleR, listR, cop, copR, cmpI, isNone, ↓bind_L, bindL_ok, bindL_ex, bindL_bad, ↓thn_L, thnL_ok, thnL_ex, thnL_bad, ↓seq_L, seqL_next, seqL_brk, seqL_cnt, seqL_ret, seqL_ex, seqL_bad, asgR, notIo, okS, ↓ofO_L, ofOL_some, ofOL_none, fnEnd, ioB, callR_E, callE, toSlots, backSlots, owns, parSet, pickR, setT, setL, killL, killD, kill1, restore, plainSlot, seqD, itemsD, isiR, isiD], rfl, fun p hp => rfl, fun x hx => .inl hx, .inl rfl, h⟩ fun i d F hd hp => by
      obtain ⟨out, zs, rfl, hl2, hf, hm, hx, hz⟩ := hp
      have hi : i < q := by
        by_cases z : i < q
        · exact z
        · rw [List.getElem?_eq_none (by simpa using z)] at hd; cases hd
      obtain ⟨a, us, e3, r1, r2, hz⟩ := draw8 hz (by omega) (n := (out.length : Int) + 1) (by omega) (by omega)
      obtain ⟨a, rfl⟩ : ∃ q : Nat, a = (q : Int) := ⟨a.toNat, by omega⟩
      obtain ⟨k, hk, ws, e4, hz⟩ := pick_ok dr9' (c := .lst (iD junk)) (.inl rfl) hz (by omega) (by rw [List.length_map]; exact hj) (by rw [List.length_map]; omega)
      rw [List.getElem_map] at e4
      have e4 : f9 [.io us, .sh (.lst (iD junk))] = .ok (.sh (.int (junk[k]'(by simpa using hk)))) [.io ws, .un] := e4
      have hkj : junk[k]'(by simpa using hk) ∈ junk := List.getElem_mem _
      generalize junk[k]'(by simpa using hk) = j at *
      refine ⟨[.io zs, .sh c, .sh (.lst (iD junk)), .ow (iD out), .sh d, .un], by simp -dsimp [line_eq, Ss.den, S.den, X.den, Xs.denL, Xs.denS, Xs.denB, Xs.denP, Xo.den, As.den, T.den, Ts.denB, Ts.denA, It.den, putM, appM, extM, augM, shM, share, ownAt, Sl.own, Sl.put, putR, appR, extR, own1, ixN, varM, idxR, slcR, negR, notR, view, bop, addR, subR, mulR, fdivR, modR, powR, bltR, lenR, intR, ordR, tupleR, listR, cop, copR, cmpI, isNone, ↓bind_L, bindL_ok, bindL_ex, bindL_bad, ↓thn_L, thnL_ok, thnL_ex, thnL_bad, ↓seq_L, seqL_next, seqL_brk, seqL_cnt, seqL_ret, seqL_ex, seqL_bad, asgR, notIo, okS, ↓ofO_L, ofOL_some, ofOL_none, fnEnd, ioB, callR_E, callE, toSlots, backSlots, owns, parSet, pickR, setT, setL, killL, killD, kill1, restore, plainSlot, seqD, itemsD, isiR, isiD], ?_⟩
      have c1 : cutD (iD out) none (some (a : Int)) = iD (out.take a) := by rw [cutD_to, ← List.map_take]
      have c2 : cutD (iD out) (some (a : Int)) none = iD (out.drop a) := by rw [cutD_from, ← List.map_drop]
      have l1 : (out.take a).length ≤ 20000 := by rw [List.length_take]; omega
      have l2 : (out.drop a).length ≤ 20000 := by rw [List.length_drop]; omega
      have hlen : (out.take a ++ [j] ++ out.drop a).length = codes.length + (i + 1) := by
        rw [List.length_append, List.length_append, List.length_take, List.length_drop, List.length_singleton]
        omega
      have hff := fun p hp => strew1 p hp (hf p hp) a j hkj
      have hmm : ∀ x ∈ out.take a ++ [j] ++ out.drop a, x ∈ codes ∨ x ∈ junk := fun x hx => by
        rcases List.mem_append.mp hx with hx | hx
        · rcases List.mem_append.mp hx with hx | hx
          · exact hm x (List.mem_of_mem_take hx)
          · rw [List.mem_singleton.mp hx]; exact .inr hkj
        · exact hm x (List.mem_of_mem_drop hx)
      have hin : j ∈ out.take a ++ [j] ++ out.drop a := by simp
      have key : (Nx (w12_1.den G12 [.io zs, .sh c, .sh (.lst (iD junk)), .ow (iD out), .sh d, .un])) fun F2 => killD F2 [4, 5] = [.io ws, .sh c, .sh (.lst (iD junk)), .ow (iD (out.take a ++ [j] ++ out.drop a)), .un, .un] := by
        have l3 : (out.take a).length + 1 ≤ 16777216 := by omega
        have l4 : (out.take a).length + 1 + (out.drop a).length ≤ 16777216 := by omega
        generalize out.take a = A at *
        generalize out.drop a = Bb at *
        simp -dsimp [w12_1, line_eq, Ss.den, S.den, X.den, Xs.denL, Xs.denS, Xs.denB, Xs.denP, Xo.den, As.den, T.den, Ts.denB, Ts.denA, It.den, putM, appM, extM, augM, shM, share, ownAt, Sl.own, Sl.put, putR, appR, extR, own1, ixN, varM, idxR, slcR, negR, notR, view, bop, addR, subR, mulR, fdivR, modR, powR, bltR, lenR, intR, ordR, tupleR, listR, cop, copR, cmpI, isNone, ↓bind_L, bindL_ok, bindL_ex, bindL_bad, ↓thn_L, thnL_ok, thnL_ex, thnL_bad, ↓seq_L, seqL_next, seqL_brk, seqL_cnt, seqL_ret, seqL_ex, seqL_bad, asgR, notIo, okS, ↓ofO_L, ofOL_some, ofOL_none, fnEnd, ioB, callR_E, callE, toSlots, backSlots, owns, parSet, pickR, setT, setL, killL, killD, kill1, restore, plainSlot, seqD, itemsD, isiR, isiD, g1, g2, e3, e4, c1, c2, l3, l4, Nx]
      exact key.mono fun F2 z => ⟨_, ws, z, hlen, hff, hmm, .inr ⟨j, hkj, hin⟩, by rw [show B + 1 + 2 * (i + 1) = B + 1 + 2 * i + 1 + 1 by omega]; exact hz⟩
  rw [List.length_map, List.length_range] at hl2 hz hx
  refine ⟨out, zs, ?_, ⟨hf, hm, ?_, by omega, by omega⟩, hz.mono (by omega)⟩
  · generalize (List.range q).map (fun (i : Nat) => D.int (i : Int)) = ds at er e2
    rcases hc with rfl | rfl <;> simp -dsimp [f12, fnOf, b12, line_eq, Ss.den, S.den, X.den, Xs.denL, Xs.denS, Xs.denB, Xs.denP, Xo.den, As.den, T.den, Ts.denB, Ts.denA, It.den, putM, appM, extM, augM, shM, share, ownAt, Sl.own, Sl.put, putR, appR, extR, own1, ixN, varM, idxR, slcR, negR, notR, view, bop, addR, subR, mulR, fdivR, modR, powR, bltR, lenR, intR, ordR, tupleR, listR, cop, copR, cmpI, isNone, ↓bind_L, bindL_ok, bindL_ex, bindL_bad, ↓thn_L, thnL_ok, thnL_ex, thnL_bad, ↓seq_L, seqL_next, seqL_brk, seqL_cnt, seqL_ret, seqL_ex, seqL_bad, asgR, notIo, okS, ↓ofO_L, ofOL_some, ofOL_none, fnEnd, ioB, callR_E, callE, toSlots, backSlots, owns, parSet, pickR, setT, setL, killL, killD, kill1, restore, plainSlot, seqD, itemsD, isiR, isiD, g1, e1, er, e2]
  · rcases hx with hx | hx
    · exact .inl (by omega)
    · exact .inr hx
end Lw

end
section
set_option Elab.async false
set_option linter.all false
set_option maxRecDepth 100000
set_option maxHeartbeats 1000000
namespace Lw
open PySem PySem.Spec PyProof.Rows L2 Z
theorem R10_same : ∀ n, SameOk n (R10 n)
  | 0 => ⟨fun _ => .bad, by kernel_rfl, fun d h => h.elim⟩
  | n + 1 => ⟨fnOf (R10 n) 2 4 b10, by show (Tb.add _ _ _).fn _ = _; simp [Tb.add], fun d h => same_ok (R10_same n) d h⟩
theorem f10_ok (d : D) (h : Good 6 d) : f10 [.sh d, .sh d] = .ok (.sh (.bl true)) [.un, .un] := by
  exact same_ok (R10_same 5) d h
def GoodS (ds : List Str) : Prop := ds.length ≤ 10 ∧ ∀ s ∈ ds, PyData.canLay0 (.str s) = true
theorem good_res (bs : List Int) (ds : List Str) (h : bs.length ≤ 16777216) (g : GoodS ds) : Good 6 (resD (bs, ds)) := ⟨by simp, fun d hd => by
  simp only [List.mem_cons, List.not_mem_nil, or_false] at hd
  rcases hd with rfl | rfl
  · exact ⟨by simpa using h, fun d hd => by
      obtain ⟨i, _, rfl⟩ := List.mem_map.mp hd
      trivial⟩
  · exact ⟨by have := g.1; simp; omega, fun d hd => by
      obtain ⟨s, hs, rfl⟩ := List.mem_map.mp hd
      exact g.2 s hs⟩⟩
theorem G13_read : G13.fn "base64_read" = some f6 := by kernel_rfl
theorem G13_same : G13.fn "_law_same" = some f10 := by kernel_rfl
theorem f13_ok (src bs : List Int) (ds : List Str) (c d : D) (hc : c = .lst (iD src) ∨ c = .tup (iD src)) (hd : d = .lst (iD bs) ∨ d = .tup (iD bs)) (hl : src.length ≤ 90000) (hb : bs.length ≤ 16777216) (g : GoodS ds) (h : read64 src = (bs, ds)) :
    f13 [.sh c, .sh d, .sh (.lst (ds.map .str))] = .ok (.sh (.bl true)) [.un, .un, .un] := by
  have e1 := f6_ok src c hc hl
  have e2 := f10_ok (resD (bs, ds)) (good_res bs ds hb g)
  rw [h] at e1
  have g1 := G13_read
  have g2 := G13_same
  unfold resD at e1 e2
  simp only [] at e1 e2
  rcases hd with rfl | rfl <;> simp -dsimp [f13, fnOf, b13, line_eq, Ss.den, S.den, X.den, Xs.denL, Xs.denS, Xs.denB, Xs.denP, Xo.den, As.den, T.den, Ts.denB, Ts.denA, It.den, putM, appM, extM, augM, shM, share, ownAt, Sl.own, Sl.put, putR, appR, extR, own1, ixN, varM, idxR, slcR, negR, notR, view, bop, addR, subR, mulR, fdivR, modR, powR, bltR, lenR, intR, ordR, tupleR, listR, cop, copR, cmpI, isNone, ↓bind_L, bindL_ok, bindL_ex, bindL_bad, ↓thn_L, thnL_ok, thnL_ex, thnL_bad, ↓seq_L, seqL_next, seqL_brk, seqL_cnt, seqL_ret, seqL_ex, seqL_bad, asgR, notIo, okS, ↓ofO_L, ofOL_some, ofOL_none, fnEnd, ioB, callR_E, callE, toSlots, backSlots, owns, parSet, pickR, setT, setL, killL, killD, kill1, restore, plainSlot, seqD, itemsD, isiR, isiD, g1, g2, e1, e2]
theorem goodN : GoodS [] := ⟨by simp, fun _ h => (nomatch h)⟩
theorem goodP : GoodS ["base64 padding"] := ⟨by simp, fun s h => by rw [List.mem_singleton.mp h]; decide +kernel⟩
theorem goodC : GoodS ["base64 characters"] := ⟨by simp, fun s h => by rw [List.mem_singleton.mp h]; decide +kernel⟩
theorem goodCP : GoodS ["base64 characters", "base64 padding"] := ⟨by simp, fun s h => by
  simp only [List.mem_cons, List.not_mem_nil, or_false] at h
  rcases h with rfl | rfl <;> decide +kernel⟩
def junkL : List Int := [32, 33, 45, 46, 95, 128]
theorem junk_ok : ∀ j ∈ junkL, isS j = false ∧ notEnd j = true ∧ j ≠ 61 := by decide
theorem G14_draw : G14.fn "_law_draw" = some f8 := by kernel_rfl
theorem G14_right : G14.fn "_law_read_right" = some f13 := by kernel_rfl
theorem G14_strewn : G14.fn "_law_strewn" = some f12 := by kernel_rfl
theorem rep1 (n : Nat) (a : D) : (List.replicate n [a]).flatten = List.replicate n a := by
  induction n with
  | zero => rfl
  | succ n ih => rw [List.replicate_succ, List.flatten_cons, ih]; rfl
theorem repD (n : Nat) : List.replicate n (D.int 61) = iD (r61 n) := by
  unfold r61
  rw [iD, List.map_replicate]
theorem odd_ok (bs odd : List Int) (hs : Strewn junkL (sg bs) odd) : odd.filter isS = sg bs ∧ odd.filter notEnd = odd ∧ (∀ x ∈ odd, x ≠ 61) ∧ (odd.length = (sg bs).length ∨ ∃ x ∈ odd, isS x = false) := by
  obtain ⟨h1, h2, h3, -, -⟩ := hs
  refine ⟨by rw [h1 isS fun j hj => (junk_ok j hj).1, sg_fil], fil_all fun x hx => ?_, fun x hx => ?_, ?_⟩
  · rcases h2 x hx with h | h
    · exact (sg_sign bs x h).2.2
    · exact (junk_ok x h).2.1
  · rcases h2 x hx with h | h
    · exact (sg_sign bs x h).2.1
    · exact (junk_ok x h).2.2
  · rcases h3 with h | ⟨j, hj, h⟩
    · exact .inl h
    · exact .inr ⟨j, h, (junk_ok j hj).1⟩
/-- with one more ahead where there is none -/
def oddx (bs odd : List Int) : List Int := if odd.length = (sg bs).length then 33 :: odd else odd
theorem oddx_ok (bs odd : List Int) (hs : Strewn junkL (sg bs) odd) : (oddx bs odd).filter isS = sg bs ∧ (oddx bs odd).filter notEnd = oddx bs odd ∧ (∀ x ∈ oddx bs odd, x ≠ 61) ∧ (∃ x ∈ oddx bs odd, isS x = false) ∧ (oddx bs odd).length ≤ odd.length + 1 := by
  obtain ⟨h1, h2, h3, h4⟩ := odd_ok bs odd hs
  unfold oddx
  by_cases h : odd.length = (sg bs).length
  · rw [if_pos h]
    refine ⟨by rw [List.filter_cons_of_neg (by decide)]; exact h1, by rw [List.filter_cons_of_pos (by decide), h2], fun x hx => ?_, ⟨33, by simp, by decide⟩, by simp⟩
    rcases List.mem_cons.mp hx with rfl | hx
    · decide
    · exact h3 x hx
  · rw [if_neg h]
    refine ⟨h1, h2, h3, ?_, by omega⟩
    rcases h4 with h4 | h4
    · exact absurd h4 h
    · exact h4
end Lw

end
section
set_option Elab.async false
set_option linter.all false
set_option maxRecDepth 100000
set_option maxHeartbeats 1000000
namespace Lw
open PySem PySem.Spec PyProof.Rows L2 Z
theorem f13_a (G bs : List Int) (j : Nat) (ds : List Str) (hl : G.length + j ≤ 90000) (hb : bs.length ≤ 16777216) (g : GoodS ds) (h : read64 (G ++ r61 j) = (bs, ds)) :
    f13 [.sh (.lst (iD G ++ iD (r61 j))), .sh (.lst (iD bs)), .sh (.lst (ds.map .str))] = .ok (.sh (.bl true)) [.un, .un, .un] := by
  rw [map_app]
  exact f13_ok _ bs ds _ _ (.inl rfl) (.inl rfl) (by rw [List.length_append, r61_len]; omega) hb g h
theorem bare_lc (bs SS : List Int) (s0 : Sl) (hS : SS.filter (fun c => !decide (c = 61)) = sg bs) (hl : SS.length ≤ 90000) :
    lcLoop [7] (.name 7) (ts14_1.denA G14) (x14_1.den G14) (iD SS) [] [s0, .sh (.lst (iD bs)), .sh (.lst (iD SS)), .un, .un, .un, .un, .un] = .ok (iD (sg bs)) [s0, .sh (.lst (iD bs)), .sh (.lst (iD SS)), .un, .un, .un, .un, .un] := by
  rw [← hS]
  refine lc_int (fun c => !decide (c = 61)) SS (fun x _ => ?_) (by omega)
  refine ⟨[s0, .sh (.lst (iD bs)), .sh (.lst (iD SS)), .un, .un, .un, .un, .sh (.int x)], [s0, .sh (.lst (iD bs)), .sh (.lst (iD SS)), .un, .un, .un, .un, .sh (.int x)], by simp -dsimp [line_eq, Ss.den, S.den, X.den, Xs.denL, Xs.denS, Xs.denB, Xs.denP, Xo.den, As.den, T.den, Ts.denB, Ts.denA, It.den, putM, appM, extM, augM, shM, share, ownAt, Sl.own, Sl.put, putR, appR, extR, own1, ixN, varM, idxR, slcR, negR, notR, view, bop, addR, subR, mulR, fdivR, modR, powR, bltR, lenR, intR, ordR, tupleR, listR, cop, copR, cmpI, isNone, ↓bind_L, bindL_ok, bindL_ex, bindL_bad, ↓thn_L, thnL_ok, thnL_ex, thnL_bad, ↓seq_L, seqL_next, seqL_brk, seqL_cnt, seqL_ret, seqL_ex, seqL_bad, asgR, notIo, okS, ↓ofO_L, ofOL_some, ofOL_none, fnEnd, ioB, callR_E, callE, toSlots, backSlots, owns, parSet, pickR, setT, setL, killL, killD, kill1, restore, plainSlot, seqD, itemsD, isiR, isiD], ?_, fun _ => by simp -dsimp [line_eq, Ss.den, S.den, X.den, Xs.denL, Xs.denS, Xs.denB, Xs.denP, Xo.den, As.den, T.den, Ts.denB, Ts.denA, It.den, putM, appM, extM, augM, shM, share, ownAt, Sl.own, Sl.put, putR, appR, extR, own1, ixN, varM, idxR, slcR, negR, notR, view, bop, addR, subR, mulR, fdivR, modR, powR, bltR, lenR, intR, ordR, tupleR, listR, cop, copR, cmpI, isNone, ↓bind_L, bindL_ok, bindL_ex, bindL_bad, ↓thn_L, thnL_ok, thnL_ex, thnL_bad, ↓seq_L, seqL_next, seqL_brk, seqL_cnt, seqL_ret, seqL_ex, seqL_bad, asgR, notIo, okS, ↓ofO_L, ofOL_some, ofOL_none, fnEnd, ioB, callR_E, callE, toSlots, backSlots, owns, parSet, pickR, setT, setL, killL, killD, kill1, restore, plainSlot, seqD, itemsD, isiR, isiD], fun _ => ⟨[s0, .sh (.lst (iD bs)), .sh (.lst (iD SS)), .un, .un, .un, .un, .sh (.int x)], by simp -dsimp [x14_1, line_eq, Ss.den, S.den, X.den, Xs.denL, Xs.denS, Xs.denB, Xs.denP, Xo.den, As.den, T.den, Ts.denB, Ts.denA, It.den, putM, appM, extM, augM, shM, share, ownAt, Sl.own, Sl.put, putR, appR, extR, own1, ixN, varM, idxR, slcR, negR, notR, view, bop, addR, subR, mulR, fdivR, modR, powR, bltR, lenR, intR, ordR, tupleR, listR, cop, copR, cmpI, isNone, ↓bind_L, bindL_ok, bindL_ex, bindL_bad, ↓thn_L, thnL_ok, thnL_ex, thnL_bad, ↓seq_L, seqL_next, seqL_brk, seqL_cnt, seqL_ret, seqL_ex, seqL_bad, asgR, notIo, okS, ↓ofO_L, ofOL_some, ofOL_none, fnEnd, ioB, callR_E, callE, toSlots, backSlots, owns, parSet, pickR, setT, setL, killL, killD, kill1, restore, plainSlot, seqD, itemsD, isiR, isiD], by simp -dsimp [line_eq, Ss.den, S.den, X.den, Xs.denL, Xs.denS, Xs.denB, Xs.denP, Xo.den, As.den, T.den, Ts.denB, Ts.denA, It.den, putM, appM, extM, augM, shM, share, ownAt, Sl.own, Sl.put, putR, appR, extR, own1, ixN, varM, idxR, slcR, negR, notR, view, bop, addR, subR, mulR, fdivR, modR, powR, bltR, lenR, intR, ordR, tupleR, listR, cop, copR, cmpI, isNone, ↓bind_L, bindL_ok, bindL_ex, bindL_bad, ↓thn_L, thnL_ok, thnL_ex, thnL_bad, ↓seq_L, seqL_next, seqL_brk, seqL_cnt, seqL_ret, seqL_ex, seqL_bad, asgR, notIo, okS, ↓ofO_L, ofOL_some, ofOL_none, fnEnd, ioB, callR_E, callE, toSlots, backSlots, owns, parSet, pickR, setT, setL, killL, killD, kill1, restore, plainSlot, seqD, itemsD, isiR, isiD]⟩⟩
  by_cases hx : x = 61
  · simp -dsimp [ts14_1, line_eq, Ss.den, S.den, X.den, Xs.denL, Xs.denS, Xs.denB, Xs.denP, Xo.den, As.den, T.den, Ts.denB, Ts.denA, It.den, putM, appM, extM, augM, shM, share, ownAt, Sl.own, Sl.put, putR, appR, extR, own1, ixN, varM, idxR, slcR, negR, notR, view, bop, addR, subR, mulR, fdivR, modR, powR, bltR, lenR, intR, ordR, tupleR, listR, cop, copR, cmpI, isNone, ↓bind_L, bindL_ok, bindL_ex, bindL_bad, ↓thn_L, thnL_ok, thnL_ex, thnL_bad, ↓seq_L, seqL_next, seqL_brk, seqL_cnt, seqL_ret, seqL_ex, seqL_bad, asgR, notIo, okS, ↓ofO_L, ofOL_some, ofOL_none, fnEnd, ioB, callR_E, callE, toSlots, backSlots, owns, parSet, pickR, setT, setL, killL, killD, kill1, restore, plainSlot, seqD, itemsD, isiR, isiD, eqR, neR, pyR, D.py, D.pyL, SeqAt.shaped, PyData.canLay0, PyData.canLayAll0, PyData.depth, PyData.depthAll, PyData.eqv, PyData.eqvAll, Z.inR, Z.inF, Z.inG, Z.ninR, D.flat, hx]
  · simp -dsimp [ts14_1, line_eq, Ss.den, S.den, X.den, Xs.denL, Xs.denS, Xs.denB, Xs.denP, Xo.den, As.den, T.den, Ts.denB, Ts.denA, It.den, putM, appM, extM, augM, shM, share, ownAt, Sl.own, Sl.put, putR, appR, extR, own1, ixN, varM, idxR, slcR, negR, notR, view, bop, addR, subR, mulR, fdivR, modR, powR, bltR, lenR, intR, ordR, tupleR, listR, cop, copR, cmpI, isNone, ↓bind_L, bindL_ok, bindL_ex, bindL_bad, ↓thn_L, thnL_ok, thnL_ex, thnL_bad, ↓seq_L, seqL_next, seqL_brk, seqL_cnt, seqL_ret, seqL_ex, seqL_bad, asgR, notIo, okS, ↓ofO_L, ofOL_some, ofOL_none, fnEnd, ioB, callR_E, callE, toSlots, backSlots, owns, parSet, pickR, setT, setL, killL, killD, kill1, restore, plainSlot, seqD, itemsD, isiR, isiD, eqR, neR, pyR, D.py, D.pyL, SeqAt.shaped, PyData.canLay0, PyData.canLayAll0, PyData.depth, PyData.depthAll, PyData.eqv, PyData.eqvAll, Z.inR, Z.inF, Z.inG, Z.ninR, D.flat, hx]
theorem f13_N (G bs : List Int) (j : Nat) (hl : G.length + j ≤ 90000) (hb : bs.length ≤ 16777216) (h : read64 (G ++ r61 j) = (bs, [])) : f13 [.sh (.lst (iD G ++ iD (r61 j))), .sh (.lst (iD bs)), .sh (.lst [])] = .ok (.sh (.bl true)) [.un, .un, .un] := by
  have := f13_a G bs j [] hl hb goodN h
  simpa only [List.map_nil] using this
theorem f13_P (G bs : List Int) (j : Nat) (hl : G.length + j ≤ 90000) (hb : bs.length ≤ 16777216) (h : read64 (G ++ r61 j) = (bs, (["base64 padding"] : List Str))) : f13 [.sh (.lst (iD G ++ iD (r61 j))), .sh (.lst (iD bs)), .sh (.lst [.str "base64 padding"])] = .ok (.sh (.bl true)) [.un, .un, .un] := by
  have := f13_a G bs j ["base64 padding"] hl hb goodP h
  simpa only [List.map_cons, List.map_nil] using this
theorem f13_C (G bs : List Int) (j : Nat) (hl : G.length + j ≤ 90000) (hb : bs.length ≤ 16777216) (h : read64 (G ++ r61 j) = (bs, (["base64 characters"] : List Str))) : f13 [.sh (.lst (iD G ++ iD (r61 j))), .sh (.lst (iD bs)), .sh (.lst [.str "base64 characters"])] = .ok (.sh (.bl true)) [.un, .un, .un] := by
  have := f13_a G bs j ["base64 characters"] hl hb goodC h
  simpa only [List.map_cons, List.map_nil] using this
theorem f13_D (G bs : List Int) (j : Nat) (hl : G.length + j ≤ 90000) (hb : bs.length ≤ 16777216) (h : read64 (G ++ r61 j) = (bs, (["base64 characters", "base64 padding"] : List Str))) : f13 [.sh (.lst (iD G ++ iD (r61 j))), .sh (.lst (iD bs)), .sh (.lst [.str "base64 characters", .str "base64 padding"])] = .ok (.sh (.bl true)) [.un, .un, .un] := by
  have := f13_a G bs j ["base64 characters", "base64 padding"] hl hb goodCP h
  simpa only [List.map_cons, List.map_nil] using this
theorem b64_bare (bs : List Int) : (b64 bs).filter (fun c => !decide (c = 61)) = sg bs := by
  rw [b64_sg, List.filter_append, r61_none _ _ (by decide), List.append_nil]
  exact fil_all fun x hx => by rw [decide_eq_false (sg_sign bs x hx).2.1]; rfl
theorem f14_ok (B : Nat) (xs : List D) (h : SrcP B xs) (hB : B < 800000) (bs : List Int) (hb : Bytes bs) (hl : bs.length ≤ 1000) :
    ∃ ys, f14 [.io xs, .sh (.lst (iD bs)), .sh (.lst (iD (b64 bs)))] = .ok (.sh (.bl true)) [.io ys, .un, .un] ∧ SrcP (B + 13) ys := by
  have hbl := b64_len bs
  have e1 := fun s0 => bare_lc bs (b64 bs) s0 (b64_bare bs) (by omega)
  have hS : (b64 bs).length = (sg bs).length + pd bs.length := by rw [b64_sg, List.length_append, r61_len]
  have hG := sg_len bs
  have hp := pd_le bs.length
  obtain ⟨v, x2, e2, p1, p2, h⟩ := draw8 h (by omega) (n := ((b64 bs).length : Int) - ((sg bs).length : Int) + 1) (by omega) (by omega)
  obtain ⟨j, rfl⟩ : ∃ q : Nat, v = (q : Int) := ⟨v.toNat, by omega⟩
  have hj : j ≤ pd bs.length := by omega
  obtain ⟨odd, x3, e4, hs, h⟩ := f12_ok _ x2 h (by omega) (sg bs) junkL (.lst (iD (sg bs))) (.inl rfl) (by omega) (by decide) (by decide)
  have e4 : f12 [.io x2, .sh (.lst (iD (sg bs))), .sh (.lst [.int 32, .int 33, .int 45, .int 46, .int 95, .int 128])] = .ok (.fr (iD odd)) [.io x3, .un, .un] := e4
  have hol := hs.2.2.2.2
  have hox := oddx_ok bs odd hs
  have r1 := read_fill bs (sg bs ++ r61 j) hb j hj (by rw [List.filter_append, sg_not, r61_all notEnd j (by decide)])
  have e3 : f13 [.sh (.lst (iD (sg bs) ++ iD (r61 j))), .sh (.lst (iD bs)), .sh (.lst (if j < pd bs.length then [.str "base64 padding"] else []))] = .ok (.sh (.bl true)) [.un, .un, .un] := by
    by_cases z : j < pd bs.length
    · rw [if_pos z] at r1 ⊢
      exact f13_P _ bs j (by omega) (by omega) r1
    · rw [if_neg z] at r1 ⊢
      exact f13_N _ bs j (by omega) (by omega) r1
  have rr := fun m hm => read_odd bs (oddx bs odd) hb m hm hox.1 hox.2.1 hox.2.2.1 hox.2.2.2.1
  have hxl := hox.2.2.2.2
  have g1 := G14_draw
  have g2 := G14_right
  have g3 := G14_strewn
  have lj := r61_len j
  have tj := rep61 j
  have z1 : -9223372036854775808 ≤ (j : Int) ∧ (j : Int) < 9223372036854775808 := by omega
  have z2 : j ≤ 16777216 := by omega
  have z3 : (sg bs).length + j ≤ 16777216 := by omega
  have z4 : 1 + odd.length ≤ 16777216 := by omega
  have z4' : odd.length + 1 ≤ 16777216 := by omega
  have q2 : ∀ F, eqR (.sh (.int (odd.length : Int))) (.sh (.int ((sg bs).length : Int))) F = some (decide (odd.length = (sg bs).length)) := fun F => by
    rw [eqI]
    by_cases z : odd.length = (sg bs).length
    · rw [decide_eq_true z, decide_eq_true (by omega)]
    · rw [decide_eq_false z, decide_eq_false (by omega)]
  have hodd : ∀ (F : Fm), True := fun _ => trivial
  by_cases hj2 : j < pd bs.length
  all_goals
    first
    | rw [if_pos hj2] at e3
    | rw [if_neg hj2] at e3
  all_goals
    have w1 : ((sg bs).length : Int) + (j : Int) < ((b64 bs).length : Int) ↔ j < pd bs.length := by omega
    simp only [hj2, iff_true, iff_false] at w1
  all_goals
    by_cases k1 : pd bs.length = 0
    · have q3 : ∀ F, eqR (.sh (.int (((sg bs).length : Int) % 4))) (.sh (.int 0)) F = some true := fun F => by rw [eqI, decide_eq_true (by omega)]
      have r2 := rr 0 (by omega)
      rw [if_neg (by omega)] at r2
      have e5 : f13 [.sh (.lst (iD (oddx bs odd))), .sh (.lst (iD bs)), .sh (.lst [.str "base64 characters"])] = .ok (.sh (.bl true)) [.un, .un, .un] := by
        have := f13_C (oddx bs odd) bs 0 (by omega) (by omega) r2
        simpa [r61] using this
      refine ⟨x3, ?_, h.mono (by omega)⟩
      by_cases k2 : odd.length = (sg bs).length
      · rw [oddx, if_pos k2] at e5
        rw [decide_eq_true k2] at q2
        simp at e5
        simp -dsimp [f14, fnOf, b14, line_eq, Ss.den, S.den, X.den, Xs.denL, Xs.denS, Xs.denB, Xs.denP, Xo.den, As.den, T.den, Ts.denB, Ts.denA, It.den, putM, appM, extM, augM, shM, share, ownAt, Sl.own, Sl.put, putR, appR, extR, own1, ixN, varM, idxR, slcR, negR, notR, view, bop, addR, subR, mulR, fdivR, modR, powR, bltR, lenR, intR, ordR, tupleR, listR, cop, copR, cmpI, isNone, ↓bind_L, bindL_ok, bindL_ex, bindL_bad, ↓thn_L, thnL_ok, thnL_ex, thnL_bad, ↓seq_L, seqL_next, seqL_brk, seqL_cnt, seqL_ret, seqL_ex, seqL_bad, asgR, notIo, okS, ↓ofO_L, ofOL_some, ofOL_none, fnEnd, ioB, callR_E, callE, toSlots, backSlots, owns, parSet, pickR, setT, setL, killL, killD, kill1, restore, plainSlot, seqD, itemsD, isiR, isiD, g1, g2, g3, e1, e2, e3, e4, e5, lj, tj, z1, z2, z3, z4, z4', q2, q3, w1, mulOk_eq]
      · rw [oddx, if_neg k2] at e5
        rw [decide_eq_false k2] at q2
        simp -dsimp [f14, fnOf, b14, line_eq, Ss.den, S.den, X.den, Xs.denL, Xs.denS, Xs.denB, Xs.denP, Xo.den, As.den, T.den, Ts.denB, Ts.denA, It.den, putM, appM, extM, augM, shM, share, ownAt, Sl.own, Sl.put, putR, appR, extR, own1, ixN, varM, idxR, slcR, negR, notR, view, bop, addR, subR, mulR, fdivR, modR, powR, bltR, lenR, intR, ordR, tupleR, listR, cop, copR, cmpI, isNone, ↓bind_L, bindL_ok, bindL_ex, bindL_bad, ↓thn_L, thnL_ok, thnL_ex, thnL_bad, ↓seq_L, seqL_next, seqL_brk, seqL_cnt, seqL_ret, seqL_ex, seqL_bad, asgR, notIo, okS, ↓ofO_L, ofOL_some, ofOL_none, fnEnd, ioB, callR_E, callE, toSlots, backSlots, owns, parSet, pickR, setT, setL, killL, killD, kill1, restore, plainSlot, seqD, itemsD, isiR, isiD, g1, g2, g3, e1, e2, e3, e4, e5, lj, tj, z1, z2, z3, z4, z4', q2, q3, w1, mulOk_eq]
    · have q3 : ∀ F, eqR (.sh (.int (((sg bs).length : Int) % 4))) (.sh (.int 0)) F = some false := fun F => by rw [eqI, decide_eq_false (by omega)]
      obtain ⟨u, x4, e6, p3, p4, h⟩ := draw8 h (by omega) (n := 2) (by omega) (by omega)
      have hu : u = 0 ∨ u = 1 := by omega
      obtain ⟨m, hm, hm2⟩ : ∃ m : Nat, ((b64 bs).length : Int) - ((sg bs).length : Int) - u = (m : Int) ∧ m ≤ pd bs.length := ⟨(((b64 bs).length : Int) - ((sg bs).length : Int) - u).toNat, by omega, by omega⟩
      have r2 := rr m hm2
      have lm := r61_len m
      have tm := rep61 m
      have y1 : -9223372036854775808 ≤ (m : Int) ∧ (m : Int) < 9223372036854775808 := by omega
      have y2 : m ≤ 16777216 := by omega
      have y3 : odd.length + m ≤ 16777216 := by omega
      have y4 : odd.length + 1 + m ≤ 16777216 := by omega
      refine ⟨x4, ?_, h.mono (by omega)⟩
      rcases hu with rfl | rfl
      · rw [if_neg (by omega)] at r2
        have e5 := f13_C (oddx bs odd) bs m (by omega) (by omega) r2
        by_cases k2 : odd.length = (sg bs).length
        · rw [oddx, if_pos k2] at e5
          rw [decide_eq_true k2] at q2
          try simp at e5
          try simp at hm
          try simp only [hm] at e2
          simp -dsimp [f14, fnOf, b14, line_eq, Ss.den, S.den, X.den, Xs.denL, Xs.denS, Xs.denB, Xs.denP, Xo.den, As.den, T.den, Ts.denB, Ts.denA, It.den, putM, appM, extM, augM, shM, share, ownAt, Sl.own, Sl.put, putR, appR, extR, own1, ixN, varM, idxR, slcR, negR, notR, view, bop, addR, subR, mulR, fdivR, modR, powR, bltR, lenR, intR, ordR, tupleR, listR, cop, copR, cmpI, isNone, ↓bind_L, bindL_ok, bindL_ex, bindL_bad, ↓thn_L, thnL_ok, thnL_ex, thnL_bad, ↓seq_L, seqL_next, seqL_brk, seqL_cnt, seqL_ret, seqL_ex, seqL_bad, asgR, notIo, okS, ↓ofO_L, ofOL_some, ofOL_none, fnEnd, ioB, callR_E, callE, toSlots, backSlots, owns, parSet, pickR, setT, setL, killL, killD, kill1, restore, plainSlot, seqD, itemsD, isiR, isiD, g1, g2, g3, e1, e2, e3, e4, e5, e6, hm, lm, tm, y1, y2, y3, y4, lj, tj, z1, z2, z3, z4, z4', q2, q3, w1, mulOk_eq]
        · rw [oddx, if_neg k2] at e5
          rw [decide_eq_false k2] at q2
          try simp at e5
          try simp at hm
          try simp only [hm] at e2
          simp -dsimp [f14, fnOf, b14, line_eq, Ss.den, S.den, X.den, Xs.denL, Xs.denS, Xs.denB, Xs.denP, Xo.den, As.den, T.den, Ts.denB, Ts.denA, It.den, putM, appM, extM, augM, shM, share, ownAt, Sl.own, Sl.put, putR, appR, extR, own1, ixN, varM, idxR, slcR, negR, notR, view, bop, addR, subR, mulR, fdivR, modR, powR, bltR, lenR, intR, ordR, tupleR, listR, cop, copR, cmpI, isNone, ↓bind_L, bindL_ok, bindL_ex, bindL_bad, ↓thn_L, thnL_ok, thnL_ex, thnL_bad, ↓seq_L, seqL_next, seqL_brk, seqL_cnt, seqL_ret, seqL_ex, seqL_bad, asgR, notIo, okS, ↓ofO_L, ofOL_some, ofOL_none, fnEnd, ioB, callR_E, callE, toSlots, backSlots, owns, parSet, pickR, setT, setL, killL, killD, kill1, restore, plainSlot, seqD, itemsD, isiR, isiD, g1, g2, g3, e1, e2, e3, e4, e5, e6, hm, lm, tm, y1, y2, y3, y4, lj, tj, z1, z2, z3, z4, z4', q2, q3, w1, mulOk_eq]
      · rw [if_pos (by omega)] at r2
        have e5 := f13_D (oddx bs odd) bs m (by omega) (by omega) r2
        by_cases k2 : odd.length = (sg bs).length
        · rw [oddx, if_pos k2] at e5
          rw [decide_eq_true k2] at q2
          try simp at e5
          try simp at hm
          try simp only [hm] at e2
          simp -dsimp [f14, fnOf, b14, line_eq, Ss.den, S.den, X.den, Xs.denL, Xs.denS, Xs.denB, Xs.denP, Xo.den, As.den, T.den, Ts.denB, Ts.denA, It.den, putM, appM, extM, augM, shM, share, ownAt, Sl.own, Sl.put, putR, appR, extR, own1, ixN, varM, idxR, slcR, negR, notR, view, bop, addR, subR, mulR, fdivR, modR, powR, bltR, lenR, intR, ordR, tupleR, listR, cop, copR, cmpI, isNone, ↓bind_L, bindL_ok, bindL_ex, bindL_bad, ↓thn_L, thnL_ok, thnL_ex, thnL_bad, ↓seq_L, seqL_next, seqL_brk, seqL_cnt, seqL_ret, seqL_ex, seqL_bad, asgR, notIo, okS, ↓ofO_L, ofOL_some, ofOL_none, fnEnd, ioB, callR_E, callE, toSlots, backSlots, owns, parSet, pickR, setT, setL, killL, killD, kill1, restore, plainSlot, seqD, itemsD, isiR, isiD, g1, g2, g3, e1, e2, e3, e4, e5, e6, hm, lm, tm, y1, y2, y3, y4, lj, tj, z1, z2, z3, z4, z4', q2, q3, w1, mulOk_eq]
        · rw [oddx, if_neg k2] at e5
          rw [decide_eq_false k2] at q2
          try simp at e5
          try simp at hm
          try simp only [hm] at e2
          simp -dsimp [f14, fnOf, b14, line_eq, Ss.den, S.den, X.den, Xs.denL, Xs.denS, Xs.denB, Xs.denP, Xo.den, As.den, T.den, Ts.denB, Ts.denA, It.den, putM, appM, extM, augM, shM, share, ownAt, Sl.own, Sl.put, putR, appR, extR, own1, ixN, varM, idxR, slcR, negR, notR, view, bop, addR, subR, mulR, fdivR, modR, powR, bltR, lenR, intR, ordR, tupleR, listR, cop, copR, cmpI, isNone, ↓bind_L, bindL_ok, bindL_ex, bindL_bad, ↓thn_L, thnL_ok, thnL_ex, thnL_bad, ↓seq_L, seqL_next, seqL_brk, seqL_cnt, seqL_ret, seqL_ex, seqL_bad, asgR, notIo, okS, ↓ofO_L, ofOL_some, ofOL_none, fnEnd, ioB, callR_E, callE, toSlots, backSlots, owns, parSet, pickR, setT, setL, killL, killD, kill1, restore, plainSlot, seqD, itemsD, isiR, isiD, g1, g2, g3, e1, e2, e3, e4, e5, e6, hm, lm, tm, y1, y2, y3, y4, lj, tj, z1, z2, z3, z4, z4', q2, q3, w1, mulOk_eq]
end Lw

end
section
set_option Elab.async false
set_option linter.all false
set_option maxRecDepth 100000
set_option maxHeartbeats 2000000
namespace Lw
open PySem PySem.Spec PyProof.Rows L2 Z
theorem G15_text : G15.fn "base64_text" = some f0 := by kernel_rfl
theorem G15_lines : G15.fn "base64_lines" = some f1 := by kernel_rfl
theorem G15_read : G15.fn "base64_read" = some f6 := by kernel_rfl
theorem G15_source : G15.fn "_law_source" = some f7 := by kernel_rfl
theorem G15_draw : G15.fn "_law_draw" = some f8 := by kernel_rfl
theorem G15_same : G15.fn "_law_same" = some f10 := by kernel_rfl
theorem G15_bytes : G15.fn "_law_bytes" = some f11 := by kernel_rfl
theorem G15_strewn : G15.fn "_law_strewn" = some f12 := by kernel_rfl
theorem G15_right : G15.fn "_law_read_right" = some f13 := by kernel_rfl
theorem G15_spoilt : G15.fn "_law_spoilt_right" = some f14 := by kernel_rfl
theorem neI (i j : Int) (F : Fm) : neR (.sh (.int i)) (.sh (.int j)) F = some (!decide (i = j)) := by
  show (eqR _ _ F).map _ = _
  rw [eqI]
  rfl
theorem shaped_t (ns : List Int) : SeqAt.shaped (.tuple (D.pyL (iD ns))) = true := by
  have h1 := depth_ints ns
  have h2 : PyData.depth (.tuple (D.pyL (iD ns))) ≤ 64 := by simp only [PyData.depth]; omega
  show (PyData.canLay0 (.tuple (D.pyL (iD ns))) && decide (PyData.depth (.tuple (D.pyL (iD ns))) ≤ 64)) = true
  rw [Bool.and_eq_true]
  exact ⟨by simp only [PyData.canLay0]; exact lay_ints ns, decide_eq_true h2⟩
theorem eqT (xs ys : List Int) (F : Fm) : eqR (.sh (.tup (iD xs))) (.sh (.tup (iD ys))) F = some (decide (xs = ys)) := by
  have h1 := shaped_t xs
  have h2 := shaped_t ys
  have h3 := eqv_ints xs ys
  simp only [eqR, pyR, D.py, h1, h2, Bool.and_self, if_true, PyData.eqv, h3]
theorem eqL (xs ys : List Int) (F : Fm) : eqR (.sh (.lst (iD xs))) (.sh (.lst (iD ys))) F = some (decide (xs = ys)) := by
  have h1 := shaped_ints xs
  have h2 := shaped_ints ys
  have h3 := eqv_ints xs ys
  simp only [eqR, pyR, D.py, h1, h2, Bool.and_self, if_true, PyData.eqv, h3]
theorem neB (a : Bool) (F : Fm) : neR (.sh (.bl a)) (.sh (.bl a)) F = some false := by
  simp [neR, eqR, pyR, D.py, SeqAt.shaped, PyData.canLay0, PyData.depth, PyData.eqv]
theorem neN (F : Fm) : neR (.sh (.lst [])) (.fr []) F = some false := by
  simp [neR, eqR, pyR, D.py, D.pyL, SeqAt.shaped, PyData.canLay0, PyData.canLayAll0, PyData.depth, PyData.depthAll, PyData.eqv, PyData.eqvAll]
theorem code_lc (xs : List Int) (s0 s1 s2 s3 s4 s5 s6 : Sl) (hl : xs.length ≤ 90000) :
    lcLoop [10] (.name 10) (Ts.nil.denA G15) (x15_2.den G15) (iD xs) [] [s0, s1, s2, s3, s4, s5, s6, .un, .un, .un, .un, .un] = .ok (iD xs) [s0, s1, s2, s3, s4, s5, s6, .un, .un, .un, .un, .un] := by
  have := lc_int (own := [10]) (tg := .name 10) (t := Ts.nil.denA G15) (e := x15_2.den G15) (fun _ => true) (F0 := [s0, s1, s2, s3, s4, s5, s6, .un, .un, .un, .un, .un]) xs (fun x _ =>
    ⟨[s0, s1, s2, s3, s4, s5, s6, .un, .un, .un, .sh (.int x), .un], [s0, s1, s2, s3, s4, s5, s6, .un, .un, .un, .sh (.int x), .un], by simp -dsimp [line_eq, Ss.den, S.den, X.den, Xs.denL, Xs.denS, Xs.denB, Xs.denP, Xo.den, As.den, T.den, Ts.denB, Ts.denA, It.den, putM, appM, extM, augM, shM, share, ownAt, Sl.own, Sl.put, putR, appR, extR, own1, ixN, varM, idxR, slcR, negR, notR, view, bop, addR, subR, mulR, fdivR, modR, powR, bltR, lenR, intR, ordR, tupleR, listR, cop, copR, cmpI, isNone, ↓bind_L, bindL_ok, bindL_ex, bindL_bad, ↓thn_L, thnL_ok, thnL_ex, thnL_bad, ↓seq_L, seqL_next, seqL_brk, seqL_cnt, seqL_ret, seqL_ex, seqL_bad, asgR, notIo, okS, ↓ofO_L, ofOL_some, ofOL_none, fnEnd, ioB, callR_E, callE, toSlots, backSlots, owns, parSet, pickR, setT, setL, killL, killD, kill1, restore, plainSlot, seqD, itemsD, isiR, isiD], by simp -dsimp [line_eq, Ss.den, S.den, X.den, Xs.denL, Xs.denS, Xs.denB, Xs.denP, Xo.den, As.den, T.den, Ts.denB, Ts.denA, It.den, putM, appM, extM, augM, shM, share, ownAt, Sl.own, Sl.put, putR, appR, extR, own1, ixN, varM, idxR, slcR, negR, notR, view, bop, addR, subR, mulR, fdivR, modR, powR, bltR, lenR, intR, ordR, tupleR, listR, cop, copR, cmpI, isNone, ↓bind_L, bindL_ok, bindL_ex, bindL_bad, ↓thn_L, thnL_ok, thnL_ex, thnL_bad, ↓seq_L, seqL_next, seqL_brk, seqL_cnt, seqL_ret, seqL_ex, seqL_bad, asgR, notIo, okS, ↓ofO_L, ofOL_some, ofOL_none, fnEnd, ioB, callR_E, callE, toSlots, backSlots, owns, parSet, pickR, setT, setL, killL, killD, kill1, restore, plainSlot, seqD, itemsD, isiR, isiD], fun z => (nomatch z), fun _ => ⟨[s0, s1, s2, s3, s4, s5, s6, .un, .un, .un, .sh (.int x), .un], by simp -dsimp [x15_2, line_eq, Ss.den, S.den, X.den, Xs.denL, Xs.denS, Xs.denB, Xs.denP, Xo.den, As.den, T.den, Ts.denB, Ts.denA, It.den, putM, appM, extM, augM, shM, share, ownAt, Sl.own, Sl.put, putR, appR, extR, own1, ixN, varM, idxR, slcR, negR, notR, view, bop, addR, subR, mulR, fdivR, modR, powR, bltR, lenR, intR, ordR, tupleR, listR, cop, copR, cmpI, isNone, ↓bind_L, bindL_ok, bindL_ex, bindL_bad, ↓thn_L, thnL_ok, thnL_ex, thnL_bad, ↓seq_L, seqL_next, seqL_brk, seqL_cnt, seqL_ret, seqL_ex, seqL_bad, asgR, notIo, okS, ↓ofO_L, ofOL_some, ofOL_none, fnEnd, ioB, callR_E, callE, toSlots, backSlots, owns, parSet, pickR, setT, setL, killL, killD, kill1, restore, plainSlot, seqD, itemsD, isiR, isiD], by simp -dsimp [line_eq, Ss.den, S.den, X.den, Xs.denL, Xs.denS, Xs.denB, Xs.denP, Xo.den, As.den, T.den, Ts.denB, Ts.denA, It.den, putM, appM, extM, augM, shM, share, ownAt, Sl.own, Sl.put, putR, appR, extR, own1, ixN, varM, idxR, slcR, negR, notR, view, bop, addR, subR, mulR, fdivR, modR, powR, bltR, lenR, intR, ordR, tupleR, listR, cop, copR, cmpI, isNone, ↓bind_L, bindL_ok, bindL_ex, bindL_bad, ↓thn_L, thnL_ok, thnL_ex, thnL_bad, ↓seq_L, seqL_next, seqL_brk, seqL_cnt, seqL_ret, seqL_ex, seqL_bad, asgR, notIo, okS, ↓ofO_L, ofOL_some, ofOL_none, fnEnd, ioB, callR_E, callE, toSlots, backSlots, owns, parSet, pickR, setT, setL, killL, killD, kill1, restore, plainSlot, seqD, itemsD, isiR, isiD]⟩⟩) (by omega)
  rw [fil_all fun _ _ => rfl] at this
  exact this
theorem row_lc (q : Nat) (hq : q ≤ 1000) (B : Nat) (xs : List D) (h : SrcP B xs) (hB : B < 800000) (s0 s1 s3 s4 s5 s6 : Sl) :
    ∃ (row : List Int) (ys : List D), lcLoop [11] (.name 11) (Ts.nil.denA G15) (x15_1.den G15) ((List.range q).map fun (i : Nat) => .int (i : Int)) [] [s0, s1, .ow xs, s3, s4, s5, s6, .un, .un, .un, .un, .un] = .ok (iD row) [s0, s1, .ow ys, s3, s4, s5, s6, .un, .un, .un, .un, .un] ∧ row.length = q ∧ Letters row ∧ SrcP (B + q) ys := by
  obtain ⟨acc, F', e, row, ys, rfl, rfl, hl, hr, hs⟩ := lc_step (own := [11]) (tg := .name 11) (t := Ts.nil.denA G15) (e := x15_1.den G15) (fun i acc F => ∃ (row : List Int) (ys : List D), acc = iD row ∧ F = [s0, s1, .ow ys, s3, s4, s5, s6, .un, .un, .un, .un, .un] ∧ row.length = i ∧ Letters row ∧ SrcP (B + i) ys)
    ((List.range q).map fun (i : Nat) => .int (i : Int)) 0 [] [s0, s1, .ow xs, s3, s4, s5, s6, .un, .un, .un, .un, .un] ⟨[], xs, rfl, rfl, rfl, fun _ z => (nomatch z), h⟩ fun i d acc F hd hp => by
      obtain ⟨row, ys, rfl, rfl, hl, hr, hs⟩ := hp
      rw [Nat.zero_add] at hl hs ⊢
      have hi : i < q := by
        by_cases z : i < q
        · exact z
        · rw [List.getElem?_eq_none (by simpa using z)] at hd; cases hd
      obtain ⟨v, zs, e, p1, p2, hs⟩ := draw8 hs (by omega) (n := 26) (by omega) (by omega)
      have g := G15_draw
      refine ⟨[s0, s1, .ow ys, s3, s4, s5, s6, .un, .un, .un, .un, .sh d], by simp -dsimp [line_eq, Ss.den, S.den, X.den, Xs.denL, Xs.denS, Xs.denB, Xs.denP, Xo.den, As.den, T.den, Ts.denB, Ts.denA, It.den, putM, appM, extM, augM, shM, share, ownAt, Sl.own, Sl.put, putR, appR, extR, own1, ixN, varM, idxR, slcR, negR, notR, view, bop, addR, subR, mulR, fdivR, modR, powR, bltR, lenR, intR, ordR, tupleR, listR, cop, copR, cmpI, isNone, ↓bind_L, bindL_ok, bindL_ex, bindL_bad, ↓thn_L, thnL_ok, thnL_ex, thnL_bad, ↓seq_L, seqL_next, seqL_brk, seqL_cnt, seqL_ret, seqL_ex, seqL_bad, asgR, notIo, okS, ↓ofO_L, ofOL_some, ofOL_none, fnEnd, ioB, callR_E, callE, toSlots, backSlots, owns, parSet, pickR, setT, setL, killL, killD, kill1, restore, plainSlot, seqD, itemsD, isiR, isiD], true, [s0, s1, .ow ys, s3, s4, s5, s6, .un, .un, .un, .un, .sh d], by simp -dsimp [line_eq, Ss.den, S.den, X.den, Xs.denL, Xs.denS, Xs.denB, Xs.denP, Xo.den, As.den, T.den, Ts.denB, Ts.denA, It.den, putM, appM, extM, augM, shM, share, ownAt, Sl.own, Sl.put, putR, appR, extR, own1, ixN, varM, idxR, slcR, negR, notR, view, bop, addR, subR, mulR, fdivR, modR, powR, bltR, lenR, intR, ordR, tupleR, listR, cop, copR, cmpI, isNone, ↓bind_L, bindL_ok, bindL_ex, bindL_bad, ↓thn_L, thnL_ok, thnL_ex, thnL_bad, ↓seq_L, seqL_next, seqL_brk, seqL_cnt, seqL_ret, seqL_ex, seqL_bad, asgR, notIo, okS, ↓ofO_L, ofOL_some, ofOL_none, fnEnd, ioB, callR_E, callE, toSlots, backSlots, owns, parSet, pickR, setT, setL, killL, killD, kill1, restore, plainSlot, seqD, itemsD, isiR, isiD], .inr ⟨rfl, .int (65 + v), [s0, s1, .ow zs, s3, s4, s5, s6, .un, .un, .un, .un, .sh d], by simp -dsimp [x15_1, line_eq, Ss.den, S.den, X.den, Xs.denL, Xs.denS, Xs.denB, Xs.denP, Xo.den, As.den, T.den, Ts.denB, Ts.denA, It.den, putM, appM, extM, augM, shM, share, ownAt, Sl.own, Sl.put, putR, appR, extR, own1, ixN, varM, idxR, slcR, negR, notR, view, bop, addR, subR, mulR, fdivR, modR, powR, bltR, lenR, intR, ordR, tupleR, listR, cop, copR, cmpI, isNone, ↓bind_L, bindL_ok, bindL_ex, bindL_bad, ↓thn_L, thnL_ok, thnL_ex, thnL_bad, ↓seq_L, seqL_next, seqL_brk, seqL_cnt, seqL_ret, seqL_ex, seqL_bad, asgR, notIo, okS, ↓ofO_L, ofOL_some, ofOL_none, fnEnd, ioB, callR_E, callE, toSlots, backSlots, owns, parSet, pickR, setT, setL, killL, killD, kill1, restore, plainSlot, seqD, itemsD, isiR, isiD, g, e], by rw [List.length_map]; omega, row ++ [65 + v], zs, by simp, by simp -dsimp [line_eq, Ss.den, S.den, X.den, Xs.denL, Xs.denS, Xs.denB, Xs.denP, Xo.den, As.den, T.den, Ts.denB, Ts.denA, It.den, putM, appM, extM, augM, shM, share, ownAt, Sl.own, Sl.put, putR, appR, extR, own1, ixN, varM, idxR, slcR, negR, notR, view, bop, addR, subR, mulR, fdivR, modR, powR, bltR, lenR, intR, ordR, tupleR, listR, cop, copR, cmpI, isNone, ↓bind_L, bindL_ok, bindL_ex, bindL_bad, ↓thn_L, thnL_ok, thnL_ex, thnL_bad, ↓seq_L, seqL_next, seqL_brk, seqL_cnt, seqL_ret, seqL_ex, seqL_bad, asgR, notIo, okS, ↓ofO_L, ofOL_some, ofOL_none, fnEnd, ioB, callR_E, callE, toSlots, backSlots, owns, parSet, pickR, setT, setL, killL, killD, kill1, restore, plainSlot, seqD, itemsD, isiR, isiD], by simp -dsimp [hl], fun x hx => ?_, by rw [show B + (i + 1) = B + i + 1 by omega]; exact hs⟩⟩
      rcases List.mem_append.mp hx with z | z
      · exact hr _ z
      · rw [List.mem_singleton.mp z]
        omega
  rw [List.length_map, List.length_range, Nat.zero_add] at hl hs
  exact ⟨row, ys, e, hl, hr, hs⟩
theorem rep_flat (n : Nat) (bs : List Int) : (List.replicate n (iD bs)).flatten = iD (List.replicate n bs).flatten := by
  rw [iD, iD, List.map_flatten, List.map_replicate]
theorem strewn_read (bs out : List Int) (hb : Bytes bs) (h : Strewn [10, 13] (b64 bs) out) : read64 out = (bs, []) :=
  read_whole bs out hb (by rw [h.1 notEnd (by decide), b64_not])
end Lw

end
section
set_option Elab.async false
set_option linter.all false
set_option maxRecDepth 100000
set_option maxHeartbeats 4000000
namespace Lw
open PySem PySem.Spec PyProof.Rows L2 Z
theorem at0 (d : D) (ds : List D) : atI (d :: ds) 0 = some d := by
  simp [atI, ixN]
theorem at1 (d e : D) (ds : List D) : atI (d :: e :: ds) 1 = some e := by
  have h : (1 : Int) < (ds.length : Int) + 1 + 1 := by omega
  simp [atI, ixN, h]
theorem dr10x : DrawOk G10 := ⟨f8, by kernel_rfl, fun h1 h2 _ h3 h4 => draw_ok h1 h2 h3 h4⟩
theorem f13_lt (src bs : List Int) (c : D) (hc : c = .lst (iD src) ∨ c = .tup (iD src)) (hl : src.length ≤ 90000) (hb : bs.length ≤ 16777216) (h : read64 src = (bs, [])) :
    f13 [.sh c, .sh (.lst (iD bs)), .sh (.lst [])] = .ok (.sh (.bl true)) [.un, .un, .un] := by
  have := f13_ok src bs [] c (.lst (iD bs)) hc (.inl rfl) hl hb goodN h
  simpa only [List.map_nil] using this
theorem body_step (ns : List Int) (hn : ns.length ≤ 63) (k : Nat) (hk : k < 12) :
    Nx (w15_1.den G15 [.sh (.fz (iD ns)), .sh (.int (k : Int)), .un, .un, .un, .un, .un, .un, .un, .un, .un, .un]) fun F2 => killD F2 [1, 2, 3, 4, 5, 6, 7, 8, 9] = [.sh (.fz (iD ns)), .un, .un, .un, .un, .un, .un, .un, .un, .un, .un, .un] := by
  obtain ⟨x1, e1, h⟩ := source_ok (Γ := G7) ns hn k (by omega)
  have e1 : f7 [.sh (.fz (iD ns)), .sh (.int (k : Int))] = .ok (.fr x1) [.un, .un] := e1
  obtain ⟨bs, x2, e2, hl, hb, h⟩ := f11_ok 0 x1 h (by omega) 40 (by omega)
  have e2 : f11 [.io x1, .sh (.int 40)] = .ok (.fr (iD bs)) [.io x2, .un] := e2
  obtain ⟨os, x3, e3, hl2, ho, h⟩ := f11_ok _ x2 h (by omega) 1 (by omega)
  have e3 : f11 [.io x2, .sh (.int 1)] = .ok (.fr (iD os)) [.io x3, .un] := e3
  have e4 := f0_ok bs (.lst (iD bs)) (.inl rfl) (by omega)
  have e5 := f0_ok os (.lst (iD os)) (.inl rfl) (by omega)
  have hbl := b64_len bs
  have hS : (b64 bs).length = 4 * ((bs.length + 2) / 3) := by rw [← sg_len, b64_sg, List.length_append, r61_len]
  have q1 : ∀ F, neR (.sh (.int ((b64 bs).length : Int))) (.sh (.int (((bs.length : Int) + 2) / 3 * 4))) F = some false := fun F => by
    rw [neI, decide_eq_true (by omega)]
    rfl
  have q2 : ∀ F, eqR (.sh (.tup (iD (b64 os)))) (.sh (.tup (iD (b64 bs)))) F = some (decide (os = bs)) := fun F => by
    rw [eqT]
    by_cases z : os = bs
    · rw [decide_eq_true z, decide_eq_true (by rw [z])]
    · rw [decide_eq_false z, decide_eq_false (fun y => z (b64_inj os bs ho hb y))]
  have q3 : ∀ F, eqR (.sh (.lst (iD os))) (.sh (.lst (iD bs))) F = some (decide (os = bs)) := fun F => eqL os bs F
  obtain ⟨v, x4, e6, p1, p2, h⟩ := draw8 h (by omega) (n := 20) (by omega) (by omega)
  obtain ⟨m, hm⟩ : ∃ m : Nat, 1 + v * 3 + 2 = (m : Int) := ⟨(1 + v * 3 + 2).toNat, by omega⟩
  have hm3 : m % 3 = 0 := by omega
  have e7 := f1_ok bs [13, 10] m (.lst (iD bs)) (.tup (iD [13, 10])) (.inl rfl) (.inr rfl) (by omega) (by simp) (by omega) (by omega)
  have e7 : f1 [.sh (.lst (iD bs)), .sh (.int (m : Int)), .sh (.tup [.int 13, .int 10])] = .ok (.sh (.tup (iD (lns bs m [13, 10])))) [.un, .un, .un] := e7
  have rl := read_lines bs hb m hm3 (by omega)
  have ll : (lns bs m [13, 10]).length ≤ 90000 := by
    have q := lnr_len (bs := bs) (en := [13, 10]) (m := m) (by omega) (by simp) ((bs.length + m - 1) / m)
    have : (bs.length + m - 1) / m ≤ bs.length := by
      by_cases h0 : bs.length = 0
      · rw [h0, Nat.div_eq_of_lt (by omega)]; exact Nat.zero_le _
      · rw [show bs.length + m - 1 = (bs.length - 1) + m by omega, Nat.add_div_right _ (by omega)]
        have := Nat.div_le_self (bs.length - 1) m
        omega
    unfold lns
    omega
  obtain ⟨out, x5, e8, hs, h⟩ := f12_ok _ x4 h (by omega) (b64 bs) [10, 13] (.tup (iD (b64 bs))) (.inr rfl) (by omega) (by decide) (by decide)
  have e8 : f12 [.io x4, .sh (.tup (iD (b64 bs))), .sh (.lst [.int 10, .int 13])] = .ok (.fr (iD out)) [.io x5, .un, .un] := e8
  have hol := hs.2.2.2.2
  have e9 := f13_lt out bs (.lst (iD out)) (.inl rfl) (by omega) (by omega) (strewn_read bs out hb hs)
  have e10 := f6_ok (lns bs m [13, 10]) (.tup (iD (lns bs m [13, 10]))) (.inr rfl) ll
  rw [rl] at e10
  have e10 : f6 [.sh (.tup (iD (lns bs m [13, 10])))] = .ok (.sh (.tup [.tup (iD bs), .lst []])) [.un] := e10
  have e11 := fun s0 s1 s2 s3 s4 s5 s6 => code_lc bs s0 s1 s2 s3 s4 s5 s6 (by omega)
  have q4 : ∀ F, neR (.fr (iD bs)) (.sh (.lst (iD bs))) F = some false := ne_ints bs
  obtain ⟨x6, e12, h⟩ := f14_ok _ x5 h (by omega) bs hb (by omega)
  obtain ⟨w, x7, e13, p3, p4, h⟩ := draw8 h (by omega) (n := 5) (by omega) (by omega)
  obtain ⟨n, hn4⟩ : ∃ n : Nat, 4 * w = (n : Int) := ⟨(4 * w).toNat, by omega⟩
  have er : rng1 [.sh (.int (n : Int))] = some ((List.range n).map fun (i : Nat) => .int (i : Int)) := by
    have : small (n : Int) = true := by rw [small_eq]; simp; omega
    simp [rng1, this]
  obtain ⟨row, x8, e14, hr, hlt, h⟩ := row_lc n (by omega) _ x7 h (by omega) (.sh (.fz (iD ns))) (.sh (.int (k : Int))) (.sh (.lst (iD bs))) (.sh (.lst (iD os))) (.sh (.tup (iD (b64 bs)))) (.sh (.tup (iD (lns bs m [13, 10]))))
  obtain ⟨u, x9, e15, p5, p6, h⟩ := draw8 h (by omega) (n := 24) (by omega) (by omega)
  obtain ⟨t, ht⟩ : ∃ t : Nat, 1 + u = (t : Int) := ⟨(1 + u).toNat, by omega⟩
  have hfl := rep_flat t bs
  have hgl : (List.replicate t bs).flatten.length ≤ 2000 := by
    rw [List.length_flatten, List.map_replicate, List.sum_replicate_nat]
    have : t * bs.length ≤ 24 * 40 := Nat.mul_le_mul (by omega) hl
    omega
  have hgb : Bytes (List.replicate t bs).flatten := fun x hx => by
    obtain ⟨l, h1, h2⟩ := List.mem_flatten.mp hx
    rw [List.eq_of_mem_replicate h1] at h2
    exact hb x h2
  have hmt : bs.length * t ≤ 16777216 := by
    have : bs.length * t ≤ 40 * 24 := Nat.mul_le_mul hl (by omega)
    omega
  have z1 : -9223372036854775808 ≤ (t : Int) ∧ (t : Int) < 9223372036854775808 := by omega
  generalize (List.replicate t bs).flatten = gr at hfl hgl hgb
  have fin : ∀ (gr : List Int), gr.length ≤ 2000 → Bytes gr → f0 [.sh (.lst (iD gr))] = .ok (.sh (.tup (iD (b64 gr)))) [.un] ∧ f13 [.sh (.tup (iD (b64 gr))), .sh (.lst (iD gr)), .sh (.lst [])] = .ok (.sh (.bl true)) [.un, .un, .un] := fun gr h1 h2 =>
    ⟨f0_ok gr _ (.inl rfl) (by omega), f13_lt (b64 gr) gr _ (.inr rfl) (by have := b64_len gr; omega) (by omega) (read_whole gr _ h2 (b64_not gr))⟩
  obtain ⟨e16, e17⟩ := fin gr hgl hgb
  obtain ⟨e16', e17'⟩ := fin bs (by omega) hb
  have e18 := f6_ok row (.lst (iD row)) (.inl rfl) (by omega)
  rw [read_letters row hlt (by omega)] at e18
  have e18 : f6 [.sh (.lst (iD row))] = .ok (.sh (.tup [.tup (iD (bos row)), .lst []])) [.un] := e18
  have hrl := bos_len row
  have hrb := bos_letters row hlt (by omega)
  have e19 := f0_ok (bos row) (.tup (iD (bos row))) (.inr rfl) (by omega)
  have e20 := f6_ok (b64 (bos row)) (.tup (iD (b64 (bos row)))) (.inr rfl) (by have := b64_len (bos row); omega)
  rw [read_whole (bos row) _ hrb (b64_not _)] at e20
  have e20 : f6 [.sh (.tup (iD (b64 (bos row))))] = .ok (.sh (.tup [.tup (iD (bos row)), .lst []])) [.un] := e20
  have e21 := f10_ok (resD (bos row, [])) (good_res _ _ (by omega) goodN)
  have e21 : f10 [.sh (.tup [.tup (iD (bos row)), .lst []]), .sh (.tup [.tup (iD (bos row)), .lst []])] = .ok (.sh (.bl true)) [.un, .un] := e21
  simp only [Ts.denA] at e11 e14
  have g1 := G15_text
  have g2 := G15_lines
  have g3 := G15_read
  have g4 := G15_source
  have g5 := G15_draw
  have g6 := G15_same
  have g7 := G15_bytes
  have g8 := G15_strewn
  have g9 := G15_right
  have g10 := G15_spoilt
  have zl : (b64 bs).length ≤ 16777216 := by omega
  generalize ((List.range n).map fun (i : Nat) => D.int (i : Int)) = r2 at er e14
  generalize lns bs m [13, 10] = LN at *
  generalize bos row = BR at *
  generalize b64 BR = BB at *
  generalize b64 gr = GG at *
  generalize b64 os = OO at *
  generalize b64 bs = SS at *
  clear fin hs h hm3 p1 p2 p3 p4 p5 p6 hbl hS hgb hb ho hlt hrb rl
  by_cases k0 : k = 0
  · have q5 : ∀ F, eqR (.sh (.int (k : Int))) (.sh (.int 0)) F = some true := fun F => by rw [eqI, decide_eq_true (by omega)]
    simp -dsimp [w15_1, line_eq, Ss.den, S.den, X.den, Xs.denL, Xs.denS, Xs.denB, Xs.denP, Xo.den, As.den, T.den, Ts.denB, Ts.denA, It.den, putM, appM, extM, augM, shM, share, ownAt, Sl.own, Sl.put, putR, appR, extR, own1, ixN, varM, idxR, slcR, negR, notR, view, bop, addR, subR, mulR, fdivR, modR, powR, bltR, lenR, intR, ordR, tupleR, listR, cop, copR, cmpI, isNone, ↓bind_L, bindL_ok, bindL_ex, bindL_bad, ↓thn_L, thnL_ok, thnL_ex, thnL_bad, ↓seq_L, seqL_next, seqL_brk, seqL_cnt, seqL_ret, seqL_ex, seqL_bad, asgR, notIo, okS, ↓ofO_L, ofOL_some, ofOL_none, fnEnd, ioB, callR_E, callE, toSlots, backSlots, owns, parSet, pickR, setT, setL, killL, killD, kill1, restore, plainSlot, seqD, itemsD, isiR, isiD, g1, g2, g3, g4, g5, g6, g7, g8, g9, g10, e1, e2, e3, e4, e5, e6, e7, e8, e9, e10, e11, e12, e13, e14, e15, e16, e17, e16', e17', e18, e19, e20, e21, q1, q2, q3, q4, q5, neB, neN, at0, at1, er, hm, hn4, ht, hfl, hmt, z1, zl, fits_eq, mulOk_eq, Nx]
  · have q5 : ∀ F, eqR (.sh (.int (k : Int))) (.sh (.int 0)) F = some false := fun F => by rw [eqI, decide_eq_false (by omega)]
    simp -dsimp [w15_1, line_eq, Ss.den, S.den, X.den, Xs.denL, Xs.denS, Xs.denB, Xs.denP, Xo.den, As.den, T.den, Ts.denB, Ts.denA, It.den, putM, appM, extM, augM, shM, share, ownAt, Sl.own, Sl.put, putR, appR, extR, own1, ixN, varM, idxR, slcR, negR, notR, view, bop, addR, subR, mulR, fdivR, modR, powR, bltR, lenR, intR, ordR, tupleR, listR, cop, copR, cmpI, isNone, ↓bind_L, bindL_ok, bindL_ex, bindL_bad, ↓thn_L, thnL_ok, thnL_ex, thnL_bad, ↓seq_L, seqL_next, seqL_brk, seqL_cnt, seqL_ret, seqL_ex, seqL_bad, asgR, notIo, okS, ↓ofO_L, ofOL_some, ofOL_none, fnEnd, ioB, callR_E, callE, toSlots, backSlots, owns, parSet, pickR, setT, setL, killL, killD, kill1, restore, plainSlot, seqD, itemsD, isiR, isiD, g1, g2, g3, g4, g5, g6, g7, g8, g9, g10, e1, e2, e3, e4, e5, e6, e7, e8, e9, e10, e11, e12, e13, e14, e15, e16, e17, e16', e17', e18, e19, e20, e21, q1, q2, q3, q4, q5, neB, neN, at0, at1, er, hm, hn4, ht, hfl, hmt, z1, zl, fits_eq, mulOk_eq, Nx]
end Lw

end
section
set_option Elab.async false
set_option linter.all false
set_option maxRecDepth 100000
set_option maxHeartbeats 1000000
namespace Lw
open PySem PySem.Spec PyProof.Rows L2 Z
theorem law_true (ns : List Int) (hn : ns.length ≤ 63) : ∃ A', f15 [.sh (.fz (ns.map .int))] = .ok (.sh (.bl true)) A' := by
  have q := forM_rng (tg := .name 1) (b := w15_1.den G15) (dead := [1, 2, 3, 4, 5, 6, 7, 8, 9]) (fun (i : Nat) => .int (i : Int)) (fun _ => [.sh (.fz (iD ns)), .un, .un, .un, .un, .un, .un, .un, .un, .un, .un, .un]) 12 [.sh (.fz (iD ns)), .un, .un, .un, .un, .un, .un, .un, .un, .un, .un, .un] (by simp -dsimp [line_eq, Ss.den, S.den, X.den, Xs.denL, Xs.denS, Xs.denB, Xs.denP, Xo.den, As.den, T.den, Ts.denB, Ts.denA, It.den, putM, appM, extM, augM, shM, share, ownAt, Sl.own, Sl.put, putR, appR, extR, own1, ixN, varM, idxR, slcR, negR, notR, view, bop, addR, subR, mulR, fdivR, modR, powR, bltR, lenR, intR, ordR, tupleR, listR, cop, copR, cmpI, isNone, ↓bind_L, bindL_ok, bindL_ex, bindL_bad, ↓thn_L, thnL_ok, thnL_ex, thnL_bad, ↓seq_L, seqL_next, seqL_brk, seqL_cnt, seqL_ret, seqL_ex, seqL_bad, asgR, notIo, okS, ↓ofO_L, ofOL_some, ofOL_none, fnEnd, ioB, callR_E, callE, toSlots, backSlots, owns, parSet, pickR, setT, setL, killL, killD, kill1, restore, plainSlot, seqD, itemsD, isiR, isiD]) fun i hi =>
    ⟨[.sh (.fz (iD ns)), .sh (.int (i : Int)), .un, .un, .un, .un, .un, .un, .un, .un, .un, .un], by simp -dsimp [line_eq, Ss.den, S.den, X.den, Xs.denL, Xs.denS, Xs.denB, Xs.denP, Xo.den, As.den, T.den, Ts.denB, Ts.denA, It.den, putM, appM, extM, augM, shM, share, ownAt, Sl.own, Sl.put, putR, appR, extR, own1, ixN, varM, idxR, slcR, negR, notR, view, bop, addR, subR, mulR, fdivR, modR, powR, bltR, lenR, intR, ordR, tupleR, listR, cop, copR, cmpI, isNone, ↓bind_L, bindL_ok, bindL_ex, bindL_bad, ↓thn_L, thnL_ok, thnL_ex, thnL_bad, ↓seq_L, seqL_next, seqL_brk, seqL_cnt, seqL_ret, seqL_ex, seqL_bad, asgR, notIo, okS, ↓ofO_L, ofOL_some, ofOL_none, fnEnd, ioB, callR_E, callE, toSlots, backSlots, owns, parSet, pickR, setT, setL, killL, killD, kill1, restore, plainSlot, seqD, itemsD, isiR, isiD], body_step ns hn i hi⟩
  have er : rng1 [.sh (.int 12)] = some ((List.range 12).map fun (i : Nat) => .int (i : Int)) := by
    have : small 12 = true := by rw [small_eq]; decide
    simp only [rng1, this, if_true]
    rfl
  generalize ((List.range 12).map fun (i : Nat) => D.int (i : Int)) = r2 at er q
  refine ⟨[.un], ?_⟩
  simp -dsimp [f15, fnOf, b15, line_eq, Ss.den, S.den, X.den, Xs.denL, Xs.denS, Xs.denB, Xs.denP, Xo.den, As.den, T.den, Ts.denB, Ts.denA, It.den, putM, appM, extM, augM, shM, share, ownAt, Sl.own, Sl.put, putR, appR, extR, own1, ixN, varM, idxR, slcR, negR, notR, view, bop, addR, subR, mulR, fdivR, modR, powR, bltR, lenR, intR, ordR, tupleR, listR, cop, copR, cmpI, isNone, ↓bind_L, bindL_ok, bindL_ex, bindL_bad, ↓thn_L, thnL_ok, thnL_ex, thnL_bad, ↓seq_L, seqL_next, seqL_brk, seqL_cnt, seqL_ret, seqL_ex, seqL_bad, asgR, notIo, okS, ↓ofO_L, ofOL_some, ofOL_none, fnEnd, ioB, callR_E, callE, toSlots, backSlots, owns, parSet, pickR, setT, setL, killL, killD, kill1, restore, plainSlot, seqD, itemsD, isiR, isiD, er, q, List.replicate_succ]
end Lw
open PySem PySem.W PySem.Calls PyProof.Rows
theorem PySem.Challenge.cw_foldpost_k08_whole_base_64_judged_holds : PySem.Challenge.rw_foldpost_k08_whole_base_64_judged.Holds :=
  Lw.holds Lw.law_true

end
