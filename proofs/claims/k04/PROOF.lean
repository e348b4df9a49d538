import PyProof.Rows.All
import Wide.All
import OpenK.AllK
import Wide.FinOn
import HandS.ForExc
import HandS.Comp
import HandS.Dict
import HandS.Iter
import HandS.Walk
import HandS.IsInst
import HandS.TupAny
import HandS.Wide
import HandS.Text
import HandS.Defaults
import PyProof.ReprRoads
import HandS.RaiseMore
import HandS.Deep
import HandS.Style
import HandS.Head0
import HandS.Head1
import HandS.Head2
import HandS.HeadEnd
import HandS.HeadHook1
import HandS.HeadHook2
import PySem.Challenge.RW_platerest_k04_whole_fractions_together
set_option Elab.async false
set_option linter.all false
set_option maxRecDepth 100000
set_option maxHeartbeats 4000000
namespace ZL
open PySem PySem.Spec PyProof.Rows L2

/-! ### values by their data -/
inductive Z where
  | d (x : PyData)
  | r (a : Addr)
  | k (xs : List PyData)

abbrev zi (i : Int) : Z := .d (.int i)
abbrev zb (b : Bool) : Z := .d (.bool b)
abbrev zt (xs : List PyData) : Z := .d (.tuple xs)
abbrev zl (xs : List PyData) : Z := .d (.list xs)
abbrev zs (x : Str) : Z := .d (.str x)

/-- a list that is written no more -/
def SqF (H : Hp) (a : Addr) (xs : List V) : Prop := ∃ o, H a = some (.frz o (.lst xs))
/-- .. or a list of the written part -/
def SqK (K : PySem.W.Frag) (H : Hp) (a : Addr) (xs : List V) : Prop :=
  (∃ o, H a = some (.frz o (.lst xs))) ∨
    ∃ (o : Obj) (its : Array Value) (n : Nat), K.lookup a = some o ∧ o.cls = .type "list" ∧ o.dict = none ∧ o.data = .seq its n ∧ its.size ≤ sizeLine ∧ Vals xs its.toList
theorem SqF.l {K : PySem.W.Frag} {H : Hp} {a : Addr} {xs : List V} (h : SqF H a xs) : SqL K H a xs := .inl (.inr h)
theorem SqK.l {K : PySem.W.Frag} {H : Hp} {a : Addr} {xs : List V} (h : SqK K H a xs) : SqL K H a xs := by
  rcases h with h | h
  · exact .inl (.inr h)
  · exact .inr h

mutual
inductive Fz (K : PySem.W.Frag) (H : Hp) : V → PyData → Prop
  | non : Fz K H .non .none
  | bl (b : Bool) : Fz K H (.bl b) (.bool b)
  | int (i : Int) : Fz K H (.int i) (.int i)
  | str (x : Str) : Fz K H (.str x) (.str x)
  | lst {a : Addr} {xs : List V} {ds : List PyData} : SqF H a xs → FzAll K H xs ds → Fz K H (.ref a) (.list ds)
  | tup {a : Addr} {xs : List V} {ds : List PyData} : SqT K H a xs → FzAll K H xs ds → Fz K H (.ref a) (.tuple ds)
  | dic {a : Addr} {o : Obj} : H a = some (.frz o (.dK [])) → Fz K H (.ref a) (.dict [])
inductive FzAll (K : PySem.W.Frag) (H : Hp) : List V → List PyData → Prop
  | nil : FzAll K H [] []
  | cons {v : V} {vs : List V} {d : PyData} {ds : List PyData} : Fz K H v d → FzAll K H vs ds → FzAll K H (v :: vs) (d :: ds)
end

/-- what is at rest stays -/
structure Le (H H' : Hp) : Prop where
  tup : ∀ b xs, H b = some (.tup xs) → H' b = some (.tup xs)
  frz : ∀ b o u, H b = some (.frz o u) → H' b = some (.frz o u)
theorem Le.refl (H : Hp) : Le H H := ⟨fun _ _ h => h, fun _ _ _ h => h⟩
theorem Le.trans {H H1 H2 : Hp} (a : Le H H1) (b : Le H1 H2) : Le H H2 := ⟨fun c xs h => b.tup c xs (a.tup c xs h), fun c o u h => b.frz c o u (a.frz c o u h)⟩
theorem Le.same {H H' : Hp} (h : Same H H') : Le H H' := ⟨fun _ _ e => h _ _ e, fun _ _ _ e => h _ _ e⟩

section
variable {K : PySem.W.Frag} {H H' : Hp}
theorem SqF.le (l : Le H H') {a : Addr} {xs : List V} (h : SqF H a xs) : SqF H' a xs := let ⟨o, h⟩ := h; ⟨o, l.frz _ _ _ h⟩
theorem SqK.le (l : Le H H') {a : Addr} {xs : List V} (h : SqK K H a xs) : SqK K H' a xs := by
  rcases h with ⟨o, h⟩ | h
  · exact .inl ⟨o, l.frz _ _ _ h⟩
  · exact .inr h
theorem sqT_le (l : Le H H') {a : Addr} {xs : List V} (h : SqT K H a xs) : SqT K H' a xs := by
  rcases h with (h | ⟨o, h⟩) | h
  · exact .inl (.inl (l.tup _ _ h))
  · exact .inl (.inr ⟨o, l.frz _ _ _ h⟩)
  · exact .inr h
mutual
theorem Fz.le (l : Le H H') : ∀ {d : PyData} {v : V}, Fz K H v d → Fz K H' v d
  | _, _, .non => .non
  | _, _, .bl b => .bl b
  | _, _, .int i => .int i
  | _, _, .str x => .str x
  | _, _, .lst s h => .lst (s.le l) (FzAll.le l h)
  | _, _, .tup s h => .tup (sqT_le l s) (FzAll.le l h)
  | _, _, .dic e => .dic (l.frz _ _ _ e)
theorem FzAll.le (l : Le H H') : ∀ {ds : List PyData} {vs : List V}, FzAll K H vs ds → FzAll K H' vs ds
  | _, _, .nil => .nil
  | _, _, .cons h t => .cons (Fz.le l h) (FzAll.le l t)
end
theorem FzAll.length : ∀ {ds : List PyData} {vs : List V}, FzAll K H vs ds → vs.length = ds.length
  | _, _, .nil => rfl
  | _, _, .cons _ t => congrArg Nat.succ (FzAll.length t)
theorem FzAll.append : ∀ {ds : List PyData} {vs : List V} {es : List PyData} {us : List V}, FzAll K H vs ds → FzAll K H us es → FzAll K H (vs ++ us) (ds ++ es)
  | _, _, _, _, .nil, h => h
  | _, _, _, _, .cons h t, q => .cons h (FzAll.append t q)
theorem FzAll.one {v : V} {d : PyData} (h : Fz K H v d) : FzAll K H [v] [d] := .cons h .nil
theorem FzAll.take : ∀ (n : Nat) {ds : List PyData} {vs : List V}, FzAll K H vs ds → FzAll K H (vs.take n) (ds.take n)
  | 0, _, _, _ => .nil
  | n + 1, _, _, .nil => .nil
  | n + 1, _, _, .cons h t => .cons h (FzAll.take n t)
theorem FzAll.drop : ∀ (n : Nat) {ds : List PyData} {vs : List V}, FzAll K H vs ds → FzAll K H (vs.drop n) (ds.drop n)
  | 0, _, _, h => h
  | n + 1, _, _, .nil => .nil
  | n + 1, _, _, .cons h t => FzAll.drop n t
theorem FzAll.set : ∀ (n : Nat) {ds : List PyData} {vs : List V} {v : V} {d : PyData}, Fz K H v d → FzAll K H vs ds → FzAll K H (vs.set n v) (ds.set n d)
  | _, _, _, _, _, _, .nil => .nil
  | 0, _, _, _, _, q, .cons h t => .cons q t
  | n + 1, _, _, _, _, q, .cons h t => .cons h (FzAll.set n q t)
theorem FzAll.get : ∀ {ds : List PyData} {vs : List V} {i : Nat} {d : PyData}, FzAll K H vs ds → ds[i]? = some d → ∃ v, vs[i]? = some v ∧ Fz K H v d
  | _, _, _, _, .nil, e => by simp at e
  | _, _, 0, _, .cons h t, e => by simp at e; subst e; exact ⟨_, rfl, h⟩
  | _, _, i + 1, _, .cons h t, e => by
    obtain ⟨v, e1, q⟩ := FzAll.get (i := i) t (by simpa using e)
    exact ⟨v, by simpa using e1, q⟩
theorem FzAll.get' : ∀ {ds : List PyData} {vs : List V} {i : Nat} {v : V}, FzAll K H vs ds → vs[i]? = some v → ∃ d, ds[i]? = some d ∧ Fz K H v d
  | _, _, _, _, .nil, e => by simp at e
  | _, _, 0, _, .cons h t, e => by simp at e; subst e; exact ⟨_, rfl, h⟩
  | _, _, i + 1, _, .cons h t, e => by
    obtain ⟨v, e1, q⟩ := FzAll.get' (i := i) t (by simpa using e)
    exact ⟨v, by simpa using e1, q⟩
theorem FzAll.ints : ∀ {ns : List Int} {vs : List V}, FzAll K H vs (ns.map PyData.int) → vs = ns.map V.int
  | [], _, h => by cases h; rfl
  | n :: r, _, h => by
    cases h with
    | cons h t => cases h; rw [FzAll.ints t]; rfl
theorem FzAll.ofInts : ∀ (ns : List Int), FzAll K H (ns.map V.int) (ns.map PyData.int)
  | [] => .nil
  | n :: r => .cons (.int n) (FzAll.ofInts r)
theorem FzAll.bools : ∀ {bs : List Bool} {vs : List V}, FzAll K H vs (bs.map PyData.bool) → vs = bs.map V.bl
  | [], _, h => by cases h; rfl
  | n :: r, _, h => by
    cases h with
    | cons h t => cases h; rw [FzAll.bools t]; rfl
end

/-! ### what is changed -/
inductive Cell where
  | lst (xs : List PyData)
abbrev Sto := Addr → Option Cell
def Sto.put (S : Sto) (a : Addr) (c : Cell) : Sto := fun b => if b = a then some c else S b
theorem put_same {S : Sto} {a : Addr} {c : Cell} : S.put a c a = some c := by unfold Sto.put; rw [if_pos rfl]
theorem put_ne {S : Sto} {a b : Addr} {c : Cell} (h : b ≠ a) : S.put a c b = S b := by unfold Sto.put; rw [if_neg h]
theorem put_put {S : Sto} {a : Addr} {c c' : Cell} : (S.put a c).put a c' = S.put a c' := by funext b; unfold Sto.put; split <;> rfl
def CellOk (K : PySem.W.Frag) (H : Hp) (a : Addr) : Cell → Prop
  | .lst ds => ∃ xs, H a = some (.lst xs) ∧ FzAll K H xs ds
def RS0 (K : PySem.W.Frag) (S : Sto) (H : Hp) : Prop := ∀ a c, S a = some c → CellOk K H a c
/-- from (S, H) to (S', H'): what is not in S stays -/
def Step (S S' : Sto) (H H' : Hp) : Prop := ∀ b o, H b = some o → S b = none → H' b = some o ∧ S' b = none
theorem Step.refl (S : Sto) (H : Hp) : Step S S H H := fun _ _ h e => ⟨h, e⟩
theorem Step.trans {S S1 S2 : Sto} {H H1 H2 : Hp} (a : Step S S1 H H1) (b : Step S1 S2 H1 H2) : Step S S2 H H2 := fun c o h e => let ⟨h1, e1⟩ := a c o h e; b c o h1 e1
section
variable {K : PySem.W.Frag} {S S' : Sto} {H H' : Hp}
theorem RS0.notin (r : RS0 K S H) {b : Addr} {o : HO} (h : H b = some o) (n : ∀ xs, o ≠ .lst xs) : S b = none := by
  cases e : S b with
  | none => rfl
  | some c =>
    cases c with
    | lst ds =>
      obtain ⟨xs, q, _⟩ := r b _ e
      rw [h] at q
      exact absurd (Option.some.inj q) (n xs)
theorem Step.le (r : RS0 K S H) (s : Step S S' H H') : Le H H' :=
  ⟨fun b xs h => (s b _ h (r.notin h fun _ z => nomatch z)).1, fun b o u h => (s b _ h (r.notin h fun _ z => nomatch z)).1⟩
theorem RS0.fresh (r : RS0 K S H) {p : Addr} (h : H p = none) : S p = none := by
  cases e : S p with
  | none => rfl
  | some c =>
    cases c with
    | lst ds => obtain ⟨xs, q, _⟩ := r p _ e; rw [h] at q; cases q
theorem RS0.same (r : RS0 K S H) (h : Same H H') : RS0 K S H' := fun a c e => by
  cases c with
  | lst ds => obtain ⟨xs, q, f⟩ := r a _ e; exact ⟨xs, h _ _ q, f.le (.same h)⟩
theorem same_fresh {p : Addr} {o : HO} (h : H p = none) : Same H (upd H p o) := fun b u e => by rw [upd_ne (ne_of_none e h)]; exact e
theorem step_same (h : Same H H') : Step S S H H' := fun b o e n => ⟨h _ _ e, n⟩
/-- a new cell -/
theorem RS0.new (r : RS0 K S H) {p : Addr} {xs : List V} {ds : List PyData} (h : H p = none) (f : FzAll K H xs ds) : RS0 K (S.put p (.lst ds)) (upd H p (.lst xs)) := fun a c e => by
  by_cases q : a = p
  · subst q
    rw [put_same] at e; cases e
    exact ⟨xs, upd_same, f.le (.same (same_fresh h))⟩
  · rw [put_ne q] at e
    exact (r.same (same_fresh h)) a c e
theorem step_new {p : Addr} {o : HO} {c : Cell} (h : H p = none) : Step S (S.put p c) H (upd H p o) := fun b u e n => ⟨same_fresh h b u e, by rw [put_ne (ne_of_none e h)]; exact n⟩
theorem le_set {a : Addr} {xs ys : List V} (h : H a = some (.lst xs)) : Le H (upd H a (.lst ys)) :=
  ⟨fun b zs e => by rw [upd_ne (ne_of e h fun z => nomatch z)]; exact e, fun b o u e => by rw [upd_ne (ne_of e h fun z => nomatch z)]; exact e⟩
/-- a cell changed -/
theorem RS0.set (r : RS0 K S H) {a : Addr} {c : Cell} {xs : List V} {ds : List PyData} (e : S a = some c) (f : FzAll K H xs ds) : RS0 K (S.put a (.lst ds)) (upd H a (.lst xs)) := by
  cases c with
  | lst es =>
    obtain ⟨ys, h, _⟩ := r a _ e
    intro b c e'
    by_cases q : b = a
    · subst q
      rw [put_same] at e'; cases e'
      exact ⟨xs, upd_same, f.le (le_set h)⟩
    · rw [put_ne q] at e'
      cases c with
      | lst es' =>
        obtain ⟨zs, h', f'⟩ := r b _ e'
        exact ⟨zs, by rw [upd_ne q]; exact h', f'.le (le_set h)⟩
theorem step_set {a : Addr} {c c' : Cell} {o : HO} (e : S a = some c) : Step S (S.put a c') H (upd H a o) := fun b u h n => by
  have ne : b ≠ a := fun z => by rw [z, e] at n; cases n
  exact ⟨by rw [upd_ne ne]; exact h, by rw [put_ne ne]; exact n⟩
end

/-! ### the ground: where the def was entered -/
structure Bs where
  S0 : Sto
  H0 : Hp
def RS (K : PySem.W.Frag) (B : Bs) (S : Sto) (H : Hp) : Prop := RS0 K S H ∧ Step B.S0 S B.H0 H
theorem RS.step {K : PySem.W.Frag} {B : Bs} {S S' : Sto} {H H' : Hp} (r : RS K B S H) (r' : RS0 K S' H') (s : Step S S' H H') : RS K B S' H' := ⟨r', r.2.trans s⟩

inductive RZ (K : PySem.W.Frag) (H : Hp) : V → Z → Prop
  | d {v : V} {x : PyData} : Fz K H v x → RZ K H v (.d x)
  | r (a : Addr) : RZ K H (.ref a) (.r a)
  | k {a : Addr} {xs : List V} {ds : List PyData} : SqK K H a xs → FzAll K H xs ds → RZ K H (.ref a) (.k ds)
inductive RZs (K : PySem.W.Frag) (H : Hp) : List V → List Z → Prop
  | nil : RZs K H [] []
  | cons {v : V} {vs : List V} {z : Z} {zs : List Z} : RZ K H v z → RZs K H vs zs → RZs K H (v :: vs) (z :: zs)
abbrev ZEnv := List (Option Z)
inductive RE (K : PySem.W.Frag) (H : Hp) : ZEnv → L2.St → Prop
  | nil : RE K H [] []
  | non {o : Option V} {ρ : ZEnv} {σ : L2.St} : RE K H ρ σ → RE K H (none :: ρ) (o :: σ)
  | val {z : Z} {v : V} {ρ : ZEnv} {σ : L2.St} : RZ K H v z → RE K H ρ σ → RE K H (some z :: ρ) (some v :: σ)
section
variable {K : PySem.W.Frag} {H H' : Hp}
theorem RZ.le (l : Le H H') {v : V} {z : Z} : RZ K H v z → RZ K H' v z
  | .d h => .d (h.le l)
  | .r a => .r a
  | .k s h => .k (s.le l) (h.le l)
theorem RZs.le (l : Le H H') : ∀ {vs : List V} {zs : List Z}, RZs K H vs zs → RZs K H' vs zs
  | _, _, .nil => .nil
  | _, _, .cons h t => .cons (h.le l) (RZs.le l t)
theorem RE.le (l : Le H H') : ∀ {ρ : ZEnv} {σ : L2.St}, RE K H ρ σ → RE K H' ρ σ
  | _, _, .nil => .nil
  | _, _, .non t => .non (RE.le l t)
  | _, _, .val h t => .val (h.le l) (RE.le l t)
theorem RE.get : ∀ {ρ : ZEnv} {σ : L2.St} {i : Nat} {z : Z}, RE K H ρ σ → ρ[i]? = some (some z) → ∃ v, σ[i]? = some (some v) ∧ RZ K H v z
  | _, _, _, _, .nil, e => by simp at e
  | _, _, 0, _, .non _, e => by simp at e
  | _, _, 0, _, .val h t, e => by simp at e; subst e; exact ⟨_, rfl, h⟩
  | _, _, i + 1, _, .non t, e => by
    obtain ⟨v, e1, q⟩ := RE.get (i := i) t (by simpa using e)
    exact ⟨v, by simpa using e1, q⟩
  | _, _, i + 1, _, .val h t, e => by
    obtain ⟨v, e1, q⟩ := RE.get (i := i) t (by simpa using e)
    exact ⟨v, by simpa using e1, q⟩
theorem RE.set : ∀ {ρ : ZEnv} {σ : L2.St} (i : Nat) {v : V} {z : Z}, RZ K H v z → RE K H ρ σ → RE K H (ρ.set i (some z)) (σ.set i (some v))
  | _, _, _, _, _, _, .nil => .nil
  | _, _, 0, _, _, q, .non t => .val q t
  | _, _, 0, _, _, q, .val h t => .val q t
  | _, _, i + 1, _, _, q, .non t => .non (RE.set i q t)
  | _, _, i + 1, _, _, q, .val h t => .val h (RE.set i q t)
theorem RE.unset : ∀ {ρ : ZEnv} {σ : L2.St} (i : Nat) {o : Option V}, RE K H ρ σ → RE K H (ρ.set i none) (σ.set i o)
  | _, _, _, _, .nil => .nil
  | _, _, 0, _, .non t => .non t
  | _, _, 0, _, .val h t => .non t
  | _, _, i + 1, _, .non t => .non (RE.unset i t)
  | _, _, i + 1, _, .val h t => .val h (RE.unset i t)
def zwipe (ρ : ZEnv) : List Nat → ZEnv
  | [] => ρ
  | v :: vs => (zwipe ρ vs).set v none
theorem RE.wipe {ρ : ZEnv} {σ : L2.St} (h : RE K H ρ σ) : ∀ vs : List Nat, RE K H (zwipe ρ vs) (wipe σ vs)
  | [] => h
  | v :: vs => RE.unset v (RE.wipe h vs)
def zstart (N : List Str) (zs : List Z) : ZEnv := zs.map some ++ List.replicate (N.length - zs.length) none
theorem RE.nones : ∀ (n : Nat), RE K H (List.replicate n none) (List.replicate n none)
  | 0 => .nil
  | n + 1 => .non (RE.nones n)
theorem RE.starts : ∀ {vs : List V} {zs : List Z} {ρ : ZEnv} {σ : L2.St}, RZs K H vs zs → RE K H ρ σ → RE K H (zs.map some ++ ρ) (vs.map some ++ σ)
  | _, _, _, _, .nil, h => h
  | _, _, _, _, .cons q t, h => .val q (RE.starts t h)
theorem RZs.length : ∀ {vs : List V} {zs : List Z}, RZs K H vs zs → vs.length = zs.length
  | _, _, .nil => rfl
  | _, _, .cons _ t => congrArg Nat.succ (RZs.length t)
theorem RE.start {N : List Str} {vs : List V} {zs : List Z} (h : RZs K H vs zs) : RE K H (zstart N zs) (start N vs) := by
  unfold zstart L2.start
  rw [h.length]
  exact RE.starts h (RE.nones _)
end

/-! ### judgements -/
abbrev ZQ := Z → Sto → Prop
abbrev ZT := ZEnv → Sto → ZQ → Prop
abbrev ZA := ZEnv → Sto → (List Z → Sto → Prop) → Prop
abbrev ZB := ZEnv → Sto → (Bool → Sto → Prop) → Prop
def low (K : PySem.W.Frag) (B : Bs) (t : ZT) : TE := fun σ H Q => ∃ ρ S, RE K H ρ σ ∧ RS K B S H ∧ t ρ S fun z S' => ∀ v H', Step S S' H H' → RZ K H' v z → RS K B S' H' → Q v H'
def lowA (K : PySem.W.Frag) (B : Bs) (t : ZA) : TA := fun σ H Q => ∃ ρ S, RE K H ρ σ ∧ RS K B S H ∧ t ρ S fun zs S' => ∀ vs H', Step S S' H H' → RZs K H' vs zs → RS K B S' H' → Q vs H'
def lowB (K : PySem.W.Frag) (B : Bs) (t : ZB) : TT := fun σ H Q => ∃ ρ S, RE K H ρ σ ∧ RS K B S H ∧ t ρ S fun b S' => ∀ H', Step S S' H H' → RS K B S' H' → Q b H'
structure ZE (X : Cx) (B : Bs) (e : Expr) (t : ZT) : Prop where
  mono : ∀ {ρ S} {Q Q' : ZQ}, (∀ z S', Q z S' → Q' z S') → t ρ S Q → t ρ S Q'
  pe : PE X e (low X.K B t)
structure ZAs (X : Cx) (B : Bs) (es : List Expr) (t : ZA) : Prop where
  mono : ∀ {ρ S} {Q Q' : List Z → Sto → Prop}, (∀ z S', Q z S' → Q' z S') → t ρ S Q → t ρ S Q'
  pa : PA X es (lowA X.K B t)
structure ZTe (X : Cx) (B : Bs) (e : Expr) (t : ZB) : Prop where
  mono : ∀ {ρ S} {Q Q' : Bool → Sto → Prop}, (∀ z S', Q z S' → Q' z S') → t ρ S Q → t ρ S Q'
  pt : PT X e (lowB X.K B t)
/-- a chain of and, or -/
structure ZW (X : Cx) (B : Bs) (e : Expr) (t : ZB) : Prop where
  mono : ∀ {ρ S} {Q Q' : Bool → Sto → Prop}, (∀ z S', Q z S' → Q' z S') → t ρ S Q → t ρ S Q'
  pw : PW X e (lowB X.K B t)

theorem PE.imp {X : Cx} {e : Expr} {t t' : TE} (h : PE X e t) (q : ∀ σ H Q, t' σ H Q → t σ H Q) : PE X e t' := ⟨fun pins s σ H Q I w => h.run pins s σ H Q I (q σ H Q w)⟩
theorem PA.imp {X : Cx} {e : List Expr} {t t' : TA} (h : PA X e t) (q : ∀ σ H Q, t' σ H Q → t σ H Q) : PA X e t' := ⟨fun pos pins s σ H Q I w => h.run pos pins s σ H Q I (q σ H Q w)⟩
theorem PT.imp {X : Cx} {e : Expr} {t t' : TT} (h : PT X e t) (q : ∀ σ H Q, t' σ H Q → t σ H Q) : PT X e t' := ⟨fun pins s σ H Q I w => h.run pins s σ H Q I (q σ H Q w)⟩
theorem PW.imp {X : Cx} {e : Expr} {t t' : TT} (h : PW X e t) (q : ∀ σ H Q, t' σ H Q → t σ H Q) : PW X e t' := ⟨fun wh pins s σ H Q I w => h.run wh pins s σ H Q I (q σ H Q w)⟩
theorem PS.imp {X : Cx} {e : Stmt} {t t' : TS} (h : PS X e t) (q : ∀ D σ H, t' D σ H → t D σ H) : PS X e t' := ⟨fun pins s σ H D I w => h.run pins s σ H D I (q D σ H w)⟩
theorem PSs.imp {X : Cx} {e : List Stmt} {t t' : TS} (h : PSs X e t) (q : ∀ D σ H, t' D σ H → t D σ H) : PSs X e t' := ⟨fun pins s σ H D I w => h.run pins s σ H D I (q D σ H w)⟩

section
variable {X : Cx} {B : Bs} {e a b : Expr} {es : List Expr} {ta tb : ZT} {t : ZA} {tc : ZB}
/-- go on behind an expression -/
theorem ZE.go (h : ZE X B e ta) {ρ : ZEnv} {S : Sto} {σ : L2.St} {H : Hp} {R : ZQ} {Q : VK} (hE : RE X.K H ρ σ) (hS : RS X.K B S H) (w : ta ρ S R)
    (k : ∀ z S' v H', R z S' → Step S S' H H' → RE X.K H' ρ σ → RS X.K B S' H' → RZ X.K H' v z → Q v H') : low X.K B ta σ H Q :=
  ⟨ρ, S, hE, hS, h.mono (fun z S' r v H' st rz rs => k z S' v H' r st (hE.le (st.le hS.1)) rs rz) w⟩
theorem ZAs.go (h : ZAs X B es t) {ρ : ZEnv} {S : Sto} {σ : L2.St} {H : Hp} {R : List Z → Sto → Prop} {Q : List V → Hp → Prop} (hE : RE X.K H ρ σ) (hS : RS X.K B S H) (w : t ρ S R)
    (k : ∀ z S' v H', R z S' → Step S S' H H' → RE X.K H' ρ σ → RS X.K B S' H' → RZs X.K H' v z → Q v H') : lowA X.K B t σ H Q :=
  ⟨ρ, S, hE, hS, h.mono (fun z S' r v H' st rz rs => k z S' v H' r st (hE.le (st.le hS.1)) rs rz) w⟩
theorem ZTe.go (h : ZTe X B e tc) {ρ : ZEnv} {S : Sto} {σ : L2.St} {H : Hp} {R : Bool → Sto → Prop} {Q : Bool → Hp → Prop} (hE : RE X.K H ρ σ) (hS : RS X.K B S H) (w : tc ρ S R)
    (k : ∀ z S' H', R z S' → Step S S' H H' → RE X.K H' ρ σ → RS X.K B S' H' → Q z H') : lowB X.K B tc σ H Q :=
  ⟨ρ, S, hE, hS, h.mono (fun z S' r H' st rs => k z S' H' r st (hE.le (st.le hS.1)) rs) w⟩
theorem ZW.go (h : ZW X B e tc) {ρ : ZEnv} {S : Sto} {σ : L2.St} {H : Hp} {R : Bool → Sto → Prop} {Q : Bool → Hp → Prop} (hE : RE X.K H ρ σ) (hS : RS X.K B S H) (w : tc ρ S R)
    (k : ∀ z S' H', R z S' → Step S S' H H' → RE X.K H' ρ σ → RS X.K B S' H' → Q z H') : lowB X.K B tc σ H Q :=
  ⟨ρ, S, hE, hS, h.mono (fun z S' r H' st rs => k z S' H' r st (hE.le (st.le hS.1)) rs) w⟩

/-! ### operations by values -/
abbrev ZR2 := Z → Z → Sto → ZQ → Prop
def lowR (K : PySem.W.Frag) (B : Bs) (r : ZR2) : R2 := fun x y H Q => ∃ z1 z2 S, RZ K H x z1 ∧ RZ K H y z2 ∧ RS K B S H ∧ r z1 z2 S fun z S' => ∀ v H', Step S S' H H' → RZ K H' v z → RS K B S' H' → Q v H'
structure ZOp (X : Cx) (f : Value → Value → Sem Value) (r : ZR2) : Prop where
  mono : ∀ {x y S} {Q Q' : ZQ}, (∀ z S', Q z S' → Q' z S') → r x y S Q → r x y S Q'
  op : ∀ B, OpR X f (lowR X.K B r)
def zOp (r : ZR2) (ta tb : ZT) : ZT := fun ρ S Q => ta ρ S fun x S1 => tb ρ S1 fun y S2 => r x y S2 Q
theorem low_op {f : Value → Value → Sem Value} {r : ZR2} (ho : ZOp X f r) (ha : ZE X B a ta) (hb : ZE X B b tb) : ∀ σ H Q, low X.K B (zOp r ta tb) σ H Q → tOp (lowR X.K B r) (low X.K B ta) (low X.K B tb) σ H Q := by
  rintro σ H Q ⟨ρ, S, hE, hS, h⟩
  refine ha.go hE hS h fun x S1 v1 H1 h1 st1 E1 R1 z1 => ?_
  refine hb.go E1 R1 h1 fun y S2 v2 H2 h2 st2 E2 R2 z2 => ?_
  exact ⟨x, y, S2, z1.le (st2.le R1.1), z2, R2, ho.mono (fun z S' q v H' st rz rs => q v H' ((st1.trans st2).trans st) rz rs) h2⟩
theorem zOp_mono {f : Value → Value → Sem Value} {r : ZR2} (ho : ZOp X f r) (ha : ZE X B a ta) (hb : ZE X B b tb) {ρ : ZEnv} {S : Sto} {Q Q' : ZQ} (q : ∀ z S', Q z S' → Q' z S') (h : zOp r ta tb ρ S Q) : zOp r ta tb ρ S Q' :=
  ha.mono (fun x S1 h1 => hb.mono (fun y S2 h2 => ho.mono q h2) h1) h
theorem ze_op {op : Operator} {r : ZR2} {pos : Pos} (ho : ZOp X (binaryOp op) r) (ha : ZE X B a ta) (hb : ZE X B b tb) : ZE X B (.BinOp a op b pos) (zOp r ta tb) :=
  ⟨zOp_mono ho ha hb, PE.imp (pe_op (ho.op B) ha.pe hb.pe) (low_op ho ha hb)⟩
theorem ze_cmp {op : CmpOp} {r : ZR2} {pos : Pos} (ho : ZOp X (compareOp op) r) (ha : ZE X B a ta) (hb : ZE X B b tb) (hm : behindInMarks op b = false := by first | rfl | exact nomark _) : ZE X B (.Compare a [op] [b] pos) (zOp r ta tb) :=
  ⟨zOp_mono ho ha hb, PE.imp (pe_cmpR (ho.op B) ha.pe hb.pe hm) (low_op ho ha hb)⟩

/-! ### names and constants -/
def zVar (i : Nat) : ZT := fun ρ S Q => match ρ[i]? with
  | some (some z) => Q z S
  | _ => False
def zC (z : Z) : ZT := fun _ S Q => Q z S
theorem zv (i : Nat) {x : Str} {pos : Pos} (hN : X.N[i]? = some x := by rfl) (hv : Vis X.env.scope x := by first | exact Or.inl rfl | exact Or.inr (Or.inl rfl) | exact Or.inr (Or.inr rfl)) (hd : (x == ("__debug__" : Str)) = false := by decide)
    (hcd : (x == ("__classdict__" : Str)) = false := by decide) : ZE X B (.Name x pos) (zVar i) := by
  refine ⟨fun {ρ S Q Q'} q h => ?_, PE.imp (pe_var hN hv hd hcd) ?_⟩
  · unfold zVar at *
    split at h
    · exact q _ _ h
    · exact h.elim
  · rintro σ H Q ⟨ρ, S, hE, hS, h⟩
    unfold zVar at h
    split at h
    · rename_i z e
      obtain ⟨v, e1, rz⟩ := hE.get e
      exact ⟨v, e1, h v H (.refl _ _) rz hS⟩
    · exact h.elim
theorem ze_C {z : Z} {v : V} (h : PE X e (tC v)) (hz : ∀ H, RZ X.K H v z) : ZE X B e (zC z) := by
  refine ⟨fun q h => q _ _ h, PE.imp h ?_⟩
  rintro σ H Q ⟨ρ, S, hE, hS, h⟩
  exact h v H (.refl _ _) (hz H) hS
theorem ze_int {i j pos} : ZE X B (.Constant (.int i) j pos) (zC (zi i)) := ze_C pe_int fun _ => .d (.int i)
theorem ze_bl {i j pos} : ZE X B (.Constant (.bool i) j pos) (zC (zb i)) := ze_C pe_bl fun _ => .d (.bl i)
theorem ze_non {j pos} : ZE X B (.Constant .none j pos) (zC (.d .none)) := ze_C pe_non fun _ => .d .non
theorem ze_str {x j pos} : ZE X B (.Constant (.str x) j pos) (zC (zs x)) := ze_C pe_str fun _ => .d (.str x)
/-- a constant of the module: its data in the written part -/
theorem ze_glob {x : Str} {v : V} {u : Value} {z : Z} {pos : Pos} (hg : Gl X x) (hm : X.mg x = some u) (r : RelV v u) (hz : ∀ H, RZ X.K H v z) (hd : (x == ("__debug__" : Str)) = false := by decide) : ZE X B (.Name x pos) (zC z) :=
  ze_C (pe_glob hg hm r hd) hz

/-! ### argument lists -/
def zNil : ZA := fun _ S Q => Q [] S
def zCons (ta : ZT) (t : ZA) : ZA := fun ρ S Q => ta ρ S fun x S1 => t ρ S1 fun xs S2 => Q (x :: xs) S2
theorem za_nil : ZAs X B [] zNil := by
  refine ⟨fun q h => q _ _ h, PA.imp pa_nil ?_⟩
  rintro σ H Q ⟨ρ, S, hE, hS, h⟩
  exact h [] H (.refl _ _) .nil hS
theorem za_cons (ha : ZE X B a ta) (hr : ZAs X B es t) (hs : starEach (a :: es) X.env = (false, eval a X.env) :: starEach es X.env := by rfl) : ZAs X B (a :: es) (zCons ta t) := by
  refine ⟨fun q h => ha.mono (fun x S1 h1 => hr.mono (fun xs S2 h2 => q _ _ h2) h1) h, PA.imp (pa_cons ha.pe hr.pa hs) ?_⟩
  rintro σ H Q ⟨ρ, S, hE, hS, h⟩
  refine ha.go hE hS h fun x S1 v1 H1 h1 st1 E1 R1 z1 => ?_
  refine hr.go E1 R1 h1 fun xs S2 vs H2 h2 st2 E2 R2 zs => ?_
  exact h2 (v1 :: vs) H2 (st1.trans st2) (.cons (z1.le (st2.le R1.1)) zs) R2

/-- the data of a row of values -/
def datas : List Z → Option (List PyData)
  | [] => some []
  | .d x :: r => (datas r).map (x :: ·)
  | _ :: _ => none
theorem datas_fz {K : PySem.W.Frag} {H : Hp} : ∀ {vs : List V} {zs : List Z} {ds : List PyData}, RZs K H vs zs → datas zs = some ds → FzAll K H vs ds
  | _, _, _, .nil, e => by simp [datas] at e; subst e; exact .nil
  | _, .d x :: r, ds, .cons (.d h) t, e => by
    simp only [datas, Option.map_eq_some_iff] at e
    obtain ⟨es, e1, e2⟩ := e
    subst e2
    exact .cons h (datas_fz t e1)
  | _, .r _ :: _, _, .cons _ _, e => by simp [datas] at e
  | _, .k _ :: _, _, .cons _ _, e => by simp [datas] at e
def zTup (t : ZA) : ZT := fun ρ S Q => t ρ S fun zs S1 => match datas zs with
  | some ds => ds.length ≤ sizeLine ∧ Q (zt ds) S1
  | none => False
theorem ze_tup {x1 pos} (h : ZAs X B es t) : ZE X B (.Tuple es x1 pos) (zTup t) := by
  refine ⟨fun {ρ S Q Q'} q w => h.mono (fun zs S1 h1 => ?_) w, PE.imp (pe_tup h.pa) ?_⟩
  · split at h1
    · rename_i ds e

      exact ⟨h1.1, q _ _ h1.2⟩
    · exact h1.elim
  · rintro σ H Q ⟨ρ, S, hE, hS, w⟩
    refine h.go hE hS w fun zs S1 vs H1 h1 st1 E1 R1 rz => ?_
    split at h1
    · rename_i ds e
      have f := datas_fz rz e
      refine ⟨by rw [f.length]; exact h1.1, fun p hp => ?_⟩
      have sm : Same H1 (upd H1 p (.tup vs)) := same_fresh hp
      exact h1.2 _ _ (st1.trans (step_same sm)) (.d (.tup (SqT.of upd_same) (f.le (.same sm)))) (R1.step (R1.1.same sm) (step_same sm))
    · exact h1.elim
/-- a new list, put to rest -/
theorem pe_rest {e : Expr} {t : TE} (h : PE X e t) : PE X e (fun σ H Q => t σ H fun v H' => ∃ a xs, v = .ref a ∧ H' a = some (.lst xs) ∧ ∀ o, Q v (upd H' a (.frz o (.lst xs)))) := by
  refine ⟨fun pins s σ H Q I w => ?_⟩
  refine thn (h.run pins s σ H _ I w) fun u s1 ⟨v, H1, I1, r1, a, xs, ev, ea, q⟩ => ?_
  obtain ⟨o, I2⟩ := I1.lock ea True.intro
  exact ⟨v, _, I2, r1, q o⟩
theorem pe_restD {e : Expr} {t : TE} (h : PE X e t) : PE X e (fun σ H Q => t σ H fun v H' => ∃ a xs, v = .ref a ∧ H' a = some (.dK xs) ∧ ∀ o, Q v (upd H' a (.frz o (.dK xs)))) := by
  refine ⟨fun pins s σ H Q I w => ?_⟩
  refine thn (h.run pins s σ H _ I w) fun u s1 ⟨v, H1, I1, r1, a, xs, ev, ea, q⟩ => ?_
  obtain ⟨o, I2⟩ := I1.lock ea True.intro
  exact ⟨v, _, I2, r1, q o⟩
/-- [..] that is written no more -/
def zLst (t : ZA) : ZT := fun ρ S Q => t ρ S fun zs S1 => match datas zs with
  | some ds => ds.length ≤ sizeLine ∧ Q (zl ds) S1
  | none => False
theorem ze_lst {pos} (h : ZAs X B es t) : ZE X B (.List es pos) (zLst t) := by
  refine ⟨fun {ρ S Q Q'} q w => h.mono (fun zs S1 h1 => ?_) w, PE.imp (pe_rest (pe_lst h.pa)) ?_⟩
  · split at h1
    · rename_i ds e

      exact ⟨h1.1, q _ _ h1.2⟩
    · exact h1.elim
  · rintro σ H Q ⟨ρ, S, hE, hS, w⟩
    refine h.go hE hS w fun zs S1 vs H1 h1 st1 E1 R1 rz => ?_
    split at h1
    · rename_i ds e
      have f := datas_fz rz e
      refine ⟨by rw [f.length]; exact h1.1, fun p hp => ⟨p, vs, rfl, upd_same, fun o => ?_⟩⟩
      rw [upd_upd]
      have sm : Same H1 (upd H1 p (.frz o (.lst vs))) := same_fresh hp
      exact h1.2 _ _ (st1.trans (step_same sm)) (.d (.lst ⟨o, upd_same⟩ (f.le (.same sm)))) (R1.step (R1.1.same sm) (step_same sm))
    · exact h1.elim
/-- [..] that will be changed -/
def zLstM (t : ZA) : ZT := fun ρ S Q => t ρ S fun zs S1 => match datas zs with
  | some ds => ds.length ≤ sizeLine ∧ ∀ p, S1 p = none → Q (.r p) (S1.put p (.lst ds))
  | none => False
theorem ze_lstM {pos} (h : ZAs X B es t) : ZE X B (.List es pos) (zLstM t) := by
  refine ⟨fun {ρ S Q Q'} q w => h.mono (fun zs S1 h1 => ?_) w, PE.imp (pe_lst h.pa) ?_⟩
  · split at h1
    · rename_i ds e

      exact ⟨h1.1, fun p hp => q _ _ (h1.2 p hp)⟩
    · exact h1.elim
  · rintro σ H Q ⟨ρ, S, hE, hS, w⟩
    refine h.go hE hS w fun zs S1 vs H1 h1 st1 E1 R1 rz => ?_
    split at h1
    · rename_i ds e
      have f := datas_fz rz e
      refine ⟨by rw [f.length]; exact h1.1, fun p hp => ?_⟩
      exact h1.2 p (R1.1.fresh hp) _ _ (st1.trans (step_new hp)) (.r p) (R1.step (R1.1.new hp f) (step_new hp))
    · exact h1.elim
end
end ZL

namespace ZL
open PySem PySem.Spec PyProof.Rows L2
section
variable {X : Cx} {B : Bs}

/-! ### arithmetic -/
def rZI (C : Int → Int → Prop) (g : Int → Int → Z) : ZR2 := fun x y S Q => match x, y with
  | .d (.int i), .d (.int j) => C i j ∧ Q (g i j) S
  | _, _ => False
def rZ0 (g : Int → Int → Z) : ZR2 := fun x y S Q => match x, y with
  | .d (.int i), .d (.int j) => Q (g i j) S
  | _, _ => False
theorem zop_I {f : Value → Value → Sem Value} {C : Int → Int → Prop} {g : Int → Int → Int} (h : OpR X f (rI C fun i j => .int (g i j))) : ZOp X f (rZI C fun i j => zi (g i j)) := by
  constructor
  · intro x y S Q Q' q w
    unfold rZI at *
    split at w
    · exact ⟨w.1, q _ _ w.2⟩
    · exact w.elim
  · rintro B pins s σ H x y v u Q I rx ry ⟨z1, z2, S, h1, h2, hS, w⟩
    unfold rZI at w
    split at w
    · cases h1 with | d h1 => cases h1; cases h2 with | d h2 => cases h2; exact h pins s σ H _ _ v u Q I rx ry ⟨_, _, rfl, rfl, w.1, w.2 _ H (.refl _ _) (.d (.int _)) hS⟩
    · exact w.elim
theorem zop_0 {f : Value → Value → Sem Value} {g : Int → Int → Int} (h : OpR X f (rI0 fun i j => .int (g i j))) : ZOp X f (rZ0 fun i j => zi (g i j)) := by
  constructor
  · intro x y S Q Q' q w
    unfold rZ0 at *
    split at w
    · exact q _ _ w
    · exact w.elim
  · rintro B pins s σ H x y v u Q I rx ry ⟨z1, z2, S, h1, h2, hS, w⟩
    unfold rZ0 at w
    split at w
    · cases h1 with | d h1 => cases h1; cases h2 with | d h2 => cases h2; exact h pins s σ H _ _ v u Q I rx ry ⟨_, _, rfl, rfl, w _ H (.refl _ _) (.d (.int _)) hS⟩
    · exact w.elim
theorem zop_0b {f : Value → Value → Sem Value} {g : Int → Int → Bool} (h : OpR X f (rI0 fun i j => .bl (g i j))) : ZOp X f (rZ0 fun i j => zb (g i j)) := by
  constructor
  · intro x y S Q Q' q w
    unfold rZ0 at *
    split at w
    · exact q _ _ w
    · exact w.elim
  · rintro B pins s σ H x y v u Q I rx ry ⟨z1, z2, S, h1, h2, hS, w⟩
    unfold rZ0 at w
    split at w
    · cases h1 with | d h1 => cases h1; cases h2 with | d h2 => cases h2; exact h pins s σ H _ _ v u Q I rx ry ⟨_, _, rfl, rfl, w _ H (.refl _ _) (.d (.bl _)) hS⟩
    · exact w.elim
theorem zsub : ZOp X (binaryOp .Sub) (rZ0 fun i j => zi (i - j)) := zop_0 op_sub
theorem zlt : ZOp X (compareOp .Lt) (rZ0 fun i j => zb (decide (i < j))) := zop_0b op_lt
theorem zle : ZOp X (compareOp .LtE) (rZ0 fun i j => zb (decide (i ≤ j))) := zop_0b op_le
theorem zgt : ZOp X (compareOp .Gt) (rZ0 fun i j => zb (decide (j < i))) := zop_0b op_gt
theorem zge : ZOp X (compareOp .GtE) (rZ0 fun i j => zb (decide (j ≤ i))) := zop_0b op_ge
/-- the factors' sizes -/
def MulOk (i j : Int) : Prop := IntMulOk i j
theorem MulOk.left {i j : Int} (h1 : -(2 ^ 64) < i) (h2 : i < 2 ^ 64) : MulOk i j := .of_left (intBits_le_64 h1 h2)
theorem MulOk.right {i j : Int} (h1 : -(2 ^ 64) < j) (h2 : j < 2 ^ 64) : MulOk i j := .of_right (intBits_le_64 h1 h2)
theorem bits_le {x : Int} {n : Nat} (h : x.natAbs < 2 ^ n) : Builtin.Int.intBits x ≤ n := by
  unfold Builtin.Int.intBits
  split
  · exact Nat.zero_le _
  · rename_i hx
    have h0 : x.natAbs ≠ 0 := fun e => hx (by simpa using e)
    have := (Nat.log2_lt h0).mpr h
    omega
theorem MulOk.wide {i j : Int} {a b : Nat} (ha : i.natAbs < 2 ^ a) (hb : j.natAbs < 2 ^ b) (h : a + b ≤ 134217728) : MulOk i j := .of_le (bits_le ha) (bits_le hb) h
/-- +: ints, texts, tuples -/
def rZAdd : ZR2 := fun x y S Q => match x, y with
  | .d (.int i), .d (.int j) => Q (zi (i + j)) S
  | .d (.str i), .d (.str j) => i.length + j.length ≤ sizeLine ∧ Q (zs (i ++ j)) S
  | .d (.tuple a), .d (.tuple b) => a.length + b.length ≤ sizeLine ∧ Q (zt (a ++ b)) S
  | _, _ => False
theorem zadd : ZOp X (binaryOp .Add) rZAdd := by
  constructor
  · intro x y S Q Q' q w
    unfold rZAdd at *
    split at w
    · exact q _ _ w
    · exact ⟨w.1, q _ _ w.2⟩
    · exact ⟨w.1, q _ _ w.2⟩
    · exact w.elim
  · rintro B pins s σ H x y v u Q I rx ry ⟨z1, z2, S, h1, h2, hS, w⟩
    unfold rZAdd at w
    split at w
    · cases h1 with | d h1 => cases h1; cases h2 with | d h2 => cases h2; exact op_add pins s σ H _ _ v u Q I rx ry ⟨_, _, rfl, rfl, w _ H (.refl _ _) (.d (.int _)) hS⟩
    · cases h1 with | d h1 => cases h1; cases h2 with | d h2 => cases h2; exact op_add_str pins s σ H _ _ v u Q I rx ry ⟨_, _, rfl, rfl, w.1, w.2 _ H (.refl _ _) (.d (.str _)) hS⟩
    · rename_i a b
      cases h1 with
      | d h1 =>
        cases h1 with
        | @tup p xs _ s1 f1 =>
          cases h2 with
          | d h2 =>
            cases h2 with
            | @tup p2 ys _ s2 f2 =>
              refine op_catA pins s σ H _ _ v u Q I rx ry ⟨p, p2, xs, ys, rfl, rfl, s1, s2, by rw [f1.length, f2.length]; exact w.1, fun e => ?_, fun e e2 => ?_, fun e e2 t ht => ?_⟩
              · subst e
                cases f1
                exact w.2 _ H (.refl _ _) (.d (.tup s2 f2)) hS
              · subst e2
                cases f2
                have w2 := w.2
                rw [List.append_nil] at w2
                exact w2 _ H (.refl _ _) (.d (.tup s1 f1)) hS
              · have sm : Same H (upd H t (.tup (xs ++ ys))) := same_fresh ht
                exact w.2 _ _ (step_same sm) (.d (.tup (SqT.of upd_same) ((f1.append f2).le (.same sm)))) (hS.step (hS.1.same sm) (step_same sm))
    · exact w.elim
def rZMul : ZR2 := rZI MulOk fun i j => zi (i * j)
theorem zmul : ZOp X (binaryOp .Mult) rZMul := by
  constructor
  · intro x y S Q Q' q w
    unfold rZMul rZI at *
    split at w
    · exact ⟨w.1, q _ _ w.2⟩
    · exact w.elim
  · rintro B pins s σ H x y v u Q I rx ry ⟨z1, z2, S, h1, h2, hS, w⟩
    unfold rZMul rZI at w
    split at w
    · rename_i i j
      cases h1 with | d h1 => cases h1; cases h2 with | d h2 => cases h2; obtain ⟨t, rfl⟩ := rx; obtain ⟨t', rfl⟩ := ry; exact mul_int ⟨.int (i * j), H, I.tok _, ⟨_, rfl⟩, w.2 _ H (.refl _ _) (.d (.int _)) hS⟩ w.1
    · exact w.elim
/-- the divisor's size -/
def DivOk (_ j : Int) : Prop := j ≠ 0 ∧ j.natAbs.log2 < 9000
theorem DivOk.wide {i j : Int} {n : Nat} (h : j ≠ 0) (h2 : j.natAbs < 2 ^ n) (hn : n ≤ 9000 := by decide) : DivOk i j := ⟨h, by
  have := (Nat.log2_lt (by omega)).mpr h2
  omega⟩
theorem DivOk.small {i j : Int} (h : j ≠ 0) (h2 : j.natAbs < 2 ^ 64) : DivOk i j := .wide h h2
theorem op_fdivZ : OpR X (binaryOp .FloorDiv) (rI DivOk fun i j => .int (i.fdiv j)) := opI fun _ _ _ _ _ _ _ hc q => floordiv_int hc.1 q (.inl (PyProof.noPylong_of_log2 hc.2))
theorem zfdiv : ZOp X (binaryOp .FloorDiv) (rZI DivOk fun i j => zi (i.fdiv j)) := zop_I op_fdivZ
theorem zmod : ZOp X (binaryOp .Mod) (rZI (fun _ j => 0 < j) fun i j => zi (i % j)) := zop_I op_mod
def PowOk (i j : Int) : Prop := 0 ≤ j ∧ j ≤ 1000000 ∧ i.natAbs < 2 ^ 64
theorem zpow : ZOp X (binaryOp .Pow) (rZI PowOk fun i j => zi (i ^ j.toNat)) := zop_I (C := PowOk) fun pins s σ H x y v u Q I rx ry h => op_pow pins s σ H x y v u Q I rx ry h
/-- -a -/
def zNeg (ta : ZT) : ZT := fun ρ S Q => ta ρ S fun x S1 => match x with
  | .d (.int i) => Q (zi (-i)) S1
  | _ => False
theorem ze_neg {a : Expr} {ta : ZT} {pos : Pos} (ha : ZE X B a ta) : ZE X B (.UnaryOp .USub a pos) (zNeg ta) := by
  refine ⟨fun {ρ S Q Q'} q w => ha.mono (fun z S1 h1 => ?_) w, PE.imp (pe_un un_neg ha.pe) ?_⟩
  · split at h1
    · exact q _ _ h1
    · exact h1.elim
  · rintro σ H Q ⟨ρ, S, hE, hS, h⟩
    refine ha.go hE hS h fun x S1 v1 H1 h1 st1 E1 R1 z1 => ?_
    split at h1
    · cases z1 with | d z1 => cases z1; exact ⟨_, rfl, h1 _ H1 st1 (.d (.int _)) R1⟩
    · exact h1.elim

/-! ### == and != -/
theorem Fz.dp {K : PySem.W.Frag} {H : Hp} : ∀ {d : PyData} {v : V}, d.hasDict = false → Fz K H v d → Dp K H v d := by
  have main : ∀ n, (∀ (d : PyData) (v : V), sizeOf d < n → d.hasDict = false → Fz K H v d → Dp K H v d) ∧ ∀ (ds : List PyData) (vs : List V), sizeOf ds < n → PyData.hasDictAll ds = false → FzAll K H vs ds → DpAll K H vs ds := by
    intro n
    induction n with
    | zero => exact ⟨fun _ _ h => absurd h (Nat.not_lt_zero _), fun _ _ h => absurd h (Nat.not_lt_zero _)⟩
    | succ n ih =>
      constructor
      · intro d v hn hd h
        cases h with
        | non => exact .non
        | bl b => exact .bl b
        | int i => exact .int i
        | str x => exact .str x
        | lst s f => exact .lst s.l (ih.2 _ _ (by simp only [PyData.list.sizeOf_spec] at hn; omega) (by simpa [PyData.hasDict] using hd) f)
        | tup s f => exact .tup s (ih.2 _ _ (by simp only [PyData.tuple.sizeOf_spec] at hn; omega) (by simpa [PyData.hasDict] using hd) f)
        | dic e => simp [PyData.hasDict] at hd
      · intro ds vs hn hd h
        cases h with
        | nil => exact .nil
        | cons h t =>
          simp only [List.cons.sizeOf_spec] at hn
          simp only [PyData.hasDictAll, Bool.or_eq_false_iff] at hd
          exact .cons (ih.1 _ _ (by omega) hd.1 h) (ih.2 _ _ (by omega) hd.2 t)
  intro d v hd h
  exact (main (sizeOf d + 1)).1 d v (Nat.lt_succ_self _) hd h
theorem noDict_of_shaped {d : PyData} (h : SeqAt.shaped d = true) : d.hasDict = false := PyData.hasDict_of_canLay d (SeqAt.canLay_of_shaped h)
def Sh (a b : PyData) : Prop := SeqAt.shaped a = true ∧ SeqAt.shaped b = true
def rZEq : ZR2 := fun x y S Q => match x, y with
  | .d (.int i), .d (.int j) => Q (zb (decide (i = j))) S
  | .d (.str i), .d (.str j) => Q (zb (decide (i = j))) S
  | .d a, .d b => Sh a b ∧ Q (zb (PyData.eqv a b)) S
  | _, _ => False
def rZNe : ZR2 := fun x y S Q => match x, y with
  | .d (.int i), .d (.int j) => Q (zb (!decide (i = j))) S
  | .d (.str i), .d (.str j) => Q (zb (!decide (i = j))) S
  | .d a, .d b => Sh a b ∧ Q (zb (!PyData.eqv a b)) S
  | _, _ => False
theorem zeq {k : Nat} (hr : Room k X.A) : ZOp X (compareOp .Eq) rZEq := by
  constructor
  · intro x y S Q Q' q w
    unfold rZEq at *
    split at w
    · exact q _ _ w
    · exact q _ _ w
    · exact ⟨w.1, q _ _ w.2⟩
    · exact w.elim
  · rintro B pins s σ H x y v u Q I rx ry ⟨z1, z2, S, h1, h2, hS, w⟩
    unfold rZEq at w
    split at w
    · cases h1 with | d h1 => cases h1; cases h2 with | d h2 => cases h2; refine op_eq pins s σ H _ _ v u Q I rx ry ⟨rfl, ?_⟩; have w1 := w (.bl _) H (.refl _ _) (.d (.bl _)) hS; simpa using w1
    · cases h1 with | d h1 => cases h1; cases h2 with | d h2 => cases h2; refine op_eq pins s σ H _ _ v u Q I rx ry ⟨rfl, ?_⟩; have w1 := w (.bl _) H (.refl _ _) (.d (.bl _)) hS; simpa using w1
    · cases h1 with | d h1 => cases h2 with | d h2 => exact op_eqD hr.units pins s σ H _ _ v u Q I rx ry ⟨_, _, h1.dp (noDict_of_shaped w.1.1), h2.dp (noDict_of_shaped w.1.2), w.1.1, w.1.2, w.2 _ H (.refl _ _) (.d (.bl _)) hS⟩
    · exact w.elim
theorem zne {k : Nat} (hr : Room k X.A) : ZOp X (compareOp .NotEq) rZNe := by
  constructor
  · intro x y S Q Q' q w
    unfold rZNe at *
    split at w
    · exact q _ _ w
    · exact q _ _ w
    · exact ⟨w.1, q _ _ w.2⟩
    · exact w.elim
  · rintro B pins s σ H x y v u Q I rx ry ⟨z1, z2, S, h1, h2, hS, w⟩
    unfold rZNe at w
    split at w
    · cases h1 with | d h1 => cases h1; cases h2 with | d h2 => cases h2; refine op_ne pins s σ H _ _ v u Q I rx ry ⟨rfl, ?_⟩; have w1 := w (.bl _) H (.refl _ _) (.d (.bl _)) hS; simpa using w1
    · cases h1 with | d h1 => cases h1; cases h2 with | d h2 => cases h2; refine op_ne pins s σ H _ _ v u Q I rx ry ⟨rfl, ?_⟩; have w1 := w (.bl _) H (.refl _ _) (.d (.bl _)) hS; simpa using w1
    · cases h1 with | d h1 => cases h2 with | d h2 => exact op_neD hr.units pins s σ H _ _ v u Q I rx ry ⟨_, _, h1.dp (noDict_of_shaped w.1.1), h2.dp (noDict_of_shaped w.1.2), w.1.1, w.1.2, w.2 _ H (.refl _ _) (.d (.bl _)) hS⟩
    · exact w.elim

/-! ### tests -/
def zTest (t : ZT) : ZB := fun ρ S Q => t ρ S fun z S1 => match z with
  | .d (.bool b) => Q b S1
  | _ => False
theorem zTest_mono {e : Expr} {t : ZT} (h : ZE X B e t) {ρ : ZEnv} {S : Sto} {Q Q' : Bool → Sto → Prop} (q : ∀ z S', Q z S' → Q' z S') (w : zTest t ρ S Q) : zTest t ρ S Q' :=
  h.mono (fun z S1 h1 => by
    split at h1
    · exact q _ _ h1
    · exact h1.elim) w
theorem low_test {e : Expr} {t : ZT} (h : ZE X B e t) : ∀ σ H Q, lowB X.K B (zTest t) σ H Q → tB (low X.K B t) σ H Q := by
  rintro σ H Q ⟨ρ, S, hE, hS, w⟩
  refine h.go hE hS w fun z S1 v H1 h1 st1 E1 R1 rz => ?_
  split at h1
  · cases rz with | d rz => cases rz; exact ⟨_, rfl, h1 H1 st1 R1⟩
  · exact h1.elim
/-- an expression that gives a truth -/
theorem zt_val {e : Expr} {t : ZT} (h : ZE X B e t) (he : ∀ whole, isTrue e X.env whole = (do let v ← whole; standAt e.pos; holding [v] (truthy v)) := by intro _; rfl) : ZTe X B e (zTest t) :=
  ⟨zTest_mono h, PT.imp (pt_val h.pe he) (low_test h)⟩
theorem zt_cmp {op : CmpOp} {r : ZR2} {a b : Expr} {ta tb : ZT} {pos : Pos} (ho : ZOp X (compareOp op) r) (ha : ZE X B a ta) (hb : ZE X B b tb) (hm : behindInMarks op b = false := by first | rfl | exact nomark _) :
    ZTe X B (.Compare a [op] [b] pos) (zTest (zOp r ta tb)) := by
  refine ⟨zTest_mono (ze_cmp (pos := pos) ho ha hb hm), PT.imp (pt_cmpR (ho.op B) ha.pe hb.pe hm) fun σ H Q w => ?_⟩
  have w2 := low_test (ze_cmp (pos := pos) ho ha hb hm) σ H Q w
  exact low_op ho ha hb σ H _ w2
/-- two ways -/
def zBr (b : Bool) (x y : Prop) : Prop := match b with
  | true => x
  | false => y
theorem zbr {b : Bool} {x y : Prop} (h1 : b = true → x) (h2 : b = false → y) : zBr b x y := by
  cases b with
  | true => exact h1 rfl
  | false => exact h2 rfl
theorem zBr.mono {b : Bool} {x y x' y' : Prop} (h1 : x → x') (h2 : y → y') (h : zBr b x y) : zBr b x' y' := by
  cases b with
  | true => exact h1 h
  | false => exact h2 h
def zAnd (t u : ZB) : ZB := fun ρ S Q => t ρ S fun c S1 => zBr c (u ρ S1 Q) (Q false S1)
def zOr (t u : ZB) : ZB := fun ρ S Q => t ρ S fun c S1 => zBr c (Q true S1) (u ρ S1 Q)
def zNot (t : ZB) : ZB := fun ρ S Q => t ρ S fun c S1 => Q (!c) S1
variable {a b : Expr} {rest : List Expr} {tA tB' : ZB} {pos : Pos}
theorem zw_and1 (ha : ZTe X B a tA) : ZW X B (.BoolOp .And [a] pos) tA := ⟨ha.mono, pw_and1 ha.pt⟩
theorem zw_or1 (ha : ZTe X B a tA) : ZW X B (.BoolOp .Or [a] pos) tA := ⟨ha.mono, pw_or1 ha.pt⟩
theorem zw_and (ha : ZTe X B a tA) (hb : ZW X B (.BoolOp .And (b :: rest) pos) tB') : ZW X B (.BoolOp .And (a :: b :: rest) pos) (zAnd tA tB') := by
  refine ⟨fun {ρ S Q Q'} q w => ha.mono (fun c S1 h1 => h1.mono (hb.mono q) (q _ _)) w, PW.imp (pw_and ha.pt hb.pw) ?_⟩
  rintro σ H Q ⟨ρ, S, hE, hS, w⟩
  refine ha.go hE hS w fun c S1 H1 h1 st1 E1 R1 => ?_
  cases c with
  | true => exact hb.go E1 R1 h1 fun d S2 H2 h2 st2 E2 R2 => h2 H2 (st1.trans st2) R2
  | false => exact h1 H1 st1 R1
theorem zw_or (ha : ZTe X B a tA) (hb : ZW X B (.BoolOp .Or (b :: rest) pos) tB') : ZW X B (.BoolOp .Or (a :: b :: rest) pos) (zOr tA tB') := by
  refine ⟨fun {ρ S Q Q'} q w => ha.mono (fun c S1 h1 => h1.mono (q _ _) (hb.mono q)) w, PW.imp (pw_or ha.pt hb.pw) ?_⟩
  rintro σ H Q ⟨ρ, S, hE, hS, w⟩
  refine ha.go hE hS w fun c S1 H1 h1 st1 E1 R1 => ?_
  cases c with
  | true => exact h1 H1 st1 R1
  | false => exact hb.go E1 R1 h1 fun d S2 H2 h2 st2 E2 R2 => h2 H2 (st1.trans st2) R2
theorem ZW.t (h : ZW X B a tA) : ZTe X B a tA := ⟨h.mono, h.pw.pt⟩
theorem zt_not (ha : ZTe X B a tA) : ZTe X B (.UnaryOp .Not a pos) (zNot tA) := by
  refine ⟨fun {ρ S Q Q'} q w => ha.mono (fun c S1 h1 => q _ _ h1) w, PT.imp (pt_not ha.pt) ?_⟩
  rintro σ H Q ⟨ρ, S, hE, hS, w⟩
  exact ha.go hE hS w fun c S1 H1 h1 st1 E1 R1 => h1 H1 st1 R1
/-! .. as values -/
variable {ta tb : ZT}
def zAndV (ta tb : ZT) : ZT := fun ρ S Q => ta ρ S fun x S1 => match x with
  | .d (.bool c) => zBr c (tb ρ S1 Q) (Q (zb false) S1)
  | _ => False
def zOrV (ta tb : ZT) : ZT := fun ρ S Q => ta ρ S fun x S1 => match x with
  | .d (.bool c) => zBr c (Q (zb true) S1) (tb ρ S1 Q)
  | _ => False
def zNotV (ta : ZT) : ZT := fun ρ S Q => ta ρ S fun x S1 => match x with
  | .d (.bool c) => Q (zb (!c)) S1
  | _ => False
theorem ze_one {op} (h : ZE X B a ta) : ZE X B (.BoolOp op [a] pos) ta := ⟨h.mono, pe_one h.pe⟩
theorem ze_and (ha : ZE X B a ta) (hb : ZE X B (.BoolOp .And (b :: rest) pos) tb) : ZE X B (.BoolOp .And (a :: b :: rest) pos) (zAndV ta tb) := by
  refine ⟨fun {ρ S Q Q'} q w => ha.mono (fun c S1 h1 => ?_) w, PE.imp (pe_and ha.pe hb.pe) ?_⟩
  · split at h1
    · exact h1.mono (hb.mono q) (q _ _)
    · exact h1.elim
  · rintro σ H Q ⟨ρ, S, hE, hS, w⟩
    refine ha.go hE hS w fun c S1 v1 H1 h1 st1 E1 R1 rz => ?_
    split at h1
    · rename_i c
      cases rz with | d rz => cases rz; refine ⟨_, rfl, ?_⟩; cases c with
        | true => exact iteT (hb.go E1 R1 h1 fun d S2 v2 H2 h2 st2 E2 R2 z2 => h2 v2 H2 (st1.trans st2) z2 R2)
        | false => exact iteF (h1 _ H1 st1 (.d (.bl _)) R1)
    · exact h1.elim
theorem ze_or (ha : ZE X B a ta) (hb : ZE X B (.BoolOp .Or (b :: rest) pos) tb) : ZE X B (.BoolOp .Or (a :: b :: rest) pos) (zOrV ta tb) := by
  refine ⟨fun {ρ S Q Q'} q w => ha.mono (fun c S1 h1 => ?_) w, PE.imp (pe_or ha.pe hb.pe) ?_⟩
  · split at h1
    · exact h1.mono (q _ _) (hb.mono q)
    · exact h1.elim
  · rintro σ H Q ⟨ρ, S, hE, hS, w⟩
    refine ha.go hE hS w fun c S1 v1 H1 h1 st1 E1 R1 rz => ?_
    split at h1
    · rename_i c
      cases rz with | d rz => cases rz; refine ⟨_, rfl, ?_⟩; cases c with
        | true => exact iteT (h1 _ H1 st1 (.d (.bl _)) R1)
        | false => exact iteF (hb.go E1 R1 h1 fun d S2 v2 H2 h2 st2 E2 R2 z2 => h2 v2 H2 (st1.trans st2) z2 R2)
    · exact h1.elim
theorem ze_not (ha : ZE X B a ta) : ZE X B (.UnaryOp .Not a pos) (zNotV ta) := by
  refine ⟨fun {ρ S Q Q'} q w => ha.mono (fun c S1 h1 => ?_) w, PE.imp (pe_not ha.pe) ?_⟩
  · split at h1
    · exact q _ _ h1
    · exact h1.elim
  · rintro σ H Q ⟨ρ, S, hE, hS, w⟩
    refine ha.go hE hS w fun c S1 v1 H1 h1 st1 E1 R1 rz => ?_
    split at h1
    · cases rz with | d rz => cases rz; exact ⟨_, rfl, h1 _ H1 st1 (.d (.bl _)) R1⟩
    · exact h1.elim
def zIf (t : ZB) (ta tb : ZT) : ZT := fun ρ S Q => t ρ S fun c S1 => zBr c (ta ρ S1 Q) (tb ρ S1 Q)
theorem ze_if {c : Expr} (hc : ZTe X B c tA) (ha : ZE X B a ta) (hb : ZE X B b tb) : ZE X B (.IfExp c a b pos) (zIf tA ta tb) := by
  refine ⟨fun {ρ S Q Q'} q w => hc.mono (fun c S1 h1 => h1.mono (ha.mono q) (hb.mono q)) w, PE.imp (pe_ifExp hc.pt ha.pe hb.pe) ?_⟩
  rintro σ H Q ⟨ρ, S, hE, hS, w⟩
  refine hc.go hE hS w fun c S1 H1 h1 st1 E1 R1 => ?_
  cases c with
  | true => exact iteT (ha.go E1 R1 h1 fun d S2 v2 H2 h2 st2 E2 R2 z2 => h2 v2 H2 (st1.trans st2) z2 R2)
  | false => exact iteF (hb.go E1 R1 h1 fun d S2 v2 H2 h2 st2 E2 R2 z2 => h2 v2 H2 (st1.trans st2) z2 R2)

/-! ### places -/
/-- the items of a row -/
def rowZ (S : Sto) : Z → Option (List PyData)
  | .d (.list xs) => some xs
  | .d (.tuple xs) => some xs
  | .k xs => some xs
  | .r a => match S a with
    | some (.lst xs) => some xs
    | _ => none
  | _ => none
theorem rowZ_sq {K : PySem.W.Frag} {S : Sto} {H : Hp} {z : Z} {v : V} {xs : List PyData} (hS : RS0 K S H) (rz : RZ K H v z) (e : rowZ S z = some xs) : ∃ a vs, v = .ref a ∧ (SqL K H a vs ∨ SqT K H a vs) ∧ FzAll K H vs xs := by
  cases rz with
  | d h =>
    cases h with
    | lst s f => simp [rowZ] at e; subst e; exact ⟨_, _, rfl, .inl s.l, f⟩
    | tup s f => simp [rowZ] at e; subst e; exact ⟨_, _, rfl, .inr s, f⟩
    | _ => simp [rowZ] at e
  | k s f => simp [rowZ] at e; subst e; exact ⟨_, _, rfl, .inl s.l, f⟩
  | r a =>
    simp only [rowZ] at e
    cases q : S a with
    | none => rw [q] at e; cases e
    | some c =>
      cases c with
      | lst ys =>
        rw [q] at e
        cases e
        obtain ⟨vs, h, f⟩ := hS a _ q
        exact ⟨a, vs, rfl, .inl (.of h), f⟩
def rZIx : ZR2 := fun x y S Q => match y with
  | .d (.int i) => match rowZ S x with
    | some xs => match atI xs i with
      | some d => Q (.d d) S
      | none => False
    | none => False
  | _ => False
theorem atI_fz {K : PySem.W.Frag} {H : Hp} {vs : List V} {xs : List PyData} {i : Int} {d : PyData} (f : FzAll K H vs xs) (e : atI xs i = some d) : ∃ v, atI vs i = some v ∧ Fz K H v d := by
  unfold atI at e ⊢
  rw [f.length]
  cases q : ixN xs.length i with
  | none => rw [q] at e; cases e
  | some j =>
    rw [q] at e
    exact f.get (i := j) e
theorem ze_ix {a b : Expr} {ta tb : ZT} {pos : Pos} (ha : ZE X B a ta) (hb : ZE X B b tb) (hs : PlainIx b := by intro _ _; rfl) : ZE X B (.Subscript a b pos) (zOp rZIx ta tb) := by
  have mono : ∀ {x y S} {Q Q' : ZQ}, (∀ z S', Q z S' → Q' z S') → rZIx x y S Q → rZIx x y S Q' := by
    intro x y S Q Q' q w
    unfold rZIx at *
    repeat' split at w
    · exact q _ _ w
    · exact w.elim
    · exact w.elim
    · exact w.elim
  refine ⟨fun {ρ S Q Q'} q w => ha.mono (fun x S1 h1 => hb.mono (fun y S2 h2 => mono q h2) h1) w, PE.imp (pe_ix (ix_list.or ix_tup) ha.pe hb.pe hs) ?_⟩
  rintro σ H Q ⟨ρ, S, hE, hS, w⟩
  refine ha.go hE hS w fun x S1 v1 H1 h1 st1 E1 R1 z1 => ?_
  refine hb.go E1 R1 h1 fun y S2 v2 H2 h2 st2 E2 R2 z2 => ?_
  unfold rZIx at h2
  split at h2
  · split at h2
    · rename_i xs e
      split at h2
      · rename_i d e2
        obtain ⟨p, vs, rfl, hq, f⟩ := rowZ_sq R2.1 (z1.le (st2.le R1.1)) e
        obtain ⟨v, ev, fv⟩ := atI_fz f e2
        cases z2 with
        | d z2 =>
          cases z2
          rcases hq with hq | hq
          · exact .inl ⟨p, vs, _, v, rfl, rfl, hq, ev, h2 v H2 (st1.trans st2) (.d fv) R2⟩
          · exact .inr ⟨p, vs, _, v, rfl, rfl, hq, ev, h2 v H2 (st1.trans st2) (.d fv) R2⟩
      · exact h2.elim
    · exact h2.elim
  · exact h2.elim
end
end ZL

namespace ZL
open PySem PySem.Spec PyProof.Rows L2

/-! ### what repr asks -/
mutual
def lfree : PyData → Bool
  | .list _ => false
  | .tuple xs => lfreeAll xs
  | _ => true
def lfreeAll : List PyData → Bool
  | [] => true
  | x :: xs => lfree x && lfreeAll xs
end
structure Shw (x : PyData) : Prop where
  s : x.showable = true
  d : x.depth ≤ 100
  l : x.hasDict = false ∨ lfree x = true
  z : x.shown.length ≤ sizeLine
section
variable {X : Cx} {pins : List (Addr × Obj)} {σ : L2.St} {H : Hp} {s : Shared}
mutual
theorem Fz.reads (I : Inv X pins σ H s) : ∀ {d : PyData} {v : V} {u : Value}, Fz X.K H v d → RelV v u → ∃ as, Reads s.heap u d as ∧ (lfree d = true → sysModules ∉ as)
  | _, _, _, .non, r => by cases r; exact ⟨_, .none, fun _ => by simp⟩
  | _, _, _, .bl b, r => by cases r; exact ⟨_, .bool b, fun _ => by simp⟩
  | _, _, _, .int i, r => by obtain ⟨t, rfl⟩ := r; exact ⟨_, .int i t, fun _ => by simp⟩
  | _, _, _, .str x, r => by obtain ⟨t, rfl⟩ := r; exact ⟨_, .str x t, fun _ => by simp⟩
  | _, _, _, .lst q f, r => by
    cases r
    obtain ⟨its, rv, ⟨o, n, e, c, _, dt⟩, _⟩ := I.list (SqF.l q)
    obtain ⟨as, ra, _⟩ := FzAll.reads I f rv
    exact ⟨_, .list e c dt (by simpa using ra), fun h => by simp [lfree] at h⟩
  | _, _, _, .tup q f, r => by
    cases r
    obtain ⟨its, rv, ⟨o, e, c, n, dt⟩, _⟩ := I.tuple q
    obtain ⟨as, ra, ha⟩ := FzAll.reads I f rv
    exact ⟨_, .tuple e c dt (by simpa using ra), fun h => ha (by simpa [lfree] using h)⟩
  | _, _, _, .dic (a := a) q, r => by
    cases r
    obtain ⟨e, z, y, vs, kv, ob, es, ep, e2, hx, hd, _, hl, _⟩ := I.hok _ _ q
    cases kv
    have hes : es.toList = [] := by
      generalize es.toList = l at hl
      cases hl
      rfl
    refine ⟨_, .dict (kvs := []) e2 hx.1 hd (by rw [hes]; exact .nil) (by rw [hes]; exact .nil), fun _ h => ?_⟩
    simp only [List.append_nil, List.mem_singleton] at h
    rw [h] at y
    simp at y
theorem FzAll.reads (I : Inv X pins σ H s) : ∀ {ds : List PyData} {vs : List V} {us : List Value}, FzAll X.K H vs ds → Vals vs us → ∃ as, ReadsAll s.heap us ds as ∧ (lfreeAll ds = true → sysModules ∉ as)
  | _, _, _, .nil, r => by cases r; exact ⟨_, .nil, fun _ => by simp⟩
  | _, _, _, .cons h t, r => by
    cases r with
    | cons r1 r2 =>
      obtain ⟨as, q1, n1⟩ := Fz.reads I h r1
      obtain ⟨bs, q2, n2⟩ := FzAll.reads I t r2
      refine ⟨_, .cons q1 q2, fun hl hm => ?_⟩
      simp only [lfreeAll, Bool.and_eq_true] at hl
      rcases List.mem_append.mp hm with hm | hm
      · exact n1 hl.1 hm
      · exact n2 hl.2 hm
end
end

/-! ### calls of what is built in -/
section
variable {X : Cx} {B : Bs}
abbrev ZC1 := List Z → Sto → ZQ → Prop
def lowC (K : PySem.W.Frag) (B : Bs) (r : ZC1) : List V → Hp → VK → Prop := fun vs H Q => ∃ zs S, RZs K H vs zs ∧ RS K B S H ∧ r zs S fun z S' => ∀ v H', Step S S' H H' → RZ K H' v z → RS K B S' H' → Q v H'
structure ZCl (X : Cx) (f : Value) (r : ZC1) : Prop where
  mono : ∀ {zs S} {Q Q' : ZQ}, (∀ z S', Q z S' → Q' z S') → r zs S Q → r zs S Q'
  op : ∀ B, CallR X f (lowC X.K B r)
def zCall (r : ZC1) (t : ZA) : ZT := fun ρ S Q => t ρ S fun zs S1 => r zs S1 Q
theorem low_call {f : Value} {r : ZC1} {es : List Expr} {t : ZA} (hc : ZCl X f r) (ha : ZAs X B es t) : ∀ σ H Q, low X.K B (zCall r t) σ H Q → tCB (lowC X.K B r) (lowA X.K B t) σ H Q := by
  rintro σ H Q ⟨ρ, S, hE, hS, h⟩
  refine ha.go hE hS h fun zs S1 vs H1 h1 st1 E1 R1 z1 => ?_
  exact ⟨zs, S1, z1, R1, hc.mono (fun z S' q v H' st rz rs => q v H' (st1.trans st) rz rs) h1⟩
variable {x : Str} {p pos : Pos} {e : Expr} {es : List Expr} {t : ZA} {id T : String} {r : ZC1}
theorem ze_callB (hc : ZCl X (.builtin id) r) (hg : Gl X x) (hm : X.mg x = none) (hv : bootBuiltins x = some (.builtin id)) (ha : ZAs X B (e :: es) t) (hn : x ≠ "__name__" := by decide) (hdb : (x == ("__debug__" : Str)) = false := by decide)
    (he : starEach (e :: es) X.env = (false, eval e X.env) :: starEach es X.env := by rfl) (hpl : (backTo pos (starEach es X.env)).any (·.1) = false := by rfl) : ZE X B (.Call (.Name x p) (e :: es) [] pos) (zCall r t) :=
  ⟨fun q w => ha.mono (fun zs S1 h1 => hc.mono q h1) w, PE.imp (pe_callB (hc.op B) hg hm hv ha.pa hn hdb he hpl) (low_call hc ha)⟩
theorem ze_callTy (hc : ZCl X (.type T) r) (hg : Gl X x) (hm : X.mg x = none) (hv : bootBuiltins x = some (.type T)) (ha : ZAs X B (e :: es) t) (hn : x ≠ "__name__" := by decide) (hdb : (x == ("__debug__" : Str)) = false := by decide)
    (he : starEach (e :: es) X.env = (false, eval e X.env) :: starEach es X.env := by rfl) (hpl : (backTo pos (starEach es X.env)).any (·.1) = false := by rfl) : ZE X B (.Call (.Name x p) (e :: es) [] pos) (zCall r t) :=
  ⟨fun q w => ha.mono (fun zs S1 h1 => hc.mono q h1) w, PE.imp (pe_callTy (hc.op B) hg hm hv ha.pa hn hdb he hpl) (low_call hc ha)⟩
theorem rzs1 {K : PySem.W.Frag} {H : Hp} {vs : List V} {z : Z} (h : RZs K H vs [z]) : ∃ v, vs = [v] ∧ RZ K H v z := by
  cases h with | cons h t => cases t; exact ⟨_, rfl, h⟩
theorem rzs2 {K : PySem.W.Frag} {H : Hp} {vs : List V} {z z' : Z} (h : RZs K H vs [z, z']) : ∃ v v', vs = [v, v'] ∧ RZ K H v z ∧ RZ K H v' z' := by
  cases h with | cons h t => cases t with | cons h' t => cases t; exact ⟨_, _, rfl, h, h'⟩

/-- one int in, a value out -/
theorem zcl_i {f : Value} {g : Int → Int} (h : CallR X f (fun xs H Q => ∃ i, xs = [.int i] ∧ Q (.int (g i)) H)) : ZCl X f (fun zs S Q => match zs with | [.d (.int i)] => Q (zi (g i)) S | _ => False) := by
  constructor
  · intro zs S Q Q' q w
    split at w
    · exact q _ _ w
    · exact w.elim
  · rintro B pins s σ H vs us Q I r ⟨zs, S, rz, hS, w⟩
    split at w
    · obtain ⟨v, rfl, hz⟩ := rzs1 rz
      cases hz with | d hz => cases hz; exact h pins s σ H _ us Q I r ⟨_, rfl, w _ H (.refl _ _) (.d (.int _)) hS⟩
    · exact w.elim
theorem zcl_ii {f : Value} {g : Int → Int → Int} (h : CallR X f (fun xs H Q => ∃ i j, xs = [.int i, .int j] ∧ Q (.int (g i j)) H)) : ZCl X f (fun zs S Q => match zs with | [.d (.int i), .d (.int j)] => Q (zi (g i j)) S | _ => False) := by
  constructor
  · intro zs S Q Q' q w
    split at w
    · exact q _ _ w
    · exact w.elim
  · rintro B pins s σ H vs us Q I r ⟨zs, S, rz, hS, w⟩
    split at w
    · obtain ⟨v, v', rfl, hz, hz'⟩ := rzs2 rz
      cases hz with | d hz => cases hz; cases hz' with | d hz' => cases hz'; exact h pins s σ H _ us Q I r ⟨_, _, rfl, w _ H (.refl _ _) (.d (.int _)) hS⟩
    · exact w.elim
def absI (i : Int) : Int := if i < 0 then -i else i
def maxI (i j : Int) : Int := if j > i then j else i
def minI (i j : Int) : Int := if j < i then j else i
theorem absI_eq (i : Int) : absI i = (i.natAbs : Int) := by unfold absI; split <;> omega
theorem maxI_eq (i j : Int) : maxI i j = max i j := by unfold maxI; split <;> omega
theorem minI_eq (i j : Int) : minI i j = min i j := by unfold minI; split <;> omega
def rZAbs : ZC1 := fun zs S Q => match zs with | [.d (.int i)] => Q (zi (absI i)) S | _ => False
def rZMax : ZC1 := fun zs S Q => match zs with | [.d (.int i), .d (.int j)] => Q (zi (maxI i j)) S | _ => False
def rZMin : ZC1 := fun zs S Q => match zs with | [.d (.int i), .d (.int j)] => Q (zi (minI i j)) S | _ => False
theorem zabs : ZCl X (.builtin "abs") rZAbs := zcl_i (g := absI) call_abs
theorem zmax (hc : X.calm = true := by rfl) : ZCl X (.builtin "max") rZMax := zcl_ii (g := maxI) (call_max2 hc)
theorem zmin (hc : X.calm = true := by rfl) : ZCl X (.builtin "min") rZMin := zcl_ii (g := minI) (call_min2 hc)
/-- int(n), int(flag) -/
def rZInt : ZC1 := fun zs S Q => match zs with | [.d (.int i)] => Q (zi i) S | [.d (.bool b)] => Q (zi (if b then 1 else 0)) S | _ => False
theorem zint : ZCl X (.type "int") rZInt := by
  constructor
  · intro zs S Q Q' q w
    unfold rZInt at *
    split at w
    · exact q _ _ w
    · exact q _ _ w
    · exact w.elim
  · rintro B pins s σ H vs us Q I r ⟨zs, S, rz, hS, w⟩
    unfold rZInt at w
    split at w
    · obtain ⟨v, rfl, hz⟩ := rzs1 rz
      cases hz with | d hz => cases hz; exact call_int1 pins s σ H _ us Q I r (.inl ⟨_, rfl, w _ H (.refl _ _) (.d (.int _)) hS⟩)
    · obtain ⟨v, rfl, hz⟩ := rzs1 rz
      cases hz with | d hz => cases hz; exact call_int1 pins s σ H _ us Q I r (.inr ⟨_, rfl, w _ H (.refl _ _) (.d (.int _)) hS⟩)
    · exact w.elim
/-- len -/
def rZLen : ZC1 := fun zs S Q => match zs with
  | [.d (.str x)] => x.length ≤ sizeLine ∧ Q (zi x.length) S
  | [z] => match rowZ S z with
    | some xs => Q (zi xs.length) S
    | none => False
  | _ => False
theorem zlen : ZCl X (.builtin "len") rZLen := by
  constructor
  · intro zs S Q Q' q w
    unfold rZLen at *
    split at w
    · exact ⟨w.1, q _ _ w.2⟩
    · split at w
      · exact q _ _ w
      · exact w.elim
    · exact w.elim
  · rintro B pins s σ H vs us Q I r ⟨zs, S, rz, hS, w⟩
    unfold rZLen at w
    split at w
    · obtain ⟨v, rfl, hz⟩ := rzs1 rz
      cases hz with | d hz => cases hz; exact call_len_str pins s σ H _ us Q I r ⟨_, rfl, w.1, w.2 _ H (.refl _ _) (.d (.int _)) hS⟩
    · split at w
      · rename_i xs e
        obtain ⟨v, rfl, hz⟩ := rzs1 rz
        obtain ⟨a, ws, rfl, sq, f⟩ := rowZ_sq hS.1 hz e
        refine call_len_seq pins s σ H _ us Q I r ⟨a, ws, rfl, sq, ?_⟩
        rw [f.length]
        exact w _ H (.refl _ _) (.d (.int _)) hS
      · exact w.elim
    · exact w.elim
/-- tuple(..), list(..) put to rest, list(..) to be changed -/
def rZTuple : ZC1 := fun zs S Q => match zs with
  | [z] => match rowZ S z with
    | some xs => Q (zt xs) S
    | none => False
  | _ => False
theorem ztuple : ZCl X (.type "tuple") rZTuple := by
  constructor
  · intro zs S Q Q' q w
    unfold rZTuple at *
    split at w
    · split at w
      · exact q _ _ w
      · exact w.elim
    · exact w.elim
  · rintro B pins s σ H vs us Q I r ⟨zs, S, rz, hS, w⟩
    unfold rZTuple at w
    split at w
    · split at w
      · rename_i xs e
        obtain ⟨v, rfl, hz⟩ := rzs1 rz
        obtain ⟨a, ws, rfl, sq, f⟩ := rowZ_sq hS.1 hz e
        refine call_tuple_of pins s σ H _ us Q I r ⟨a, ws, rfl, ?_⟩
        rcases sq with sq | sq
        · refine .inl ⟨sq, fun l hl => ?_⟩
          have sm : Same H (upd H l (.tup ws)) := same_fresh hl
          exact w _ _ (step_same sm) (.d (.tup (SqT.of upd_same) (f.le (.same sm)))) (hS.step (hS.1.same sm) (step_same sm))
        · exact .inr ⟨sq, w _ H (.refl _ _) (.d (.tup sq f)) hS⟩
      · exact w.elim
    · exact w.elim
def rZListM : ZC1 := fun zs S Q => match zs with
  | [z] => match rowZ S z with
    | some xs => ∀ p, S p = none → Q (.r p) (S.put p (.lst xs))
    | none => False
  | _ => False
theorem zlistM : ZCl X (.type "list") rZListM := by
  constructor
  · intro zs S Q Q' q w
    unfold rZListM at *
    split at w
    · split at w
      · exact fun p hp => q _ _ (w p hp)
      · exact w.elim
    · exact w.elim
  · rintro B pins s σ H vs us Q I r ⟨zs, S, rz, hS, w⟩
    unfold rZListM at w
    split at w
    · split at w
      · rename_i xs e
        obtain ⟨v, rfl, hz⟩ := rzs1 rz
        obtain ⟨a, ws, rfl, sq, f⟩ := rowZ_sq hS.1 hz e
        refine call_list_of pins s σ H _ us Q I r ⟨a, ws, rfl, sq, fun l hl => ?_⟩
        exact w l (hS.1.fresh hl) _ _ (step_new hl) (.r l) (hS.step (hS.1.new hl f) (step_new hl))
      · exact w.elim
    · exact w.elim
/-- a call that gives a new list, put to rest -/
theorem callR_rest {f : Value} {r : List V → Hp → VK → Prop} (h : CallR X f r) : CallR X f (fun vs H Q => r vs H fun v H' => ∃ a xs, v = .ref a ∧ H' a = some (.lst xs) ∧ ∀ o, Q v (upd H' a (.frz o (.lst xs)))) := by
  intro pins s σ H vs us Q I rv w
  refine thn (h pins s σ H vs us _ I rv w) fun u s1 ⟨v, H1, I1, r1, a, xs, ev, ea, q⟩ => ?_
  obtain ⟨o, I2⟩ := I1.lock ea True.intro
  exact ⟨v, _, I2, r1, q o⟩
theorem opR_rest {f : Value → Value → Sem Value} {r : R2} (h : OpR X f r) : OpR X f (fun x y H Q => r x y H fun v H' => ∃ a xs, v = .ref a ∧ H' a = some (.lst xs) ∧ ∀ o, Q v (upd H' a (.frz o (.lst xs)))) := by
  intro pins s σ H x y v u Q I rx ry w
  refine thn (h pins s σ H x y v u _ I rx ry w) fun u s1 ⟨v, H1, I1, r1, a, xs, ev, ea, q⟩ => ?_
  obtain ⟨o, I2⟩ := I1.lock ea True.intro
  exact ⟨v, _, I2, r1, q o⟩
def rZList : ZC1 := fun zs S Q => match zs with
  | [z] => match rowZ S z with
    | some xs => Q (zl xs) S
    | none => False
  | _ => False
/-- a new list put to rest: what is due behind it -/
theorem rest_end {K : PySem.W.Frag} {S : Sto} {H : Hp} {B : Bs} {Q : VK} {xs : List V} {ds : List PyData} (hS : RS K B S H) (f : FzAll K H xs ds) (w : ∀ v H', Step S S H H' → RZ K H' v (zl ds) → RS K B S H' → Q v H') (p : Addr) (hp : H p = none) :
    ∃ a ys, V.ref p = .ref a ∧ (upd H p (.lst xs)) a = some (.lst ys) ∧ ∀ o, Q (.ref p) (upd (upd H p (.lst xs)) a (.frz o (.lst ys))) := by
  refine ⟨p, xs, rfl, upd_same, fun o => ?_⟩
  rw [upd_upd]
  have sm : Same H (upd H p (.frz o (.lst xs))) := same_fresh hp
  exact w _ _ (step_same sm) (.d (.lst ⟨o, upd_same⟩ (f.le (.same sm)))) (hS.step (hS.1.same sm) (step_same sm))
theorem zlist : ZCl X (.type "list") rZList := by
  constructor
  · intro zs S Q Q' q w
    unfold rZList at *
    split at w
    · split at w
      · exact q _ _ w
      · exact w.elim
    · exact w.elim
  · rintro B pins s σ H vs us Q I r ⟨zs, S, rz, hS, w⟩
    unfold rZList at w
    split at w
    · split at w
      · rename_i xs e
        obtain ⟨v, rfl, hz⟩ := rzs1 rz
        obtain ⟨a, ws, rfl, sq, f⟩ := rowZ_sq hS.1 hz e
        exact callR_rest call_list_of pins s σ H _ us Q I r ⟨a, ws, rfl, sq, fun l hl => rest_end hS f w l hl⟩
      · exact w.elim
    · exact w.elim
/-- all, any, sum -/
def boolsZ : List PyData → Option (List Bool)
  | [] => some []
  | .bool b :: r => (boolsZ r).map (b :: ·)
  | _ :: _ => none
theorem boolsZ_map : ∀ {ds : List PyData} {bs : List Bool}, boolsZ ds = some bs → ds = bs.map PyData.bool
  | [], bs, e => by simp [boolsZ] at e; subst e; rfl
  | .bool b :: r, bs, e => by
    simp only [boolsZ, Option.map_eq_some_iff] at e
    obtain ⟨c, e1, e2⟩ := e
    subst e2
    rw [boolsZ_map e1]; rfl
  | .none :: _, _, e => by simp [boolsZ] at e
  | .int _ :: _, _, e => by simp [boolsZ] at e
  | .str _ :: _, _, e => by simp [boolsZ] at e
  | .list _ :: _, _, e => by simp [boolsZ] at e
  | .tuple _ :: _, _, e => by simp [boolsZ] at e
  | .dict _ :: _, _, e => by simp [boolsZ] at e
theorem boolsZ_of : ∀ bs : List Bool, boolsZ (bs.map PyData.bool) = some bs
  | [] => rfl
  | b :: r => by simp [boolsZ, boolsZ_of r]
def intsZ : List PyData → Option (List Int)
  | [] => some []
  | .int b :: r => (intsZ r).map (b :: ·)
  | _ :: _ => none
theorem intsZ_map : ∀ {ds : List PyData} {bs : List Int}, intsZ ds = some bs → ds = bs.map PyData.int
  | [], bs, e => by simp [intsZ] at e; subst e; rfl
  | .int b :: r, bs, e => by
    simp only [intsZ, Option.map_eq_some_iff] at e
    obtain ⟨c, e1, e2⟩ := e
    subst e2
    rw [intsZ_map e1]; rfl
  | .none :: _, _, e => by simp [intsZ] at e
  | .bool _ :: _, _, e => by simp [intsZ] at e
  | .str _ :: _, _, e => by simp [intsZ] at e
  | .list _ :: _, _, e => by simp [intsZ] at e
  | .tuple _ :: _, _, e => by simp [intsZ] at e
  | .dict _ :: _, _, e => by simp [intsZ] at e
theorem intsZ_of : ∀ bs : List Int, intsZ (bs.map PyData.int) = some bs
  | [] => rfl
  | b :: r => by simp [intsZ, intsZ_of r]
def rZAll : ZC1 := fun zs S Q => ∃ bs : List Bool, zs = [zl (bs.map PyData.bool)] ∧ Q (zb (bs.all fun b => b)) S
def rZAny : ZC1 := fun zs S Q => ∃ bs : List Bool, zs = [zl (bs.map PyData.bool)] ∧ Q (zb (bs.any fun b => b)) S
theorem zall (hc : X.calm = true := by rfl) : ZCl X (.builtin "all") rZAll := by
  constructor
  · rintro zs S Q Q' q ⟨bs, e, w⟩
    exact ⟨bs, e, q _ _ w⟩
  · rintro B pins s σ H vs us Q I r ⟨zs, S, rz, hS, bs, rfl, w⟩
    obtain ⟨v, rfl, hz⟩ := rzs1 rz
    cases hz with
    | d hz =>
      cases hz with
      | @lst a xs _ sq f =>
        rw [f.bools] at sq
        exact cr_all hc pins s σ H _ us Q I r ⟨a, bs, rfl, sq.l, w _ H (.refl _ _) (.d (.bl _)) hS⟩
theorem zany (hc : X.calm = true := by rfl) : ZCl X (.builtin "any") rZAny := by
  constructor
  · rintro zs S Q Q' q ⟨bs, e, w⟩
    exact ⟨bs, e, q _ _ w⟩
  · rintro B pins s σ H vs us Q I r ⟨zs, S, rz, hS, bs, rfl, w⟩
    obtain ⟨v, rfl, hz⟩ := rzs1 rz
    cases hz with
    | d hz =>
      cases hz with
      | @lst a xs _ sq f =>
        rw [f.bools] at sq
        exact cr_any hc pins s σ H _ us Q I r ⟨a, bs, rfl, sq.l, w _ H (.refl _ _) (.d (.bl _)) hS⟩
/-- sum of ints -/
def rZSum : ZC1 := fun zs S Q => match zs with
  | [z] => ∃ ns : List Int, rowZ S z = some (ns.map PyData.int) ∧ (∀ xs, z ≠ zt xs) ∧ Q (zi ns.sum) S
  | _ => False
theorem zsum (hc : X.calm = true := by rfl) : ZCl X (.builtin "sum") rZSum := by
  constructor
  · intro zs S Q Q' q w
    unfold rZSum at *
    split at w
    · obtain ⟨ns, e, n, w⟩ := w
      exact ⟨ns, e, n, q _ _ w⟩
    · exact w.elim
  · rintro B pins s σ H vs us Q I r ⟨zs, S, rz, hS, w⟩
    unfold rZSum at w
    split at w
    · obtain ⟨ns, e, n, w⟩ := w
      obtain ⟨v, rfl, hz⟩ := rzs1 rz
      have hl : ∃ a vs, v = .ref a ∧ SqL X.K H a vs ∧ FzAll X.K H vs (ns.map PyData.int) := by
        obtain ⟨a, vs, ev, sq, f⟩ := rowZ_sq hS.1 hz e
        rcases sq with sq | sq
        · exact ⟨a, vs, ev, sq, f⟩
        · cases hz with
          | d h =>
            cases h with
            | lst s f => simp [rowZ] at e; subst e; exact ⟨_, _, rfl, s.l, f⟩
            | tup s f => exact absurd rfl (n _)
            | _ => simp [rowZ] at e
          | k s f => simp [rowZ] at e; subst e; exact ⟨_, _, rfl, s.l, f⟩
          | r b =>
            simp only [rowZ] at e
            cases q : S b with
            | none => rw [q] at e; cases e
            | some c =>
              cases c with
              | lst ys =>
                rw [q] at e
                cases e
                obtain ⟨vs, h, f⟩ := hS.1 b _ q
                exact ⟨b, vs, rfl, .of h, f⟩
      obtain ⟨a, ws, rfl, sq, f⟩ := hl
      rw [f.ints] at sq
      exact cr_sum hc pins s σ H _ us Q I r ⟨a, ns, rfl, sq, w _ H (.refl _ _) (.d (.int _)) hS⟩
    · exact w.elim
/-- repr -/
def rZRepr : ZC1 := fun zs S Q => match zs with
  | [.d x] => Shw x ∧ Q (zs1 x) S
  | _ => False
where zs1 (x : PyData) : Z := .d (.str x.shown)
theorem zrepr {k : Nat} (hr : Room k X.A) (hG : X.A.guards = some []) : ZCl X (.builtin "repr") rZRepr := by
  constructor
  · intro zs S Q Q' q w
    unfold rZRepr at *
    split at w
    · exact ⟨w.1, q _ _ w.2⟩
    · exact w.elim
  · rintro B pins s σ H vs us Q I r ⟨zs, S, rz, hS, w⟩
    unfold rZRepr at w
    split at w
    · rename_i d
      obtain ⟨h, w⟩ := w
      obtain ⟨v, rfl, hz⟩ := rzs1 rz
      obtain ⟨u, rfl, ru⟩ := vals1 r
      cases hz with
      | d hz =>
        have fin := fun (h' : Heap) (t : Tok) (tk : Nat) (kk : ∀ b o, s.heap.get? b = some o → h'.get? b = some o) => (show EP X pins σ Q (.str d.shown t) { s with heap := h', toks := tk } from ⟨.str d.shown, H, I.kept kk, ⟨_, rfl⟩, w _ H (.refl _ _) (.d (.str _)) hS⟩)
        have hu := hr.un
        obtain ⟨as, rd, ns⟩ := hz.reads I ru
        have hsm : d.hasDict = true → sysModules ∉ as := fun hd => ns (h.l.resolve_left (by rw [hd]; simp))
        have big : ∀ a, u = .ref a → wpAny (model X.prog X.w) X.A (call (.builtin "repr") [u]) (EP X pins σ Q) X.xe s := fun a e => by
          subst e
          exact repr_of_reads' rd h.s hsm hG (by have := h.d; omega) (fun _ _ q => q) (fun h' t tk kk => fin h' t tk kk) h.z
        cases hz with
        | non => cases ru; exact PySem.P.repr_of_none ⟨.str _, H, I.tok _, ⟨_, rfl⟩, w _ H (.refl _ _) (.d (.str _)) hS⟩
        | bl b => cases ru; exact PySem.P.repr_of_bool ⟨.str _, H, I.tok _, ⟨_, rfl⟩, by have := w _ H (.refl _ _) (.d (.str _)) hS; simpa [rZRepr.zs1, PyData.shown] using this⟩
        | int i => obtain ⟨t, rfl⟩ := ru; exact PySem.P.repr_of_int (by simpa [PyData.showable] using h.s) ⟨.str _, H, I.tok _, ⟨_, rfl⟩, by have := w _ H (.refl _ _) (.d (.str _)) hS; simpa [rZRepr.zs1, PyData.shown] using this⟩
        | str x => obtain ⟨t, rfl⟩ := ru; exact PySem.P.repr_of_str ⟨.str _, H, I.tok _, ⟨_, rfl⟩, by have := w _ H (.refl _ _) (.d (.str _)) hS; simpa [rZRepr.zs1, PyData.shown] using this⟩ (by simpa [PyData.shown] using h.z)
        | lst q f => exact big _ ru
        | tup q f => exact big _ ru
        | dic q => exact big _ ru
    · exact w.elim
end
end ZL

namespace ZL
open PySem PySem.Spec PyProof.Rows L2

/-! ### isinstance -/
inductive Ty7 where
  | int | bool | str | list | tuple | dict
def Ty7.name : Ty7 → String
  | .int => "int" | .bool => "bool" | .str => "str" | .list => "list" | .tuple => "tuple" | .dict => "dict"
def isD : Ty7 → PyData → Bool
  | .int, .int _ => true
  | .int, .bool _ => true
  | .bool, .bool _ => true
  | .str, .str _ => true
  | .list, .list _ => true
  | .tuple, .tuple _ => true
  | .dict, .dict _ => true
  | _, _ => false
def isZ : Ty7 → Z → Bool
  | T, .d x => isD T x
  | .list, .r _ => true
  | .list, .k _ => true
  | _, _ => false
/-- a thing that is changed must still be known -/
def thereZ (S : Sto) : Z → Prop
  | .r a => ∃ xs, S a = some (.lst xs)
  | _ => True
def nameD : PyData → String
  | .none => "NoneType" | .bool _ => "bool" | .int _ => "int" | .str _ => "str" | .list _ => "list" | .tuple _ => "tuple" | .dict _ => "dict"
theorem kit7 {K : PySem.W.Frag} (T : Ty7) (d : PyData) : PySem.W.kitOne K (.type (nameD d)) (.type T.name) = some (isD T d) := by
  cases T <;> cases d <;> (refine kit_ty ?_; simp only [nameD, Ty7.name, isD]; decide +kernel)
theorem fz_ty {K : PySem.W.Frag} {H : Hp} {v : V} {d : PyData} (h : Fz K H v d) : TyX K H v (.type (nameD d)) := by
  cases h with
  | non => exact .base .non
  | bl b => exact .base (.bl b)
  | int i => exact .base (.int i)
  | str x => exact .base (.str x)
  | lst q f => obtain ⟨o, q⟩ := q; exact .base (.frz q)
  | tup q f =>
    rcases q with (q | ⟨o, q⟩) | ⟨o, its, n, q, c, _⟩
    · exact .base (.tup q)
    · exact .fTuple q
    · exact .kTuple q c
  | dic q => exact .fDict q
section
variable {X : Cx} {B : Bs}
def zIsi (T : Ty7) (ta : ZT) : ZT := fun ρ S Q => ta ρ S fun z S1 => thereZ S1 z ∧ Q (zb (isZ T z)) S1
theorem rz_ty {K : PySem.W.Frag} {S : Sto} {H : Hp} {v : V} {z : Z} (hS : RS0 K S H) (h : RZ K H v z) (th : thereZ S z) (T : Ty7) : ∃ t, TyX K H v t ∧ PySem.W.kitOne K t (.type T.name) = some (isZ T z) := by
  cases h with
  | d h => exact ⟨_, fz_ty h, kit7 T _⟩
  | r a =>
    obtain ⟨xs, e⟩ := th
    obtain ⟨vs, q, _⟩ := hS a _ e
    exact ⟨_, .base (.lst q), by have := kit7 (K := K) T (.list []); cases T <;> exact this⟩
  | k q f =>
    rcases q with ⟨o, q⟩ | ⟨o, its, n, q, c, _⟩
    · exact ⟨_, .base (.frz q), by have := kit7 (K := K) T (.list []); cases T <;> exact this⟩
    · exact ⟨_, .kList q c, by have := kit7 (K := K) T (.list []); cases T <;> exact this⟩
theorem ze_isi (T : Ty7) {e c : Expr} {te : ZT} {p pos : Pos} (hm : X.mg "isinstance" = none) (he : ZE X B e te) (hc : PE X c (tC (.ty T.name))) (hg : Gl X "isinstance" := by rfl)
    (hs : starEach (e :: [c]) X.env = (false, eval e X.env) :: starEach [c] X.env := by rfl) (hs2 : starEach [c] X.env = (false, eval c X.env) :: starEach [] X.env := by rfl) (hpl : (backTo pos (starEach [c] X.env)).any (·.1) = false := by rfl) :
    ZE X B (.Call (.Name "isinstance" p) [e, c] [] pos) (zIsi T te) := by
  refine ⟨fun {ρ S Q Q'} q w => he.mono (fun z S1 h1 => ⟨h1.1, q _ _ h1.2⟩) w, PE.imp (pe_callB call_isi hg hm PyProof.Rows.boot_isinstance (pa_cons he.pe (pa_cons hc pa_nil hs2) hs) (by decide) (by decide) hs hpl) ?_⟩
  rintro σ H Q ⟨ρ, S, hE, hS, w⟩
  refine he.go hE hS w fun z S1 v1 H1 h1 st1 E1 R1 rz => ?_
  obtain ⟨t, ty, k⟩ := rz_ty R1.1 rz h1.1 T
  exact ⟨v1, .ty T.name, t, .type T.name, _, rfl, .ty _, ty, k, h1.2 _ H1 st1 (.d (.bl _)) R1⟩
/-- a built-in class by its name -/
theorem pe_ty (T : Ty7) {x : Str} {p : Pos} (hm : X.mg x = none) (hx : x = Str.ofString T.name := by rfl) (hg : Gl X x := by rfl) (hv : bootBuiltins x = some (.type T.name) := by decide +kernel) (hn : x ≠ "__name__" := by decide) (hd : (x == ("__debug__" : Str)) = false := by decide) :
    PE X (.Name x p) (tC (.ty T.name)) := pe_bltn hg hm hv rfl hn hd

/-! ### slices -/
abbrev ZPt := ZEnv → Sto → (Option Int → Sto → Prop) → Prop
def lowO (K : PySem.W.Frag) (B : Bs) (t : ZPt) : TO := fun σ H Q => ∃ ρ S, RE K H ρ σ ∧ RS K B S H ∧ t ρ S fun o S' => ∀ H', Step S S' H H' → RS K B S' H' → Q o H'
structure ZO (X : Cx) (B : Bs) (e : Option Expr) (t : ZPt) : Prop where
  mono : ∀ {ρ S} {Q Q' : Option Int → Sto → Prop}, (∀ z S', Q z S' → Q' z S') → t ρ S Q → t ρ S Q'
  po : PO X e (lowO X.K B t)
def zNoPart : ZPt := fun _ S Q => Q none S
def zPart (t : ZT) : ZPt := fun ρ S Q => t ρ S fun z S1 => match z with
  | .d (.int i) => Q (some i) S1
  | _ => False
theorem PO.imp {e : Option Expr} {t t' : TO} (h : PO X e t) (q : ∀ σ H Q, t' σ H Q → t σ H Q) : PO X e t' := ⟨fun pins s σ H Q I w => h.run pins s σ H Q I (q σ H Q w)⟩
theorem zo_none : ZO X B none zNoPart := by
  refine ⟨fun q w => q _ _ w, PO.imp po_none ?_⟩
  rintro σ H Q ⟨ρ, S, hE, hS, w⟩
  exact w H (.refl _ _) hS
theorem zo_some {e : Expr} {t : ZT} (h : ZE X B e t) : ZO X B (some e) (zPart t) := by
  refine ⟨fun {ρ S Q Q'} q w => h.mono (fun z S1 h1 => ?_) w, PO.imp (po_some h.pe) ?_⟩
  · split at h1
    · exact q _ _ h1
    · exact h1.elim
  · rintro σ H Q ⟨ρ, S, hE, hS, w⟩
    refine h.go hE hS w fun z S1 v1 H1 h1 st1 E1 R1 rz => ?_
    split at h1
    · cases rz with | d rz => cases rz; exact ⟨_, rfl, h1 H1 st1 R1⟩
    · exact h1.elim
def cutD (xs : List PyData) (lo hi : Option Int) : List PyData := (xs.drop (HT.sIx xs.length 0 lo)).take (HT.sIx xs.length xs.length hi - HT.sIx xs.length 0 lo)
theorem cut_fz {K : PySem.W.Frag} {H : Hp} {vs : List V} {xs : List PyData} (f : FzAll K H vs xs) (lo hi : Option Int) : FzAll K H (cutV vs lo hi) (cutD xs lo hi) := by
  unfold cutV cutD
  rw [f.length]
  exact (f.drop _).take _
def rZSl : Z → Option Int → Option Int → Sto → ZQ → Prop := fun x lo hi S Q => match x with
  | .d (.tuple xs) => Q (zt (cutD xs lo hi)) S
  | z => match rowZ S z with
    | some xs => Q (zl (cutD xs lo hi)) S
    | none => False
theorem slR_rest {r : V → Option Int → Option Int → Hp → VK → Prop} (h : SlR X r) : SlR X (fun x lo hi H Q => r x lo hi H fun v H' => ∃ a xs, v = .ref a ∧ H' a = some (.lst xs) ∧ ∀ o, Q v (upd H' a (.frz o (.lst xs)))) := by
  intro pins s σ H x v vl vu lo hi sl Q I rx hs pl pu w
  obtain ⟨T, id, e1, e2, e3⟩ := h pins s σ H x v vl vu lo hi sl _ I rx hs pl pu w
  refine ⟨T, id, e1, e2, thn e3 fun u s1 ⟨v, H1, I1, r1, a, xs, ev, ea, q⟩ => ?_⟩
  obtain ⟨o, I2⟩ := I1.lock ea True.intro
  exact ⟨v, _, I2, r1, q o⟩
theorem rowZ_list {K : PySem.W.Frag} {S : Sto} {H : Hp} {z : Z} {v : V} {xs : List PyData} (hS : RS0 K S H) (rz : RZ K H v z) (n : ∀ ys, z ≠ zt ys) (e : rowZ S z = some xs) : ∃ a vs, v = .ref a ∧ SqL K H a vs ∧ FzAll K H vs xs := by
  cases rz with
  | d h =>
    cases h with
    | lst s f => simp [rowZ] at e; subst e; exact ⟨_, _, rfl, s.l, f⟩
    | tup s f => exact absurd rfl (n _)
    | _ => simp [rowZ] at e
  | k s f => simp [rowZ] at e; subst e; exact ⟨_, _, rfl, s.l, f⟩
  | r b =>
    simp only [rowZ] at e
    cases q : S b with
    | none => rw [q] at e; cases e
    | some c =>
      cases c with
      | lst ys =>
        rw [q] at e
        cases e
        obtain ⟨vs, h, f⟩ := hS b _ q
        exact ⟨b, vs, rfl, .of h, f⟩
def zSl (ta : ZT) (tl th : ZPt) : ZT := fun ρ S Q => ta ρ S fun z S1 => tl ρ S1 fun lo S2 => th ρ S2 fun hi S3 => rZSl z lo hi S3 Q
theorem ze_slice {e : Expr} {lo hi : Option Expr} {te : ZT} {tl th : ZPt} {p2 pos : Pos} (he : ZE X B e te) (hl : ZO X B lo tl) (hh : ZO X B hi th) : ZE X B (.Subscript e (.Slice lo hi none p2) pos) (zSl te tl th) := by
  refine ⟨fun {ρ S Q Q'} q w => he.mono (fun z S1 h1 => hl.mono (fun a S2 h2 => hh.mono (fun b S3 h3 => ?_) h2) h1) w, PE.imp (pe_slice (sl_tupA.or (slR_rest sl_list)) he.pe hl.po hh.po) ?_⟩
  · unfold rZSl at *
    split at h3
    · exact q _ _ h3
    · split at h3
      · exact q _ _ h3
      · exact h3.elim
  · rintro σ H Q ⟨ρ, S, hE, hS, w⟩
    refine he.go hE hS w fun z S1 v1 H1 h1 st1 E1 R1 rz => ?_
    refine ⟨ρ, S1, E1, R1, hl.mono (fun o S2 h2 H2 st2 R2 => ?_) h1⟩
    refine ⟨ρ, S2, E1.le (st2.le R1.1), R2, hh.mono (fun o2 S3 h3 H3 st3 R3 => ?_) h2⟩
    have rz3 := (rz.le (st2.le R1.1)).le (st3.le R2.1)
    have st := (st1.trans st2).trans st3
    unfold rZSl at h3
    split at h3
    · cases rz3 with
      | d rz3 =>
        cases rz3 with
        | @tup a vs xs sq f =>
          refine .inl ⟨a, vs, rfl, sq, fun hw => ?_, fun hw p hp => ?_⟩
          · refine h3 _ H3 st (.d (.tup sq ?_)) R3
            unfold cutD
            rw [f.length] at hw
            rw [hw.1, hw.2, List.drop_zero, Nat.sub_zero, List.take_length]
            exact f
          · have sm : Same H3 (upd H3 p (.tup (cutV vs o o2))) := same_fresh hp
            exact h3 _ _ (st.trans (step_same sm)) (.d (.tup (SqT.of upd_same) ((cut_fz f o o2).le (.same sm)))) (R3.step (R3.1.same sm) (step_same sm))
    · rename_i nt
      split at h3
      · rename_i xs e
        obtain ⟨a, vs, rfl, sq, f⟩ := rowZ_list R3.1 rz3 (fun ys ez => nt ys ez) e
        exact .inr ⟨a, vs, rfl, sq, fun p hp => rest_end R3 (cut_fz f o o2) (fun v H' st' rz' rs' => h3 v H' (st.trans st') rz' rs') p hp⟩
      · exact h3.elim

/-! ### list + list, put to rest; to be changed -/
theorem lst_of {pins : List (Addr × Obj)} {σ : L2.St} {H : Hp} {s : Shared} (I : Inv X pins σ H s) {a : Addr} {xs : List V} (h : Rd H a (.lst xs)) : ∃ (its : List Value) (n : Nat), Vals xs its ∧ s.heap.get? a = some { cls := .type "list", data := .seq its.toArray n } := by
  obtain ⟨_, its, n, r, e⟩ := h.ok I.hok
  exact ⟨its, n, r, e⟩
def rCatL : R2 := fun x y H Q => ∃ l b xs zs, x = .ref l ∧ y = .ref b ∧ Rd H l (.lst xs) ∧ Rd H b (.lst zs) ∧ xs.length + zs.length ≤ sizeLine ∧ ∀ p, H p = none → Q (.ref p) (upd H p (.lst (xs ++ zs)))
theorem op_catL : OpR X (binaryOp .Add) rCatL := by
  rintro pins s σ H x y v u Q I rx ry ⟨l, b, xs, zs, rfl, rfl, h1, h2, hz, q⟩
  cases rx
  cases ry
  obtain ⟨its, n, r, e⟩ := lst_of I h1
  obtain ⟨its2, n2, r2, e2⟩ := lst_of I h2
  have l1 := r.length
  have l2 := r2.length
  refine PySem.P.add_list e e2 ?_ (by simp only [List.size_toArray]; omega)
  rw [show its.toArray ++ its2.toArray = (its ++ its2).toArray by simp]
  exact ⟨.ref _, _, I.lnew (t' := s.toks) (r.append r2) (by rw [List.length_append]; omega), rfl, q _ I.fresh⟩
def listZ (S : Sto) : Z → Option (List PyData)
  | .d (.list xs) => some xs
  | .r a => match S a with
    | some (.lst xs) => some xs
    | _ => none
  | _ => none
theorem listZ_rd {K : PySem.W.Frag} {S : Sto} {H : Hp} {z : Z} {v : V} {xs : List PyData} (hS : RS0 K S H) (rz : RZ K H v z) (e : listZ S z = some xs) : ∃ a vs, v = .ref a ∧ Rd H a (.lst vs) ∧ FzAll K H vs xs := by
  cases rz with
  | d h =>
    cases h with
    | lst s f => simp [listZ] at e; subst e; exact ⟨_, _, rfl, .inr s, f⟩
    | _ => simp [listZ] at e
  | k s f => simp [listZ] at e
  | r b =>
    simp only [listZ] at e
    cases q : S b with
    | none => rw [q] at e; cases e
    | some c =>
      cases c with
      | lst ys =>
        rw [q] at e
        cases e
        obtain ⟨vs, h, f⟩ := hS b _ q
        exact ⟨b, vs, rfl, .inl h, f⟩
def rZCat : ZR2 := fun x y S Q => match listZ S x, listZ S y with
  | some a, some b => a.length + b.length ≤ sizeLine ∧ Q (zl (a ++ b)) S
  | _, _ => False
theorem zcat : ZOp X (binaryOp .Add) rZCat := by
  constructor
  · intro x y S Q Q' q w
    unfold rZCat at *
    split at w
    · exact ⟨w.1, q _ _ w.2⟩
    · exact w.elim
  · rintro B pins s σ H x y v u Q I rx ry ⟨z1, z2, S, h1, h2, hS, w⟩
    unfold rZCat at w
    split at w
    · rename_i a b e1 e2
      obtain ⟨l, vs, rfl, q1, f1⟩ := listZ_rd hS.1 h1 e1
      obtain ⟨l2, vs2, rfl, q2, f2⟩ := listZ_rd hS.1 h2 e2
      exact opR_rest op_catL pins s σ H _ _ v u Q I rx ry ⟨l, l2, vs, vs2, rfl, rfl, q1, q2, by rw [f1.length, f2.length]; exact w.1, fun p hp => rest_end hS (f1.append f2) w.2 p hp⟩
    · exact w.elim
def rZCatM : ZR2 := fun x y S Q => match listZ S x, listZ S y with
  | some a, some b => a.length + b.length ≤ sizeLine ∧ ∀ p, S p = none → Q (.r p) (S.put p (.lst (a ++ b)))
  | _, _ => False
theorem zcatM : ZOp X (binaryOp .Add) rZCatM := by
  constructor
  · intro x y S Q Q' q w
    unfold rZCatM at *
    split at w
    · exact ⟨w.1, fun p hp => q _ _ (w.2 p hp)⟩
    · exact w.elim
  · rintro B pins s σ H x y v u Q I rx ry ⟨z1, z2, S, h1, h2, hS, w⟩
    unfold rZCatM at w
    split at w
    · rename_i a b e1 e2
      obtain ⟨l, vs, rfl, q1, f1⟩ := listZ_rd hS.1 h1 e1
      obtain ⟨l2, vs2, rfl, q2, f2⟩ := listZ_rd hS.1 h2 e2
      exact op_catL pins s σ H _ _ v u Q I rx ry ⟨l, l2, vs, vs2, rfl, rfl, q1, q2, by rw [f1.length, f2.length]; exact w.1, fun p hp => w.2 p (hS.1.fresh hp) _ _ (step_new hp) (.r p) (hS.step (hS.1.new hp (f1.append f2)) (step_new hp))⟩
    · exact w.elim
/-- {} at rest -/
def zDict0 : ZT := fun _ S Q => Q (.d (.dict [])) S
theorem ze_dict0 {pos : Pos} (h : PE X (.Dict [] [] pos) (fun _ H Q => ∀ p, H p = none → Q (.ref p) (upd H p (.dK [])))) : ZE X B (.Dict [] [] pos) zDict0 := by
  refine ⟨fun q w => q _ _ w, PE.imp (pe_restD h) ?_⟩
  rintro σ H Q ⟨ρ, S, hE, hS, w⟩ p hp
  refine ⟨p, [], rfl, upd_same, fun o => ?_⟩
  rw [upd_upd]
  have sm : Same H (upd H p (.frz o (.dK []))) := same_fresh hp
  exact w _ _ (step_same sm) (.d (.dic upd_same)) (hS.step (hS.1.same sm) (step_same sm))
/-- xs.append(e) -/
def zApp (to te : ZT) : ZT := fun ρ S Q => to ρ S fun x S1 => match x with
  | .r p => (∃ xs, S1 p = some (.lst xs)) ∧ te ρ S1 fun y S2 => match y with
    | .d d => match S2 p with
      | some (.lst xs) => xs.length < sizeLine ∧ Q (.d .none) (S2.put p (.lst (xs ++ [d])))
      | none => False
    | _ => False
  | _ => False
theorem ze_app {o e : Expr} {to te : ZT} {apos pos : Pos} (ho : ZE X B o to) (he : ZE X B e te)
    (pe : ∀ {ta : TE} {tb : TE}, PE X o ta → PE X e tb → PE X (.Call (.Attribute o "append" apos) [e] [] pos) (tBM X.K "list" rAppend ta (tCons tb tNil)) := by intro ta tb h1 h2; exact pe_bm PySem.F.plainAttrs_list PySem.F.slot_list_append PySem.F.type_list_append mt_append h1 (pa_cons h2 pa_nil)) :
    ZE X B (.Call (.Attribute o "append" apos) [e] [] pos) (zApp to te) := by
  refine ⟨fun {ρ S Q Q'} q w => ho.mono (fun x S1 h1 => ?_) w, PE.imp (pe ho.pe he.pe) ?_⟩
  · split at h1
    · refine ⟨h1.1, he.mono (fun y S2 h2 => ?_) h1.2⟩
      split at h2
      · split at h2
        · exact ⟨h2.1, q _ _ h2.2⟩
        · exact h2.elim
      · exact h2.elim
    · exact h1.elim
  · rintro σ H Q ⟨ρ, S, hE, hS, w⟩
    refine ho.go hE hS w fun x S1 v1 H1 h1 st1 E1 R1 z1 => ?_
    split at h1
    · rename_i p
      cases z1
      obtain ⟨⟨xs, e1⟩, h1⟩ := h1
      obtain ⟨vs, q1, _⟩ := R1.1 p _ e1
      refine ⟨.inl ⟨rfl, vs, .of q1⟩, he.go E1 R1 h1 fun y S2 v2 H2 h2 st2 E2 R2 z2 => ?_⟩
      split at h2
      · split at h2
        · rename_i d _ ys e2
          cases z2 with
          | d z2 =>
            obtain ⟨ws, q2, f2⟩ := R2.1 p _ e2
            have f3 := f2.append (.one z2)
            have sS := step_set (c' := .lst (ys ++ [d])) (o := .lst (ws ++ [v2])) (H := H2) e2
            exact ⟨p, ws, v2, rfl, rfl, q2, by rw [f2.length]; exact h2.1, h2.2 .non _ ((st1.trans st2).trans sS) (.d .non) (R2.step (R2.1.set e2 f3) sS)⟩
        · exact h2.elim
      · exact h2.elim
    · exact h1.elim
end
end ZL

namespace ZL
open PySem PySem.Spec PyProof.Rows L2

/-! ### targets -/
theorem wipe_at {σ : L2.St} {vs : List Nat} {j : Nat} : (wipe σ vs)[j]? = if j ∈ vs then σ[j]?.map (fun _ => none) else σ[j]? := by
  induction vs with
  | nil => simp [wipe]
  | cons v vs ih =>
    unfold wipe
    by_cases e : j = v
    · subst e
      rw [List.getElem?_set]
      simp only [List.mem_cons, true_or, if_true]
      by_cases h : j < σ.length
      · simp [wipe_length, h]
      · simp [wipe_length, h]
    · rw [List.getElem?_set_ne (Ne.symm e), ih]
      simp [e]
theorem wipe_set {σ : L2.St} {vs : List Nat} {i : Nat} {o : Option V} (h : i ∈ vs) : wipe (σ.set i o) vs = wipe σ vs := by
  apply List.ext_getElem?
  intro j
  rw [wipe_at, wipe_at]
  by_cases e : j ∈ vs
  · simp only [e, if_true]
    by_cases q : i = j
    · subst q
      rw [List.getElem?_set]
      by_cases l : i < σ.length <;> simp [l]
    · rw [List.getElem?_set_ne q]
  · simp only [e, if_false]
    have : i ≠ j := fun q => e (q ▸ h)
    rw [List.getElem?_set_ne this]
theorem wipe_wipe {σ : L2.St} {vs : List Nat} : wipe (wipe σ vs) vs = wipe σ vs := by
  apply List.ext_getElem?
  intro j
  rw [wipe_at, wipe_at]
  by_cases e : j ∈ vs
  · simp only [e, if_true]
    cases σ[j]? <;> rfl
  · simp only [e, if_false]
def Own (own : List Nat) (σ σ' : L2.St) : Prop := ∀ vs : List Nat, (∀ i ∈ own, i ∈ vs) → wipe σ' vs = wipe σ vs
abbrev ZG := Z → ZEnv → Sto → (ZEnv → Sto → Prop) → Prop
def lowG (K : PySem.W.Frag) (B : Bs) (own : List Nat) (g : ZG) : TG := fun v σ H Q => ∃ z ρ S, RZ K H v z ∧ RE K H ρ σ ∧ RS K B S H ∧ g z ρ S fun ρ' S' => ∀ σ' H', Step S S' H H' → RE K H' ρ' σ' → RS K B S' H' → Own own σ σ' → Q σ' H'
structure ZGt (X : Cx) (B : Bs) (tg : Expr) (own : List Nat) (g : ZG) : Prop where
  mono : ∀ {z ρ S} {Q Q' : ZEnv → Sto → Prop}, (∀ ρ' S', Q ρ' S' → Q' ρ' S') → g z ρ S Q → g z ρ S Q'
  pg : PG X tg (lowG X.K B own g)
abbrev ZGs := List PyData → ZEnv → Sto → (ZEnv → Sto → Prop) → Prop
def lowGs (K : PySem.W.Frag) (B : Bs) (own : List Nat) (g : ZGs) : TGs := fun vs σ H Q => ∃ zs ρ S, FzAll K H vs zs ∧ RE K H ρ σ ∧ RS K B S H ∧ g zs ρ S fun ρ' S' => ∀ σ' H', Step S S' H H' → RE K H' ρ' σ' → RS K B S' H' → Own own σ σ' → Q σ' H'
structure ZGts (X : Cx) (B : Bs) (tgs : List Expr) (own : List Nat) (g : ZGs) : Prop where
  mono : ∀ {z ρ S} {Q Q' : ZEnv → Sto → Prop}, (∀ ρ' S', Q ρ' S' → Q' ρ' S') → g z ρ S Q → g z ρ S Q'
  pgs : PGs X tgs (lowGs X.K B own g)
theorem PG.imp {X : Cx} {e : Expr} {t t' : TG} (h : PG X e t) (q : ∀ v σ H Q, t' v σ H Q → t v σ H Q) : PG X e t' := ⟨fun pins s σ H v u Q I r w => h.run pins s σ H v u Q I r (q v σ H Q w)⟩
theorem PGs.imp {X : Cx} {e : List Expr} {t t' : TGs} (h : PGs X e t) (q : ∀ v σ H Q, t' v σ H Q → t v σ H Q) : PGs X e t' := ⟨fun pins s σ H v u Q I r w => h.run pins s σ H v u Q I r (q v σ H Q w)⟩
section
variable {X : Cx} {B : Bs} {pos : Pos}
def zgName (i : Nat) : ZG := fun z ρ S Q => Q (ρ.set i (some z)) S
theorem zg_name {i : Nat} {x : Str} (hN : X.N.Nodup) (hi : X.N[i]? = some x := by rfl) (hx : Loc X.env.scope x := by first | exact Or.inl rfl | exact Or.inr rfl) (hf : X.fn x = true ∨ X.env.scope.names.lookup x = some .local := by first | exact .inl rfl | exact .inr rfl | assumption) : ZGt X B (.Name x pos) [i] (zgName i) := by
  refine ⟨fun q w => q _ _ w, PG.imp (pg_name hN hi hx hf) ?_⟩
  rintro v σ H Q ⟨z, ρ, S, rz, hE, hS, w⟩
  exact w _ H (.refl _ _) (hE.set i rz) hS fun vs h => wipe_set (h i (by simp))
def zgNil : ZGs := fun zs ρ S Q => match zs with
  | [] => Q ρ S
  | _ => False
def zgCons (t : ZG) (u : ZGs) : ZGs := fun zs ρ S Q => match zs with
  | x :: r => t (.d x) ρ S fun ρ' S' => u r ρ' S' Q
  | [] => False
theorem zgs_nil : ZGts X B [] [] zgNil := by
  refine ⟨fun {z ρ S Q Q'} q w => ?_, PGs.imp pgs_nil ?_⟩
  · unfold zgNil at *
    split at w
    · exact q _ _ w
    · exact w.elim
  · rintro vs σ H Q ⟨zs, ρ, S, f, hE, hS, w⟩
    unfold zgNil at w
    split at w
    · cases f
      exact ⟨rfl, w σ H (.refl _ _) hE hS fun _ _ => rfl⟩
    · exact w.elim
theorem zgs_cons {e : Expr} {es : List Expr} {o1 o2 : List Nat} {t : ZG} {u : ZGs} (h1 : ZGt X B e o1 t) (h2 : ZGts X B es o2 u)
    (hs : (assignEach (e :: es) X.env).map (·.2) = assign e X.env :: (assignEach es X.env).map (·.2) := by rfl) : ZGts X B (e :: es) (o1 ++ o2) (zgCons t u) := by
  refine ⟨fun {z ρ S Q Q'} q w => ?_, PGs.imp (pgs_cons h1.pg h2.pgs hs) ?_⟩
  · unfold zgCons at *
    split at w
    · exact h1.mono (fun _ _ w2 => h2.mono q w2) w
    · exact w.elim
  · rintro vs σ H Q ⟨zs, ρ, S, f, hE, hS, w⟩
    unfold zgCons at w
    split at w
    · cases f with
      | cons f1 f2 =>
        refine ⟨_, _, rfl, _, ρ, S, .d f1, hE, hS, h1.mono (fun ρ' S' w2 σ' H' st E' R' ow => ?_) w⟩
        refine ⟨_, ρ', S', f2.le (st.le hS.1), E', R', h2.mono (fun ρ2 S2 w3 σ2 H2 st2 E2 R2 ow2 => ?_) w2⟩
        exact w3 σ2 H2 (st.trans st2) E2 R2 fun vs h => (ow2 vs fun i hi => h i (List.mem_append_right _ hi)).trans (ow vs fun i hi => h i (List.mem_append_left _ hi))
    · exact w.elim
def zgTup (n : Nat) (t : ZGs) : ZG := fun z ρ S Q => match z with
  | .d (.tuple xs) => xs.length = n ∧ t xs ρ S Q
  | _ => False
theorem zg_tup {es : List Expr} {k : Nat} {own : List Nat} {t : ZGs} {n : Nat} (h : ZGts X B es own t) (hc : X.calm = true := by rfl) (hn : (assignEach es X.env).length = n := by rfl) (hst : (assignEach es X.env).findIdx? (·.1) = none := by rfl) :
    ZGt X B (.Tuple es k pos) own (zgTup n t) := by
  refine ⟨fun {z ρ S Q Q'} q w => ?_, PG.imp (pg_tup hc h.pgs hn hst) ?_⟩
  · unfold zgTup at *
    split at w
    · exact ⟨w.1, h.mono q w.2⟩
    · exact w.elim
  · rintro v σ H Q ⟨z, ρ, S, rz, hE, hS, w⟩
    unfold zgTup at w
    split at w
    · cases rz with
      | d f =>
        cases f with
        | @tup a xs ds sq f =>
          exact ⟨a, xs, rfl, sq, by rw [f.length]; exact w.1, _, ρ, S, f, hE, hS, w.2⟩
    · exact w.elim
/-- o[i] = .. -/
def zgSub (to ti : ZT) : ZG := fun z ρ S Q => to ρ S fun o S1 => ti ρ S1 fun i S2 => match o, i, z with
  | .r p, .d (.int k), .d d => match S2 p with
    | some (.lst xs) => match ixN xs.length k with
      | some j => Q ρ (S2.put p (.lst (xs.set j d)))
      | none => False
    | none => False
  | _, _, _ => False
theorem zg_sub {o i : Expr} {to ti : ZT} (ho : ZE X B o to) (hi : ZE X B i ti)
    (ha : ∀ v, assign (.Subscript o i pos) X.env v = (do
      let ov ← holding [v] (eval o X.env)
      let iv ← holding [v, ov] (eval i X.env)
      standAt pos
      holding [v, ov, iv] (setItem ov iv v)
      release [v, ov, iv] []) := by intro _; rfl) : ZGt X B (.Subscript o i pos) [] (zgSub to ti) := by
  refine ⟨fun {z ρ S Q Q'} q w => ho.mono (fun x S1 h1 => hi.mono (fun y S2 h2 => ?_) h1) w, PG.imp (pg_sub ho.pe hi.pe set_list ha) ?_⟩
  · split at h2
    · split at h2
      · split at h2
        · exact q _ _ h2
        · exact h2.elim
      · exact h2.elim
    · exact h2.elim
  · rintro v σ H Q ⟨z, ρ, S, rz, hE, hS, w⟩
    refine ho.go hE hS w fun x S1 v1 H1 h1 st1 E1 R1 z1 => ?_
    refine hi.go E1 R1 h1 fun y S2 v2 H2 h2 st2 E2 R2 z2 => ?_
    have rz2 := (rz.le (st1.le hS.1)).le (st2.le R1.1)
    split at h2
    · rename_i p k d
      split at h2
      · rename_i xs e
        split at h2
        · rename_i j ej
          cases z1
          cases z2 with
          | d z2 =>
            cases z2
            cases rz2 with
            | d rz2 =>
              obtain ⟨ws, q2, f2⟩ := R2.1 p _ e
              have sS := step_set (c' := .lst (xs.set j d)) (o := .lst (ws.set j v)) (H := H2) e
              have R3 := R2.step (R2.1.set e (f2.set j rz2)) sS
              exact ⟨p, ws, k, j, rfl, rfl, q2, by rw [f2.length]; exact ej, h2 σ _ ((st1.trans st2).trans sS) (E2.le (sS.le R2.1)) R3 fun _ _ => rfl⟩
        · exact h2.elim
      · exact h2.elim
    · exact h2.elim

/-! ### statements -/
structure ZEnds where
  nx : ZEnv → Sto → Prop
  rt : ZQ
  bk : ZEnv → Sto → Prop := fun _ _ => False
  ct : ZEnv → Sto → Prop := fun _ _ => False
abbrev ZTS := ZEnds → ZEnv → Sto → Prop
/-- the ends of the layer below -/
structure ELe (K : PySem.W.Frag) (B : Bs) (S : Sto) (H : Hp) (D : ZEnds) (E : Ends) : Prop where
  nx : ∀ ρ' S' σ' H', D.nx ρ' S' → Step S S' H H' → RE K H' ρ' σ' → RS K B S' H' → E.nx σ' H'
  rt : ∀ z S' v H', D.rt z S' → Step S S' H H' → RZ K H' v z → RS K B S' H' → E.rt v H'
  bk : ∀ ρ' S' σ' H', D.bk ρ' S' → Step S S' H H' → RE K H' ρ' σ' → RS K B S' H' → E.bk σ' H'
  ct : ∀ ρ' S' σ' H', D.ct ρ' S' → Step S S' H H' → RE K H' ρ' σ' → RS K B S' H' → E.ct σ' H'
theorem ELe.step {K : PySem.W.Frag} {S S1 : Sto} {H H1 : Hp} {D : ZEnds} {E : Ends} (h : ELe K B S H D E) (st : Step S S1 H H1) : ELe K B S1 H1 D E :=
  ⟨fun a b c d w s r q => h.nx a b c d w (st.trans s) r q, fun a b c d w s r q => h.rt a b c d w (st.trans s) r q, fun a b c d w s r q => h.bk a b c d w (st.trans s) r q, fun a b c d w s r q => h.ct a b c d w (st.trans s) r q⟩
def lowS (K : PySem.W.Frag) (B : Bs) (t : ZTS) : TS := fun E σ H => ∃ ρ S D, RE K H ρ σ ∧ RS K B S H ∧ ELe K B S H D E ∧ t D ρ S
structure ZS (X : Cx) (B : Bs) (st : Stmt) (t : ZTS) : Prop where
  ps : PS X st (lowS X.K B t)
structure ZSs (X : Cx) (B : Bs) (st : List Stmt) (t : ZTS) : Prop where
  pss : PSs X st (lowS X.K B t)
def zNext : ZTS := fun D ρ S => D.nx ρ S
def zSeq (t u : ZTS) : ZTS := fun D ρ S => t { D with nx := u D } ρ S
theorem zss_nil : ZSs X B [] zNext := ⟨PSs.imp pss_nil (by
  rintro E σ H ⟨ρ, S, D, hE, hS, l, w⟩
  exact l.nx _ _ _ _ w (.refl _ _) hE hS)⟩
theorem zss_cons {st : Stmt} {sts : List Stmt} {t u : ZTS} (h1 : ZS X B st t) (h2 : ZSs X B sts u) : ZSs X B (st :: sts) (zSeq t u) := ⟨PSs.imp (pss_cons h1.ps h2.pss) (by
  rintro E σ H ⟨ρ, S, D, hE, hS, l, w⟩
  exact ⟨ρ, S, { D with nx := u D }, hE, hS, ⟨fun ρ' S' σ' H' w' st' E' R' => ⟨ρ', S', D, E', R', l.step st', w'⟩, l.rt, l.bk, l.ct⟩, w⟩)⟩
theorem zss_one {st : Stmt} {t : ZTS} (h1 : ZS X B st t) : ZSs X B [st] t := ⟨pss_one h1.ps⟩
theorem zs_pass : ZS X B (.Pass pos) zNext := ⟨PS.imp ps_pass (by
  rintro E σ H ⟨ρ, S, D, hE, hS, l, w⟩
  exact l.nx _ _ _ _ w (.refl _ _) hE hS)⟩
def zBreak : ZTS := fun D ρ S => D.bk ρ S
def zCont : ZTS := fun D ρ S => D.ct ρ S
theorem zs_break : ZS X B (.Break pos) zBreak := ⟨PS.imp ps_break (by
  rintro E σ H ⟨ρ, S, D, hE, hS, l, w⟩
  exact l.bk _ _ _ _ w (.refl _ _) hE hS)⟩
theorem zs_continue : ZS X B (.Continue pos) zCont := ⟨PS.imp ps_continue (by
  rintro E σ H ⟨ρ, S, D, hE, hS, l, w⟩
  exact l.ct _ _ _ _ w (.refl _ _) hE hS)⟩
variable {e : Expr} {te : ZT}
def zDrop (te : ZT) : ZTS := fun D ρ S => te ρ S fun _ S1 => D.nx ρ S1
theorem zs_expr (he : ZE X B e te) (hs : swapsWith e none pos.line X.env = pure false := by rfl) : ZS X B (.Expr e pos) (zDrop te) := ⟨PS.imp (ps_expr he.pe hs) (by
  rintro E σ H ⟨ρ, S, D, hE, hS, l, w⟩
  exact he.go hE hS w fun z S1 v H1 h1 st E1 R1 rz => l.nx _ _ _ _ h1 st E1 R1)⟩
def zRet (te : ZT) : ZTS := fun D ρ S => te ρ S D.rt
theorem zs_ret (he : ZE X B e te) : ZS X B (.Return (some e) pos) (zRet te) := ⟨PS.imp (ps_ret he.pe) (by
  rintro E σ H ⟨ρ, S, D, hE, hS, l, w⟩
  exact he.go hE hS w fun z S1 v H1 h1 st E1 R1 rz => l.rt _ _ _ _ h1 st rz R1)⟩
def zRetN : ZTS := fun D _ S => D.rt (.d .none) S
theorem zs_retN : ZS X B (.Return none pos) zRetN := ⟨PS.imp ps_retN (by
  rintro E σ H ⟨ρ, S, D, hE, hS, l, w⟩
  exact l.rt _ _ _ _ w (.refl _ _) (.d .non) hS)⟩
def zIfS (c : ZB) (t u : ZTS) : ZTS := fun D ρ S => c ρ S fun b S1 => zBr b (t D ρ S1) (u D ρ S1)
theorem zs_if {c : Expr} {a b : List Stmt} {tc : ZB} {t u : ZTS} (hc : ZTe X B c tc) (ha : ZSs X B a t) (hb : ZSs X B b u) : ZS X B (.If c a b pos) (zIfS tc t u) := ⟨PS.imp (ps_if hc.pt ha.pss hb.pss) (by
  rintro E σ H ⟨ρ, S, D, hE, hS, l, w⟩
  refine hc.go hE hS w fun c S1 H1 h1 st E1 R1 => ?_
  cases c with
  | true => exact iteT ⟨ρ, S1, D, E1, R1, l.step st, h1⟩
  | false => exact iteF ⟨ρ, S1, D, E1, R1, l.step st, h1⟩)⟩
/-- target = e -/
def zAsg (te : ZT) (g : ZG) : ZTS := fun D ρ S => te ρ S fun z S1 => g z ρ S1 D.nx
theorem low_asg {E : Ends} {σ : L2.St} {H : Hp} {te : ZT} {g : ZG} {tg : Expr} {own : List Nat} (he : ZE X B e te) (hg : ZGt X B tg own g) (h : lowS X.K B (zAsg te g) E σ H) : tAsg (low X.K B te) (lowG X.K B own g) E σ H := by
  obtain ⟨ρ, S, D, hE, hS, l, w⟩ := h
  refine he.go hE hS w fun z S1 v H1 h1 st E1 R1 rz => ?_
  exact ⟨z, ρ, S1, rz, E1, R1, hg.mono (fun ρ' S' w' σ' H' st' E' R' _ => l.nx _ _ _ _ w' (st.trans st') E' R') h1⟩
theorem zs_asg {tg : Expr} {g : ZG} {own : List Nat} (he : ZE X B e te) (hg : ZGt X B tg own g) (hs : swapsWithSole [tg] e pos.line X.env = pure false := by rfl) (hw : swappedStores [tg] e X.env = pure none := by rfl)
    (h1 : (assignEach [tg] X.env).map (·.2) = [assign tg X.env] := by rfl) : ZS X B (.Assign [tg] e pos) (zAsg te g) := ⟨PS.imp (ps_asg he.pe hg.pg hs hw h1) fun _ _ _ h => low_asg he hg h⟩
theorem zs_set (i : Nat) {x : Str} {pos' : Pos} (hN : X.N.Nodup) (he : ZE X B e te) (hi : X.N[i]? = some x := by rfl) (hx : Loc X.env.scope x := by first | exact Or.inl rfl | exact Or.inr rfl) (hs : swapsWith e (some (.Name x pos')) pos.line X.env = pure false := by rfl) (hf : X.fn x = true ∨ X.env.scope.names.lookup x = some .local := by first | exact .inl rfl | exact .inr rfl | assumption) :
    ZS X B (.Assign [.Name x pos'] e pos) (zAsg te (zgName i)) := ⟨PS.imp (ps_set hN hi hx he.pe hs hf) (by
  rintro E σ H ⟨ρ, S, D, hE, hS, l, w⟩
  exact he.go hE hS w fun z S1 v H1 h1 st E1 R1 rz => l.nx _ _ _ _ h1 st (E1.set i rz) R1)⟩
/-- a, b = x, y -/
def zPar (i j : Nat) (ta : ZA) : ZTS := fun D ρ S => ta ρ S fun zs S1 => match zs with
  | [x, y] => D.nx ((ρ.set i (some x)).set j (some y)) S1
  | _ => False
theorem zs_par {i j : Nat} {x y : Str} {a b : Expr} {ta : ZA} {px py pt : Pos} {kt k2 pt2} (hN : X.N.Nodup) (ha : ZAs X B [a, b] ta) (hc : X.calm = true := by rfl) (hi : X.N[i]? = some x := by rfl) (hj : X.N[j]? = some y := by rfl) (hij : i ≠ j := by decide)
    (hx : X.env.scope.names.lookup x = some .local := by rfl) (hy : X.env.scope.names.lookup y = some .local := by rfl)
    (hw : swappedStores [.Tuple [.Name x px, .Name y py] kt pt] (.Tuple [a, b] k2 pt2) X.env = pure (some [x, y]) := by rfl)
    (hs : swapsWithSole [.Tuple [.Name x px, .Name y py] kt pt] (.Tuple [a, b] k2 pt2) pos.line X.env = pure false := by rfl) :
    ZS X B (.Assign [.Tuple [.Name x px, .Name y py] kt pt] (.Tuple [a, b] k2 pt2) pos) (zPar i j ta) := ⟨PS.imp (ps_par hc hN hi hj hij hx hy ha.pa hw hs) (by
  rintro E σ H ⟨ρ, S, D, hE, hS, l, w⟩
  refine ha.go hE hS w fun zs S1 vs H1 h1 st E1 R1 rz => ?_
  split at h1
  · obtain ⟨v, v', rfl, r1, r2⟩ := rzs2 rz
    exact ⟨v, v', rfl, l.nx _ _ _ _ h1 st ((E1.set i r1).set j r2) R1⟩
  · exact h1.elim)⟩
/-- while -/
structure WhR (c : ZB) (tb : ZTS) (D : ZEnds) (ρ : ZEnv) (S : Sto) : Prop where
  ex : ∃ I : Nat → ZEnv → Sto → Prop, (∃ m, I m ρ S) ∧ ∀ m ρ S, I m ρ S → c ρ S fun b S1 =>
    zBr b (tb { D with nx := fun ρ' S' => ∃ m', m' < m ∧ I m' ρ' S', ct := fun ρ' S' => ∃ m', m' < m ∧ I m' ρ' S', bk := D.nx } ρ S1) (D.nx ρ S1)
def zWhile (c : ZB) (tb : ZTS) : ZTS := fun D ρ S => WhR c tb D ρ S
theorem zs_while {c : Expr} {body : List Stmt} {tc : ZB} {tb : ZTS} (hp : PassesOwn (model X.prog X.w) X.A X.env X.xe) (hc : ZTe X B c tc) (hb : ZSs X B body tb) : ZS X B (.While c body [] pos) (zWhile tc tb) := ⟨PS.imp (ps_while hp hc.pt hb.pss) (by
  rintro E σ H ⟨ρ, S, D, hE, hS, l, ⟨I, ⟨m, hm⟩, turn⟩⟩
  refine ⟨fun n σ' H' => ∃ ρ' S', RE X.K H' ρ' σ' ∧ RS X.K B S' H' ∧ Step S S' H H' ∧ I n ρ' S', ⟨m, ρ, S, hE, hS, .refl _ _, hm⟩, ?_⟩
  rintro n σ1 H1 ⟨ρ1, S1, E1, R1, st1, h1⟩
  refine hc.go E1 R1 (turn n ρ1 S1 h1) fun b S2 H2 h2 st2 E2 R2 => ?_
  cases b with
  | true =>
    refine iteT ⟨fun σ' H' => ∃ n', n' < n ∧ ∃ ρ' S', RE X.K H' ρ' σ' ∧ RS X.K B S' H' ∧ Step S S' H H' ∧ I n' ρ' S', fun σ' H' ⟨n', hn, q⟩ => ⟨n', hn, q⟩, ρ1, S2, { D with nx := fun ρ' S' => ∃ m', m' < n ∧ I m' ρ' S', ct := fun ρ' S' => ∃ m', m' < n ∧ I m' ρ' S', bk := D.nx }, E2, R2, ⟨fun ρ' S' σ' H' w' st' E' R' => ?_, fun z S' v H' w' st' rz R' => l.rt _ _ _ _ w' ((st1.trans st2).trans st') rz R', fun ρ' S' σ' H' w' st' E' R' => l.nx _ _ _ _ w' ((st1.trans st2).trans st') E' R', fun ρ' S' σ' H' w' st' E' R' => ?_⟩, h2⟩
    · obtain ⟨m', hm', w'⟩ := w'
      exact ⟨m', hm', ρ', S', E', R', (st1.trans st2).trans st', w'⟩
    · obtain ⟨m', hm', w'⟩ := w'
      exact ⟨m', hm', ρ', S', E', R', (st1.trans st2).trans st', w'⟩
  | false => exact iteF (l.nx _ _ _ _ h2 (st1.trans st2) E2 R2))⟩

/-! ### what is walked -/
abbrev ZTI := ZEnv → Sto → (List PyData → List (Addr × List PyData) → Sto → Prop) → Prop
def Need (S : Sto) (l : List (Addr × List PyData)) : Prop := ∀ p ∈ l, S p.1 = some (.lst p.2)
def ItOk (K : PySem.W.Frag) (H0 : Hp) (J : It) (xs : List PyData) (l : List (Addr × List PyData)) : Prop :=
  ∃ G : Hp → Prop, Walk J xs.length G (fun i H v H' => ∃ x, xs[i]? = some x ∧ Same H H' ∧ Fz K H' v x) ∧ ∀ H S, Le H0 H → RS0 K S H → Need S l → G H
def lowI (K : PySem.W.Frag) (B : Bs) (t : ZTI) : TI := fun σ H R => ∃ ρ S, RE K H ρ σ ∧ RS K B S H ∧ t ρ S fun xs l S' => ∀ J H', Step S S' H H' → RS K B S' H' → ItOk K H' J xs l → R J H'
structure ZI (X : Cx) (B : Bs) (tg e : Expr) (t : ZTI) : Prop where
  mono : ∀ {ρ S} {Q Q' : List PyData → List (Addr × List PyData) → Sto → Prop}, (∀ xs l S', Q xs l S' → Q' xs l S') → t ρ S Q → t ρ S Q'
  pi : PI X tg e (lowI X.K B t)
theorem PI.imp {tg e : Expr} {t t' : TI} (h : PI X tg e t) (q : ∀ σ H R, t' σ H R → t σ H R) : PI X tg e t' := ⟨fun pins s σ H R I w => h.run pins s σ H R I (q σ H R w)⟩
/-- a list or a tuple -/
theorem pi_seq {tg l : Expr} {tl : TE} (hl : PE X l tl) : PI X tg l (fun σ H R => tl σ H fun x H1 => ∃ a, x = .ref a ∧ (((∃ xs, SqL X.K H1 a xs) ∧ R (Itl X.K a) H1) ∨ ((∃ xs, SqT X.K H1 a xs) ∧ R (Itt X.K a) H1))) := by
  refine ⟨fun pins s σ H R I h => ?_⟩
  refine thn (hl.run pins s σ H _ I h) fun v s1 ⟨x, H1, I1, r1, a, ex, q1⟩ => ?_
  subst ex
  cases r1
  rcases q1 with ⟨⟨xs, hq⟩, q⟩ | ⟨⟨xs, hq⟩, q⟩
  · obtain ⟨its, rv, p, hz⟩ := I1.list hq
    exact wpAny_pyIter_list p.isList (pi_one (tk := s1.toks) I1 _ (turn_list a _) ⟨_, Heap.get?_push_size _ rfl, rfl, rfl⟩ q)
  · obtain ⟨its, rv, p, hz⟩ := I1.tuple hq
    exact wpAny_pyIter_tuple (show s1.heap.IsTuple a its.toArray from p) (pi_one (tk := s1.toks) I1 _ (turn_tuple a _) ⟨_, Heap.get?_push_size _ rfl, rfl, rfl⟩ q)
def needZ (z : Z) (xs : List PyData) : List (Addr × List PyData) := match z with
  | .r a => [(a, xs)]
  | _ => []
def ziRow (te : ZT) : ZTI := fun ρ S Q => te ρ S fun z S1 => match rowZ S1 z with
  | some xs => Q xs (needZ z xs) S1
  | none => False
theorem itok_list {K : PySem.W.Frag} {H0 : Hp} {a : Addr} {xs : List PyData} {l : List (Addr × List PyData)} (h : ∀ H S, Le H0 H → RS0 K S H → Need S l → ∃ vs, SqL K H a vs ∧ FzAll K H vs xs) : ItOk K H0 (Itl K a) xs l := by
  refine ⟨fun H => ∃ vs, SqL K H a vs ∧ FzAll K H vs xs, ⟨fun i H hi ⟨vs, q, f⟩ => ?_, fun H ⟨vs, q, f⟩ => ⟨vs, q, by rw [f.length]; exact Nat.le_refl _⟩, fun i H x H' hi ⟨vs, q, f⟩ y => ?_⟩, h⟩
  · obtain ⟨v, e, _⟩ := f.get (List.getElem?_eq_getElem hi)
    exact ⟨vs, v, q, e⟩
  · obtain ⟨e1, y⟩ := y
    subst e1
    obtain ⟨d, e, fd⟩ := f.get' (y vs q)
    exact ⟨d, e, .refl _, fd⟩
theorem itok_tup {K : PySem.W.Frag} {H0 : Hp} {a : Addr} {xs : List PyData} {l : List (Addr × List PyData)} (h : ∀ H S, Le H0 H → RS0 K S H → Need S l → ∃ vs, SqT K H a vs ∧ FzAll K H vs xs) : ItOk K H0 (Itt K a) xs l := by
  refine ⟨fun H => ∃ vs, SqT K H a vs ∧ FzAll K H vs xs, ⟨fun i H hi ⟨vs, q, f⟩ => ?_, fun H ⟨vs, q, f⟩ => ⟨vs, q, by rw [f.length]; exact Nat.le_refl _⟩, fun i H x H' hi ⟨vs, q, f⟩ y => ?_⟩, h⟩
  · obtain ⟨v, e, _⟩ := f.get (List.getElem?_eq_getElem hi)
    exact ⟨vs, v, q, e⟩
  · obtain ⟨e1, y⟩ := y
    subst e1
    obtain ⟨d, e, fd⟩ := f.get' (y vs q)
    exact ⟨d, e, .refl _, fd⟩
/-- a row's source, as long as it is needed -/
theorem src_of {K : PySem.W.Frag} {S : Sto} {H : Hp} {z : Z} {v : V} {xs : List PyData} (hS : RS0 K S H) (rz : RZ K H v z) (e : rowZ S z = some xs) :
    ∃ a, v = .ref a ∧ ((∀ H' S', Le H H' → RS0 K S' H' → Need S' (needZ z xs) → ∃ vs, SqL K H' a vs ∧ FzAll K H' vs xs) ∨ (∀ H' S', Le H H' → RS0 K S' H' → Need S' (needZ z xs) → ∃ vs, SqT K H' a vs ∧ FzAll K H' vs xs)) := by
  cases rz with
  | d h =>
    cases h with
    | lst s f => simp [rowZ] at e; subst e; exact ⟨_, rfl, .inl fun H' S' l _ _ => ⟨_, (s.le l).l, f.le l⟩⟩
    | tup s f => simp [rowZ] at e; subst e; exact ⟨_, rfl, .inr fun H' S' l _ _ => ⟨_, sqT_le l s, f.le l⟩⟩
    | _ => simp [rowZ] at e
  | k s f => simp [rowZ] at e; subst e; exact ⟨_, rfl, .inl fun H' S' l _ _ => ⟨_, (s.le l).l, f.le l⟩⟩
  | r a =>
    refine ⟨a, rfl, .inl fun H' S' l r n => ?_⟩
    obtain ⟨vs, q, f⟩ := r a _ (n (a, xs) (by simp [needZ]))
    exact ⟨vs, .of q, f⟩
theorem need_now {S : Sto} {z : Z} {xs : List PyData} (e : rowZ S z = some xs) : Need S (needZ z xs) := by
  intro p hp
  cases z with
  | r a =>
    simp only [needZ, List.mem_singleton] at hp
    subst hp
    simp only [rowZ] at e
    cases q : S a with
    | none => rw [q] at e; cases e
    | some c =>
      cases c with
      | lst ys =>
        rw [q] at e
        cases e
        rfl
  | d x => simp [needZ] at hp
  | k x => simp [needZ] at hp
theorem zi_row {tg : Expr} (he : ZE X B e te) : ZI X B tg e (ziRow te) := by
  refine ⟨fun {ρ S Q Q'} q w => he.mono (fun z S1 h1 => ?_) w, PI.imp (pi_seq he.pe) ?_⟩
  · split at h1
    · exact q _ _ _ h1
    · exact h1.elim
  · rintro σ H R ⟨ρ, S, hE, hS, w⟩
    refine he.go hE hS w fun z S1 v H1 h1 st E1 R1 rz => ?_
    split at h1
    · rename_i xs e1
      obtain ⟨a, rfl, q⟩ := src_of R1.1 rz e1
      rcases q with q | q
      · obtain ⟨vs, sq, _⟩ := q H1 S1 (.refl _) R1.1 (need_now e1)
        exact ⟨a, rfl, .inl ⟨⟨vs, sq⟩, h1 _ H1 st R1 (itok_list q)⟩⟩
      · obtain ⟨vs, sq, _⟩ := q H1 S1 (.refl _) R1.1 (need_now e1)
        exact ⟨a, rfl, .inr ⟨⟨vs, sq⟩, h1 _ H1 st R1 (itok_tup q)⟩⟩
    · exact h1.elim
def rangeD (lo : Int) (n : Nat) : List PyData := (List.range n).map fun (i : Nat) => PyData.int (lo + (i : Int))
theorem rangeD_length (lo : Int) (n : Nat) : (rangeD lo n).length = n := by simp [rangeD]
theorem rangeD_get {lo : Int} {n i : Nat} (h : i < n) : (rangeD lo n)[i]? = some (.int (lo + (i : Int))) := by simp [rangeD, h]
theorem itok_range {K : PySem.W.Frag} {H0 : Hp} {lo : Int} {n : Nat} : ItOk K H0 (Itr lo n) (rangeD lo n) [] := by
  refine ⟨fun _ => True, ?_, fun _ _ _ _ _ => True.intro⟩
  rw [rangeD_length]
  exact walk_range.mono (fun _ _ => True.intro) fun i H x H' hi _ y => ⟨_, rangeD_get hi, by rw [y.1]; exact .refl _, by rw [y.2]; exact .int _⟩
def In62 (i : Int) : Prop := -(2 ^ 62) ≤ i ∧ i < 2 ^ 62
def ziRange1 (t : ZA) : ZTI := fun ρ S Q => t ρ S fun zs S1 => match zs with
  | [.d (.int j)] => In62 j ∧ Q (rangeD 0 j.toNat) [] S1
  | _ => False
def ziRange2 (t : ZA) : ZTI := fun ρ S Q => t ρ S fun zs S1 => match zs with
  | [.d (.int i), .d (.int j)] => In62 i ∧ In62 j ∧ Q (rangeD i (j - i).toNat) [] S1
  | _ => False
theorem zi_range1 {a tg : Expr} {ta : ZA} {p pos : Pos} (hg : Gl X "range") (hm : X.mg "range" = none) (ha : ZAs X B [a] ta) (hs : starEach [a] X.env = [(false, eval a X.env)] := by rfl) : ZI X B tg (.Call (.Name "range" p) [a] [] pos) (ziRange1 ta) := by
  refine ⟨fun {ρ S Q Q'} q w => ha.mono (fun z S1 h1 => ?_) w, PI.imp (pi_range1 hg hm ha.pa hs) ?_⟩
  · split at h1
    · exact ⟨h1.1, q _ _ _ h1.2⟩
    · exact h1.elim
  · rintro σ H R ⟨ρ, S, hE, hS, w⟩
    refine ha.go hE hS w fun zs S1 vs H1 h1 st E1 R1 rz => ?_
    split at h1
    · obtain ⟨v, rfl, hz⟩ := rzs1 rz
      cases hz with | d hz => cases hz; exact ⟨_, rfl, h1.1.1, h1.1.2, h1.2 _ H1 st R1 itok_range⟩
    · exact h1.elim
theorem zi_range2 {a b tg : Expr} {ta : ZA} {p pos : Pos} (hg : Gl X "range") (hm : X.mg "range" = none) (ha : ZAs X B [a, b] ta) (hs : starEach [a, b] X.env = [(false, eval a X.env), (false, eval b X.env)] := by rfl) (hs2 : starEach [b] X.env = [(false, eval b X.env)] := by rfl) :
    ZI X B tg (.Call (.Name "range" p) [a, b] [] pos) (ziRange2 ta) := by
  refine ⟨fun {ρ S Q Q'} q w => ha.mono (fun z S1 h1 => ?_) w, PI.imp (pi_range2 hg hm ha.pa hs hs2) ?_⟩
  · split at h1
    · exact ⟨h1.1, h1.2.1, q _ _ _ h1.2.2⟩
    · exact h1.elim
  · rintro σ H R ⟨ρ, S, hE, hS, w⟩
    refine ha.go hE hS w fun zs S1 vs H1 h1 st E1 R1 rz => ?_
    split at h1
    · obtain ⟨v, v', rfl, hz, hz'⟩ := rzs2 rz
      cases hz with | d hz => cases hz; cases hz' with | d hz' => cases hz'; exact ⟨_, _, rfl, ⟨h1.1.1, h1.1.2, h1.2.1.1, h1.2.1.2⟩, h1.2.2 _ H1 st R1 itok_range⟩
    · exact h1.elim

/-! ### for -/
structure ForR (g : ZG) (tb : ZTS) (D : ZEnds) (ρ : ZEnv) (xs : List PyData) (l : List (Addr × List PyData)) (S1 : Sto) : Prop where
  ex : ∃ I : Nat → ZEnv → Sto → Prop, I 0 ρ S1 ∧ (∀ i ρ' S', i ≤ xs.length → I i ρ' S' → Need S' l) ∧
    (∀ (i : Nat) (x : PyData) ρ' S', xs[i]? = some x → I i ρ' S' → g (.d x) ρ' S' fun ρ2 S2 => tb { D with nx := I (i + 1), ct := I (i + 1), bk := D.nx } ρ2 S2) ∧ ∀ ρ' S', I xs.length ρ' S' → D.nx ρ' S'
def zFor (ti : ZTI) (g : ZG) (tb : ZTS) : ZTS := fun D ρ S => ti ρ S fun xs l S1 => ForR g tb D ρ xs l S1
theorem zs_for {tg iter : Expr} {body : List Stmt} {ti : ZTI} {g : ZG} {tb : ZTS} {own : List Nat} (hp : PassesOwn (model X.prog X.w) X.A X.env X.xe) (hi : ZI X B tg iter ti) (hg : ZGt X B tg own g) (hb : ZSs X B body tb) (hc : X.calm = true := by rfl)
    (hs : ∀ x, foldedSetIterable iter X.env x = pure x := by intro _; rfl) : ZS X B (.For tg iter body [] pos) (zFor ti g tb) := ⟨PS.imp (ps_for hp hc hi.pi hg.pg hb.pss hs) (by
  rintro E σ H ⟨ρ, S, D, hE, hS, l, w⟩
  refine ⟨ρ, S, hE, hS, hi.mono (fun xs nd S1 h1 J H1 st1 R1 ok => ?_) w⟩
  obtain ⟨⟨I, i0, iN, turn, fin⟩⟩ := h1
  obtain ⟨G, W, hG⟩ := ok
  have E1 := hE.le (st1.le hS.1)
  refine for_it W (fun i σ' H' => ∃ ρ' S', RE X.K H' ρ' σ' ∧ RS X.K B S' H' ∧ Step S1 S' H1 H' ∧ I i ρ' S') ⟨ρ, S1, E1, R1, .refl _ _, i0⟩ ?_ ?_ ?_
  · rintro i σ' H' hi' ⟨ρ', S', E', R', st', h'⟩
    exact hG H' S' (st'.le R1.1) R'.1 (iN i ρ' S' hi' h')
  · rintro i x σ' H' H2 hlt ⟨ρ', S', E', R', st', h'⟩ ⟨d, ed, sm, fd⟩
    have st2 := step_same (S := S') sm
    refine ⟨.d d, ρ', S', .d fd, E'.le (.same sm), R'.step (R'.1.same sm) st2, hg.mono (fun ρ3 S3 h3 σ3 H3 st3 E3 R3 _ => ?_) (turn i d ρ' S' ed h')⟩
    have stA := (st'.trans st2).trans st3
    exact ⟨ρ3, S3, { D with nx := I (i + 1), ct := I (i + 1), bk := D.nx }, E3, R3, ⟨fun ρ4 S4 σ4 H4 w4 st4 E4 R4 => ⟨ρ4, S4, E4, R4, stA.trans st4, w4⟩, fun z S4 v H4 w4 st4 rz R4 => l.rt _ _ _ _ w4 (st1.trans (stA.trans st4)) rz R4, fun ρ4 S4 σ4 H4 w4 st4 E4 R4 => l.nx _ _ _ _ w4 (st1.trans (stA.trans st4)) E4 R4, fun ρ4 S4 σ4 H4 w4 st4 E4 R4 => ⟨ρ4, S4, E4, R4, stA.trans st4, w4⟩⟩, h3⟩
  · rintro σ' H' ⟨ρ', S', E', R', st', h'⟩
    exact l.nx _ _ _ _ (fin ρ' S' h') (st1.trans st') E' R')⟩

theorem Step.poke {S S' : Sto} {H H' : Hp} {L : Addr} {o : HO} (st : Step S S' H H') (h : ∀ u, H L = some u → S L = none → False) : Step S S' H (upd H' L o) := fun b u e n => by
  have ne : b ≠ L := fun z => by subst z; exact h u e n
  exact ⟨by rw [upd_ne ne]; exact (st b u e n).1, (st b u e n).2⟩
theorem RS.out {K : PySem.W.Frag} {B : Bs} {S : Sto} {H : Hp} {L : Addr} (r : RS K B S H) (n : H L = none) : ∀ u, B.H0 L = some u → B.S0 L = none → False := fun u e q => by
  have := (r.2 L u e q).1
  rw [n] at this
  cases this
theorem RS.poke {K : PySem.W.Frag} {B : Bs} {S : Sto} {H : Hp} {L : Addr} {o : HO} {us : List V} (r : RS K B S H) (n : S L = none) (e : H L = some (.lst us)) (h : ∀ u, B.H0 L = some u → B.S0 L = none → False) : RS K B S (upd H L o) := by
  refine ⟨fun a c ea => ?_, r.2.poke h⟩
  have ne : a ≠ L := fun z => by subst z; rw [n] at ea; cases ea
  have ls : Le H (upd H L o) := ⟨fun b zs e' => by rw [upd_ne (ne_of e' e fun z => nomatch z)]; exact e', fun b o u e' => by rw [upd_ne (ne_of e' e fun z => nomatch z)]; exact e'⟩
  cases c with
  | lst ds =>
    obtain ⟨xs, q, f⟩ := r.1 a _ ea
    exact ⟨xs, by rw [upd_ne ne]; exact q, f.le ls⟩
/-! ### comprehensions -/
structure ZTs (X : Cx) (B : Bs) (ifs : List Expr) (t : ZB) : Prop where
  mono : ∀ {ρ S} {Q Q' : Bool → Sto → Prop}, (∀ z S', Q z S' → Q' z S') → t ρ S Q → t ρ S Q'
  pts : PTs X ifs (lowB X.K B t)
theorem PTs.imp {e : List Expr} {t t' : TT} (h : PTs X e t) (q : ∀ σ H Q, t' σ H Q → t σ H Q) : PTs X e t' := ⟨fun pins s σ H Q I w => h.run pins s σ H Q I (q σ H Q w)⟩
def zYes : ZB := fun _ S Q => Q true S
theorem zts_nil : ZTs X B [] zYes := by
  refine ⟨fun q w => q _ _ w, PTs.imp pts_nil ?_⟩
  rintro σ H Q ⟨ρ, S, hE, hS, w⟩
  exact w H (.refl _ _) hS
theorem zts_one {c : Expr} {t : ZB} (h : ZTe X B c t) : ZTs X B [c] t := ⟨h.mono, pts_one h.pt⟩
structure LcR (g : ZG) (tt : ZB) (te : ZT) (vs : List Nat) (ρ : ZEnv) (Q : ZQ) (xs : List PyData) (l : List (Addr × List PyData)) (S1 : Sto) : Prop where
  ex : ∃ I : Nat → List PyData → Sto → Prop, I 0 [] S1 ∧ (∀ i acc S', i ≤ xs.length → I i acc S' → Need S' l) ∧
    (∀ (i : Nat) (x : PyData) acc S', xs[i]? = some x → I i acc S' → g (.d x) (zwipe ρ vs) S' fun ρ2 S2 => tt ρ2 S2 fun b S3 =>
      zBr b (te ρ2 S3 fun y S4 => match y with
        | .d d => acc.length < sizeLine ∧ I (i + 1) (acc ++ [d]) S4
        | _ => False) (I (i + 1) acc S3)) ∧ ∀ acc S', I xs.length acc S' → Q (zl acc) S'
def zLc (ti : ZTI) (g : ZG) (tt : ZB) (te : ZT) (vs : List Nat) : ZT := fun ρ S Q => ti ρ S fun xs l S1 => LcR g tt te vs ρ Q xs l S1
/-- inside a comprehension -/
abbrev Blk (X : Cx) (scope : Scope) (P : Cx → Prop) : Prop := ∀ (s : Shared) (H : Hp) (C : Addr) (cl : List (Str × Addr)) (fp : List Addr), P (X.blk s H scope (compEnvC scope cl C X.env) fp)
theorem low_lc {tg iter : Expr} {own : List Nat} {ti : ZTI} {g : ZG} {tt : ZB} {te : ZT} {vs : List Nat} {K : PySem.W.Frag} (hK : K = X.K) (hi : ZI X B tg iter ti)
    (gm : ∀ {z ρ S} {Q Q' : ZEnv → Sto → Prop}, (∀ ρ' S', Q ρ' S' → Q' ρ' S') → g z ρ S Q → g z ρ S Q')
    (tm : ∀ {ρ S} {Q Q' : Bool → Sto → Prop}, (∀ z S', Q z S' → Q' z S') → tt ρ S Q → tt ρ S Q')
    (em : ∀ {ρ S} {Q Q' : ZQ}, (∀ z S', Q z S' → Q' z S') → te ρ S Q → te ρ S Q') (hv : ∀ i ∈ own, i ∈ vs) :
    ∀ σ H Q (Qf : VK), (∀ a us H', H' a = some (.lst us) → (∀ o, Q (.ref a) (upd H' a (.frz o (.lst us)))) → Qf (.ref a) H') → low K B (zLc ti g tt te vs) σ H Q → tLc (lowI K B ti) (lowG K B own g) (lowB K B tt) (low K B te) vs σ H Qf := by
  subst hK
  rintro σ H Q Qf hQf ⟨ρ, S, hE, hS, w⟩
  refine ⟨ρ, S, hE, hS, hi.mono (fun xs nd S1 h1 J H1 st1 R1 ok L nL => ?_) w⟩
  obtain ⟨⟨I, i0, iN, turn, fin⟩⟩ := h1
  obtain ⟨G, W, hG⟩ := ok
  have E1 := hE.le (st1.le hS.1)
  have sm0 : ∀ o, Same H1 (upd H1 L o) := fun o => same_fresh nL
  -- between two turns: the cells, the new list at L among what is not told
  refine lc_it W (fun i H' => ∃ acc us S', RE X.K H' ρ σ ∧ RS X.K B S' H' ∧ Step S1 S' H1 H' ∧ S' L = none ∧ H' L = some (.lst us) ∧ FzAll X.K H' us acc ∧ I i acc S') ⟨[], [], S1, E1.le (.same (sm0 _)), R1.step (R1.1.same (sm0 _)) (step_same (sm0 _)), step_same (sm0 _), R1.1.fresh nL, upd_same, .nil, i0⟩ ?_ ?_ ?_
  · rintro i H' hi' ⟨acc, us, S', E', R', st', nS, hL, f, h'⟩
    exact hG H' S' (st'.le R1.1) R'.1 (iN i acc S' hi' h')
  · rintro i x H' H2 hlt ⟨acc, us, S', E', R', st', nS, hL, f, h'⟩ ⟨d, ed, sm, fd⟩
    have st2 := step_same (S := S') sm
    have R2 := R'.step (R'.1.same sm) st2
    have E2 := (E'.le (.same sm)).wipe vs
    refine ⟨.d d, zwipe ρ vs, S', .d fd, E2, R2, gm (fun ρ3 S3 h3 σ3 H3 st3 E3 R3 ow => ?_) (turn i d acc S' ed h')⟩
    refine ⟨(ow vs hv).trans wipe_wipe, ρ3, S3, E3, R3, tm (fun b S4 h4 H4 st4 R4 => ?_) h3⟩
    have E0 : ∀ {H5 : Hp}, Le H' H5 → RE X.K H5 ρ σ := fun le => E'.le le
    obtain ⟨hL2, nS2⟩ := ((st2.trans st3).trans st4) L _ hL nS
    have le4 := ((st2.trans st3).trans st4).le R'.1
    cases b with
    | true =>
      refine iteT ⟨ρ3, S4, E3.le (st4.le R3.1), R4, em (fun y S5 h5 v5 H5 st5 rz5 R5 => ?_) h4⟩
      split at h5
      · rename_i d5
        cases rz5 with
        | d rz5 =>
          obtain ⟨hL3, nS3⟩ := st5 L _ hL2 nS2
          have le5 := le4.trans (st5.le R4.1)
          have f5 := f.le le5
          have ls : Le H5 (upd H5 L (.lst (us ++ [v5]))) := le_set hL3
          have stA := (((st'.trans st2).trans st3).trans st4).trans st5
          exact ⟨us, hL3, by rw [f.length]; exact h5.1, acc ++ [d5], us ++ [v5], S5, E0 (le5.trans ls), R5.poke nS3 hL3 (R1.out nL), stA.poke (fun _ e => by rw [nL] at e; cases e), nS3, upd_same, (f5.append (.one rz5)).le ls, h5.2⟩
      · exact h5.elim
    | false => exact iteF ⟨acc, us, S4, E0 le4, R4, st'.trans ((st2.trans st3).trans st4), nS2, hL2, f.le le4, h4⟩
  · rintro H' ⟨acc, us, S', E', R', st', nS, hL, f, h'⟩
    refine hQf L us H' hL fun o => ?_
    have ls : Le H' (upd H' L (.frz o (.lst us))) := ⟨fun b zs e => by rw [upd_ne (ne_of e hL fun z => nomatch z)]; exact e, fun b o u e => by rw [upd_ne (ne_of e hL fun z => nomatch z)]; exact e⟩
    have f' := f.le ls
    exact fin acc S' h' _ _ (st1.trans (st'.poke fun _ e => by rw [nL] at e; cases e)) (.d (.lst ⟨o, upd_same⟩ f')) (R'.poke nS hL (R1.out nL))
variable {tg iter elt : Expr} {ifs : List Expr} {scope : Scope} {own : List (Str × Nat)} {o : List Nat} {ti : ZTI} {g : ZG} {tt : ZB} {te : ZT}
theorem ze_lc (hN : X.N.Nodup) (hi : ZI X B tg iter ti) (ok : BlkOk X.N X.env.scope scope own) (hg : Blk X scope fun X => ZGt X B tg o g) (ht : Blk X scope fun X => ZTs X B ifs tt) (he : Blk X scope fun X => ZE X B elt te)
    (hc : X.calm = true := by rfl) (hv : ∀ i ∈ o, i ∈ own.map (·.2) := by decide) (hs : ∀ x, foldedSetIterable iter X.env x = pure x := by intro _; rfl) : ZE X B (.ListComp elt [⟨tg, iter, ifs, 0⟩] scope pos) (zLc ti g tt te (own.map (·.2))) := by
  have gm : ∀ {z ρ S} {Q Q' : ZEnv → Sto → Prop}, (∀ ρ' S', Q ρ' S' → Q' ρ' S') → g z ρ S Q → g z ρ S Q' := (hg X.s_0 X.H_0 0 [] []).mono
  have tm : ∀ {ρ S} {Q Q' : Bool → Sto → Prop}, (∀ z S', Q z S' → Q' z S') → tt ρ S Q → tt ρ S Q' := (ht X.s_0 X.H_0 0 [] []).mono
  have em : ∀ {ρ S} {Q Q' : ZQ}, (∀ z S', Q z S' → Q' z S') → te ρ S Q → te ρ S Q' := (he X.s_0 X.H_0 0 [] []).mono
  refine ⟨fun {ρ S Q Q'} q w => hi.mono (fun xs l S1 ⟨⟨I, a, b, c, d⟩⟩ => ⟨⟨I, a, b, c, fun acc S' h => q _ _ (d acc S' h)⟩⟩) w, ?_⟩
  exact PE.imp (pe_rest (pe_lc hc hN hi.pi ok (fun s H C cl fp => (hg s H C cl fp).pg) (fun s H C cl fp => (ht s H C cl fp).pts) (fun s H C cl fp => (he s H C cl fp).pe) hs)) fun σ H Q w => low_lc (g := g) (tt := tt) (te := te) rfl hi gm tm em hv σ H Q _ (fun a us H' e q => ⟨a, us, rfl, e, q⟩) w
end
end ZL

namespace ZL
open PySem PySem.Spec PyProof.Rows L2

/-! ### what a def promises; where it stands in the stack nothing is being shown -/
structure FnG (P : Program) (w : World) (K : PySem.W.Frag) (mg : Str → Option Value) (base : Heap) (k : Nat) (f : Addr) (fd : FuncData) (ps : List Str) (sp : Sp) : Prop where
  len : ∀ vs H Q E, sp vs H Q E → vs.length = ps.length
  run : ∀ (A : Around) (outer : List PySem.Env) (s : Shared) (H : Hp) (args : Args) (us : List Value) (vs : List V) (Q : VK) (E : XK), A.guards = some [] → Room k A → Env0 P w K mg base A outer s H → BindsTo s fd args (ps.zip us) → Vals vs us → sp vs H Q E →
    codeAny (model P w) A (.call (.ref f) args) (CR (L2.CX P w) outer P w H s Q E) s
theorem FnG.mono {P : Program} {w : World} {K : PySem.W.Frag} {mg : Str → Option Value} {base : Heap} {j k : Nat} {f : Addr} {fd : FuncData} {ps : List Str} {sp : Sp} (F : FnG P w K mg base j f fd ps sp) (h : j ≤ k) : FnG P w K mg base k f fd ps sp :=
  ⟨F.len, fun A outer s H args us vs Q E g hr => F.run A outer s H args us vs Q E g (hr.mono h)⟩
theorem FnG.imp {P : Program} {w : World} {K : PySem.W.Frag} {mg : Str → Option Value} {base : Heap} {k : Nat} {f : Addr} {fd : FuncData} {ps : List Str} {sp sp' : Sp} (F : FnG P w K mg base k f fd ps sp) (h : ∀ vs H Q E, sp' vs H Q E → sp vs H Q E) : FnG P w K mg base k f fd ps sp' :=
  ⟨fun vs H Q E q => F.len vs H Q E (h _ _ _ _ q), fun A outer s H args us vs Q E g hr e b r q => F.run A outer s H args us vs Q E g hr e b r (h _ _ _ _ q)⟩
section
variable {P : Program} {w : World} {K : PySem.W.Frag} {mg : Str → Option Value} {base : Heap} {k : Nat} {f : Addr} {x qual : Str} {N ps : List Str} {sp : Sp} {params : Arguments} {body : List Stmt} {scope : Scope}
/-- a def by its body -/
theorem fnG_of {dV kV doc pm cdv ct oc : Value} {an od : Option Addr} {osl : Array (Option Value)} (lk : K.lookup f = some ⟨oc, od, .func (PySem.W.fnOf x qual params body scope dV kV doc pm an cdv ct), osl⟩) (hcd : PySem.W.codeIn K cdv qual = true) (S : FnScope N ps scope)
    (len : ∀ vs H Q E, sp vs H Q E → vs.length = ps.length)
    (hbody : ∀ (cdv : Value) (A : Around) (outer : List PySem.Env) (s : Shared) (H : Hp) (vs : List V) (Q : VK) (E : XK), A.guards = some [] → Room k (A.deeper (envOfC qual scope s.heap.objs.size f cdv)) → sp vs H Q E →
      ∃ t, PSs (cxOf (L2.CX P w) P w K mg base N qual scope f cdv A outer s H E) body t ∧ t { nx := fun _ H' => Q .non H', rt := Q } (start N vs) H) :
    FnG P w K mg base (k + 1) f (PySem.W.fnOf x qual params body scope dV kV doc pm an cdv ct) ps sp := by
  constructor
  · exact len
  · intro A outer s H args us vs Q E hG room ground bound rv promise
    have nargs : vs.length = ps.length := len _ _ _ _ promise
    have inHeap : K.In s.heap := ground.mod.kin.keeps fun b o e => And.left (ground.bs b o e)
    have noLim : s.heap.NoLimit := ground.mod.nolimit.keeps fun b o e => And.left (ground.bs b o e)
    have kinds : ∀ y ∈ ps.zip us, scope.names.lookup y.1 = some .local ∨ (scope.names.lookup y.1 = some .cell ∧ ((cellsFrom (s.heap.objs.size + 1) scope.names []).lookup y.1).isSome = true) := by
      rintro ⟨n, v⟩ hy
      cases S.par n (List.of_mem_zip hy).1 with
      | inl q => exact .inl q
      | inr q => exact .inr ⟨q, PySem.W.cellsFrom_some _ _ _ (.inl q)⟩
    refine codeAny_call_function room.depth (inHeap f _ lk) rfl S.co S.gen rfl (PySem.W.codeRec_of inHeap hcd) (bound _ A.in1 _ _ ?_)
    refine wpAny_newFunctionEnv_cells S.kind kinds ?_
    intro env he s1 entered
    subst he
    refine ⟨noLim.keeps entered.toInCall.keep, codeAny_func ?_⟩
    obtain ⟨t, ht, hq⟩ := hbody cdv A outer s H vs Q E hG (room.deeper _) promise
    have begun := inv_start (CX := L2.CX P w) (E := E) (qual := qual) (f := f) (cd := cdv) S room.hd ground nargs rv entered
    refine wpAny_mono (ht.run [] s1 (start N vs) H _ begun hq) ?_ (fun _ _ left => left)
    intro fl s' ended
    cases fl with
    | ret u => obtain ⟨v, σ', H', J, r, q⟩ := ended; exact ⟨v, H', J.os, J.bare, J.base, J.hok, r, q⟩
    | next => obtain ⟨σ', H', J, q⟩ := ended; exact ⟨.non, H', J.os, J.bare, J.base, J.hok, rfl, q⟩
    | brk => obtain ⟨_, _, _, q⟩ := ended; exact q.elim
    | cont => obtain ⟨_, _, _, q⟩ := ended; exact q.elim
end

/-! ### promises by data -/
/-- an exception: its class, its fields -/
structure ZX where
  cls : Addr
  fs : List (Str × PyData)
inductive RX (K : PySem.W.Frag) (H : Hp) : Value → Option Addr → ZX → Prop
  | plain (C : Addr) : RX K H (.ref C) none ⟨C, []⟩
abbrev ZSp := List Z → Sto → ZQ → (ZX → Sto → Prop) → Prop
def lowP (K : PySem.W.Frag) (zsp : ZSp) : Sp := fun vs H Q E => ∃ zs S, RZs K H vs zs ∧ RS0 K S H ∧ zsp zs S (fun z S' => ∀ v H', Step S S' H H' → RZ K H' v z → RS0 K S' H' → Q v H') fun x S' => ∀ c d H', Step S S' H H' → RX K H' c d x → RS0 K S' H' → E c d H'
structure ZFn (P : Program) (w : World) (K : PySem.W.Frag) (mg : Str → Option Value) (base : Heap) (k : Nat) (f : Addr) (fd : FuncData) (ps : List Str) (zsp : ZSp) : Prop where
  mono : ∀ {zs S Q Q'} {E E' : ZX → Sto → Prop}, (∀ z S', Q z S' → Q' z S') → (∀ x S', E x S' → E' x S') → zsp zs S Q E → zsp zs S Q' E'
  fn : FnG P w K mg base k f fd ps (lowP K zsp)
theorem ZFn.up {P : Program} {w : World} {K : PySem.W.Frag} {mg : Str → Option Value} {base : Heap} {j k : Nat} {f : Addr} {fd : FuncData} {ps : List Str} {sp : ZSp} (F : ZFn P w K mg base j f fd ps sp) (h : j ≤ k) : ZFn P w K mg base k f fd ps sp := ⟨F.mono, F.fn.mono h⟩
/-- what is wanted of an exception -/
abbrev ZXW := ZEnv → ZX → Sto → Prop
def lowW (K : PySem.W.Frag) (B : Bs) (EZ : ZXW) : WX := fun c d σ H => ∃ ρ x S, RE K H ρ σ ∧ RX K H c d x ∧ RS K B S H ∧ EZ ρ x S
def Tk (X : Cx) (B : Bs) (EZ : ZXW) : Prop := Takes X (lowW X.K B EZ)
theorem tk0 {X : Cx} {B : Bs} : Tk X B fun _ _ _ => False := takes0.imp fun _ _ _ _ ⟨_, _, _, _, _, _, h⟩ => h
theorem tkB {X : Cx} {B : Bs} {EZ : ZXW} (h : ∀ ρ x S, ¬ EZ ρ x S) : Tk X B EZ := takes0.imp fun _ _ _ _ ⟨_, _, _, _, _, _, q⟩ => h _ _ _ q
/-- fewer cells -/
def Sub (S S' : Sto) : Prop := ∀ a c, S a = some c → S' a = some c
theorem Sub.refl (S : Sto) : Sub S S := fun _ _ h => h
theorem Sub.put {S S' : Sto} {p : Addr} {c : Cell} (h : Sub S S') (n : S p = none) : Sub S (S'.put p c) := fun a d e => by
  have ne : a ≠ p := fun z => by rw [z, n] at e; cases e
  rw [put_ne ne]
  exact h a d e
theorem Sub.rs {K : PySem.W.Frag} {S S' : Sto} {H : Hp} (h : Sub S S') (r : RS0 K S' H) : RS0 K S H := fun a c e => r a c (h a c e)
theorem Sub.none {S S' : Sto} (h : Sub S S') {a : Addr} (e : S' a = Option.none) : S a = Option.none := by
  cases q : S a with
  | none => rfl
  | some c => rw [h a c q] at e; cases e
theorem Sub.step {S0 S S' : Sto} {H0 H : Hp} (h : Sub S S') (r : Step S0 S' H0 H) : Step S0 S H0 H := fun b o e n => ⟨(r b o e n).1, h.none (r b o e n).2⟩
section
variable {P : Program} {w : World} {K : PySem.W.Frag} {mg : Str → Option Value} {base : Heap} {k : Nat} {f : Addr} {fd : FuncData} {x qual : Str} {st : Stmt} {N ps : List Str} {zsp : ZSp}
theorem zfn_core {params : Arguments} {body : List Stmt} {scope : Scope} {dV kV doc pm cdv ct oc : Value} {an od : Option Addr} {osl : Array (Option Value)} (lk : K.lookup f = some ⟨oc, od, .func (PySem.W.fnOf x qual params body scope dV kV doc pm an cdv ct), osl⟩) (hcd : PySem.W.codeIn K cdv qual = true) (S : FnScope N ps scope)
    (len : ∀ zs S Q E, zsp zs S Q E → zs.length = ps.length) (mono : ∀ {zs S Q Q'} {E E' : ZX → Sto → Prop}, (∀ z S', Q z S' → Q' z S') → (∀ x S', E x S' → E' x S') → zsp zs S Q E → zsp zs S Q' E')
    (hbody : ∀ (cdv : Value) (A : Around) (outer : List PySem.Env) (s : Shared) (H : Hp) (E : XK) (zs : List Z) (S : Sto) (Qz : ZQ) (Ez : ZX → Sto → Prop), (A.deeper (envOfC qual scope s.heap.objs.size f cdv)).guards = some [] → Room k (A.deeper (envOfC qual scope s.heap.objs.size f cdv)) →
      Tk (cxOf (L2.CX P w) P w K mg base N qual scope f cdv A outer s H E) ⟨S, H⟩ (fun _ x S' => ∃ S2, Sub S2 S' ∧ Ez x S2) → zsp zs S Qz Ez →
      ∃ t, ZSs (cxOf (L2.CX P w) P w K mg base N qual scope f cdv A outer s H E) ⟨S, H⟩ body t ∧ t { nx := fun _ S' => ∃ S2, Sub S2 S' ∧ Qz (.d .none) S2, rt := fun z S' => ∃ S2, Sub S2 S' ∧ Qz z S2 } (zstart N zs) S) :
    ZFn P w K mg base (k + 1) f (PySem.W.fnOf x qual params body scope dV kV doc pm an cdv ct) ps zsp := by
  refine ⟨mono, fnG_of lk hcd S (fun vs H Q E h => ?_) fun cdv A outer s H vs Q E hG hr h => ?_⟩
  · obtain ⟨zs, S, r, _, h⟩ := h
    rw [r.length]
    exact len zs S _ _ h
  · obtain ⟨zs, S, r, rs, h⟩ := h
    have e0 : Takes (cxOf (L2.CX P w) P w K mg base N qual scope f cdv A outer s H E) (fun c d _ H' => E c d H') := takes_of rfl rfl rfl rfl
    have e1 : ∃ (Qz : ZQ) (Ez : ZX → Sto → Prop), (Qz = fun z S' => ∀ v H', Step S S' H H' → RZ K H' v z → RS0 K S' H' → Q v H') ∧ (Ez = fun x S' => ∀ c d H', Step S S' H H' → RX K H' c d x → RS0 K S' H' → E c d H') := ⟨_, _, rfl, rfl⟩
    obtain ⟨Qz, Ez, eQ, eE⟩ := e1
    obtain ⟨t, zt, q⟩ := hbody cdv A outer s H E zs S Qz Ez hG hr (e0.imp fun c d σ H' hw => by
      obtain ⟨ρ, x, S', _, rx, rS, S2, sb, hE⟩ := hw
      subst eE
      exact hE c d H' (sb.step rS.2) rx (sb.rs rS.1)) (by rw [eQ, eE]; exact h)
    refine ⟨_, zt.pss, zstart N zs, S, { nx := fun _ S' => ∃ S2, Sub S2 S' ∧ Qz (.d .none) S2, rt := fun z S' => ∃ S2, Sub S2 S' ∧ Qz z S2 }, RE.start r, ⟨rs, .refl _ _⟩, ⟨fun ρ' S' σ' H' hq st _ rS => ?_, fun z S' v H' hq st rz rS => ?_, fun _ _ _ _ hq _ _ _ => hq.elim, fun _ _ _ _ hq _ _ _ => hq.elim⟩, q⟩
    · obtain ⟨S2, sb, hq⟩ := hq
      subst eQ
      exact hq .non H' (sb.step st) (.d .non) (sb.rs rS.1)
    · obtain ⟨S2, sb, hq⟩ := hq
      subst eQ
      exact hq v H' (sb.step st) rz (sb.rs rS.1)
/-- a def without defaults -/
theorem zfn (F : Fun K x qual st f fd) (S : FnScope N ps (defScope st)) (len : ∀ zs S Q E, zsp zs S Q E → zs.length = ps.length) (mono : ∀ {zs S Q Q'} {E E' : ZX → Sto → Prop}, (∀ z S', Q z S' → Q' z S') → (∀ x S', E x S' → E' x S') → zsp zs S Q E → zsp zs S Q' E')
    (hbody : ∀ (cdv : Value) (A : Around) (outer : List PySem.Env) (s : Shared) (H : Hp) (E : XK) (zs : List Z) (S : Sto) (Qz : ZQ) (Ez : ZX → Sto → Prop), (A.deeper (envOfC qual (defScope st) s.heap.objs.size f cdv)).guards = some [] → Room k (A.deeper (envOfC qual (defScope st) s.heap.objs.size f cdv)) →
      Tk (cxOf (L2.CX P w) P w K mg base N qual (defScope st) f cdv A outer s H E) ⟨S, H⟩ (fun _ x S' => ∃ S2, Sub S2 S' ∧ Ez x S2) → zsp zs S Qz Ez →
      ∃ t, ZSs (cxOf (L2.CX P w) P w K mg base N qual (defScope st) f cdv A outer s H E) ⟨S, H⟩ (defBody st) t ∧ t { nx := fun _ S' => ∃ S2, Sub S2 S' ∧ Qz (.d .none) S2, rt := fun z S' => ∃ S2, Sub S2 S' ∧ Qz z S2 } (zstart N zs) S) :
    ZFn P w K mg base (k + 1) f fd ps zsp := by
  obtain ⟨oc, od, kV, doc, pm, an, cdv, ct, osl, rfl, lk, hcd⟩ := F.ex
  exact zfn_core lk hcd S len mono hbody
/-- a def with defaults -/
theorem zfnD {params : Arguments} {body : List Stmt} {scope : Scope} {dvs : List V} {kws : List (Str × V)} (F : FunD K x qual params body scope dvs kws f fd) (S : FnScope N ps scope) (len : ∀ zs S Q E, zsp zs S Q E → zs.length = ps.length) (mono : ∀ {zs S Q Q'} {E E' : ZX → Sto → Prop}, (∀ z S', Q z S' → Q' z S') → (∀ x S', E x S' → E' x S') → zsp zs S Q E → zsp zs S Q' E')
    (hbody : ∀ (cdv : Value) (A : Around) (outer : List PySem.Env) (s : Shared) (H : Hp) (E : XK) (zs : List Z) (S : Sto) (Qz : ZQ) (Ez : ZX → Sto → Prop), (A.deeper (envOfC qual scope s.heap.objs.size f cdv)).guards = some [] → Room k (A.deeper (envOfC qual scope s.heap.objs.size f cdv)) →
      Tk (cxOf (L2.CX P w) P w K mg base N qual scope f cdv A outer s H E) ⟨S, H⟩ (fun _ x S' => ∃ S2, Sub S2 S' ∧ Ez x S2) → zsp zs S Qz Ez →
      ∃ t, ZSs (cxOf (L2.CX P w) P w K mg base N qual scope f cdv A outer s H E) ⟨S, H⟩ body t ∧ t { nx := fun _ S' => ∃ S2, Sub S2 S' ∧ Qz (.d .none) S2, rt := fun z S' => ∃ S2, Sub S2 S' ∧ Qz z S2 } (zstart N zs) S) :
    ZFn P w K mg base (k + 1) f fd ps zsp := by
  obtain ⟨oc, od, dV, kV, doc, pm, an, cdv, ct, osl, rfl, lk, hcd, _, _⟩ := F.ex
  exact zfn_core lk hcd S len mono hbody
end

/-! ### calls -/
section
variable {X : Cx} {B : Bs} {k n : Nat} {f : Addr} {fd : FuncData} {ps ks : List Str} {zsp : ZSp} {EZ : ZXW} {x : Str} {p pos : Pos} {e : Expr} {es : List Expr} {kws : List Keyword} {t tk : ZA}
theorem run_fnG {sp : Sp} {pins : List (Addr × Obj)} {σ : L2.St} {H : Hp} {s : Shared} {Q : VK} {E : XK} {args : Args} {us : List Value} {vs : List V} (F : FnG X.prog X.w X.K X.mg X.base k f fd ps sp) (hG : X.A.guards = some []) (hr : Room k X.A) (hb : BindsTo s fd args (ps.zip us)) (hx : PassesAt (L2.CX X.prog X.w) X σ E)
    (I : Inv X pins σ H s) (r : Vals vs us) (h : sp vs H Q E) : codeAny (model X.prog X.w) X.A (.call (.ref f) args) (fun r s' => match r with | .ok (.ret u) => EP X pins σ Q u s' | .ok _ => False | .error e => X.xe e s') s := by
  refine codeAny_mono (F.run X.A X.stack s H args us vs Q E hG hr I.env0 hb r h) ?_
  intro r s' ended
  cases r with
  | error e => exact hx pins H s e s' I ended
  | ok fl =>
    cases fl with
    | ret u => exact I.after ended
    | next => exact ended.elim
    | brk => exact ended.elim
    | cont => exact ended.elim
def zCallF (zsp : ZSp) (EZ : ZXW) (t : ZA) : ZT := fun ρ S Q => t ρ S fun zs S1 => zsp zs S1 Q (EZ ρ)
/-- from the caller's wish to the promise -/
theorem low_promise {ρ : ZEnv} {σ : L2.St} {S S1 : Sto} {H H1 : Hp} {zs : List Z} {vs : List V} {Q : VK} {Qz : ZQ} (mono : ∀ {zs S Q Q'} {E E' : ZX → Sto → Prop}, (∀ z S', Q z S' → Q' z S') → (∀ x S', E x S' → E' x S') → zsp zs S Q E → zsp zs S Q' E')
    (q : ∀ z S' v H', Qz z S' → Step S S' H H' → RZ X.K H' v z → RS X.K B S' H' → Q v H') (st : Step S S1 H H1) (E1 : RE X.K H1 ρ σ) (R1 : RS X.K B S1 H1) (r : RZs X.K H1 vs zs) (w : zsp zs S1 Qz (EZ ρ)) : lowP X.K zsp vs H1 Q (WE (lowW X.K B EZ) σ) :=
  ⟨zs, S1, r, R1.1, mono (fun z S' h v H' st' rz rs => q z S' v H' h (st.trans st') rz (R1.step rs st')) (fun x S' h c d H' st' rx rs => ⟨ρ, x, S', E1.le (st'.le R1.1), rx, R1.step rs st', h⟩) w⟩
theorem ze_call (F : ZFn X.prog X.w X.K X.mg X.base k f fd ps zsp) (hG : X.A.guards = some []) (hr : Room k X.A) (hm : X.mg x = some (.ref f)) (hk : PySem.W.keepIn X.K (.ref f) = true) (hb : Binds X.K fd ps []) (hx : Tk X B EZ)
    (ha : ZAs X B (e :: es) t) (hg : Gl X x := by rfl) (hdb : (x == ("__debug__" : Str)) = false := by decide) (he : starEach (e :: es) X.env = (false, eval e X.env) :: starEach es X.env := by rfl) (hpl : (backTo pos (starEach es X.env)).any (·.1) = false := by rfl) :
    ZE X B (.Call (.Name x p) (e :: es) [] pos) (zCallF zsp EZ t) := by
  refine ⟨fun q w => ha.mono (fun zs S1 h1 => F.mono q (fun _ _ h => h) h1) w, ⟨fun pins s σ H Q I h => ?_⟩⟩
  obtain ⟨ρ, S, hE, hS, h⟩ := h
  have low := ha.go (Q := fun vs H1 => lowP X.K zsp vs H1 Q (WE (lowW X.K B EZ) σ)) hE hS h fun zs S1 vs H1 h1 st1 E1 R1 r => low_promise F.mono (fun z S' v H' hq st rz rs => hq v H' st rz rs) st1 E1 R1 r h1
  refine wpAny_Call_Name_kw (ld_glob I hg hm ?_ hdb)
  refine PySem.W.callWith_K (h₀ := X.base) I.mod.kin hk (thn (ha.pa.run pos pins s σ H _ I low) ?_) he hpl
  rintro us s1 ⟨vs, H1, I1, rv, q1⟩
  refine ⟨I1.kIn, wpAny_call (codeAny_mono (run_fnG F.fn hG hr ?_ (passAt hx σ) I1 rv q1) ?_)⟩
  · have nus : us.length = ps.length := rv.length.symm.trans (F.fn.len _ _ _ _ q1)
    have b := hb s1 us I1.kIn (by rw [List.append_nil]; exact nus)
    rw [List.append_nil] at b
    exact b
  · intro r s' ended
    cases r with
    | error e => exact ended
    | ok fl => cases fl <;> first | exact ended | exact ended.elim
/-! with keywords, with defaults -/
structure ZKw (X : Cx) (B : Bs) (kws : List Keyword) (t : ZA) : Prop where
  mono : ∀ {ρ S} {Q Q' : List Z → Sto → Prop}, (∀ z S', Q z S' → Q' z S') → t ρ S Q → t ρ S Q'
  pk : PK X kws (lowA X.K B t)
theorem PK.imp {kws : List Keyword} {t t' : TA} (h : PK X kws t) (q : ∀ σ H Q, t' σ H Q → t σ H Q) : PK X kws t' := ⟨fun pos pins s σ H Q I w => h.run pos pins s σ H Q I (q σ H Q w)⟩
theorem zk_nil : ZKw X B [] zNil := by
  refine ⟨fun q h => q _ _ h, PK.imp pk_nil ?_⟩
  rintro σ H Q ⟨ρ, S, hE, hS, h⟩
  exact h [] H (.refl _ _) .nil hS
theorem ZKw.go (h : ZKw X B kws t) {ρ : ZEnv} {S : Sto} {σ : L2.St} {H : Hp} {R : List Z → Sto → Prop} {Q : List V → Hp → Prop} (hE : RE X.K H ρ σ) (hS : RS X.K B S H) (w : t ρ S R)
    (kk : ∀ z S' v H', R z S' → Step S S' H H' → RE X.K H' ρ σ → RS X.K B S' H' → RZs X.K H' v z → Q v H') : lowA X.K B t σ H Q :=
  ⟨ρ, S, hE, hS, h.mono (fun z S' r v H' st rz rs => kk z S' v H' r st (hE.le (st.le hS.1)) rs rz) w⟩
theorem zk_cons {a : Expr} {ta : ZT} {nm : Option Str} {kpos : Pos} (ha : ZE X B a ta) (hr : ZKw X B kws t) : ZKw X B (⟨nm, a, kpos⟩ :: kws) (zCons ta t) := by
  refine ⟨fun q h => ha.mono (fun x S1 h1 => hr.mono (fun xs S2 h2 => q _ _ h2) h1) h, PK.imp (pk_cons ha.pe hr.pk) ?_⟩
  rintro σ H Q ⟨ρ, S, hE, hS, h⟩
  refine ha.go hE hS h fun x S1 v1 H1 h1 st1 E1 R1 z1 => ?_
  refine hr.go E1 R1 h1 fun xs S2 vs H2 h2 st2 E2 R2 zs => ?_
  exact h2 (v1 :: vs) H2 (st1.trans st2) (.cons (z1.le (st2.le R1.1)) zs) R2
/-- how such a call binds: the given values, then those of the keywords; gZ tells the parameters' values -/
structure ZBn (K : PySem.W.Frag) (fd : FuncData) (ps : List Str) (n : Nat) (ks : List Str) (gZ : List Z → List Z → List Z) : Prop where
  to : ∃ (g : List Value → List Value → List Value) (gV : List V → List V → List V), KBn K fd ps n ks g gV ∧ ∀ {H : Hp} {vs ws : List V} {zs ys : List Z}, RZs K H vs zs → RZs K H ws ys → RZs K H (gV vs ws) (gZ zs ys)
def zCallK (n m : Nat) (zsp : ZSp) (gZ : List Z → List Z → List Z) (EZ : ZXW) (t tk : ZA) : ZT := fun ρ S Q => t ρ S fun zs S1 => tk ρ S1 fun ys S2 => zs.length = n ∧ ys.length = m ∧ zsp (gZ zs ys) S2 Q (EZ ρ)
variable {gZ : List Z → List Z → List Z}
theorem zCallK_mono (F : ZFn X.prog X.w X.K X.mg X.base k f fd ps zsp) (ha : ZAs X B es t) (hkw : ZKw X B kws tk) {m : Nat} {ρ : ZEnv} {S : Sto} {Q Q' : ZQ} (q : ∀ z S', Q z S' → Q' z S') (w : zCallK n m zsp gZ EZ t tk ρ S Q) : zCallK n m zsp gZ EZ t tk ρ S Q' :=
  ha.mono (fun zs S1 h1 => hkw.mono (fun ys S2 h2 => ⟨h2.1, h2.2.1, F.mono q (fun _ _ h => h) h2.2.2⟩) h1) w
/-- the callee behind its arguments -/
theorem run_kw (F : ZFn X.prog X.w X.K X.mg X.base k f fd ps zsp) (hG : X.A.guards = some []) (hr : Room k X.A) (hb : ZBn X.K fd ps n ks gZ) (hx : Tk X B EZ) {pins : List (Addr × Obj)} {σ : L2.St} {ρ : ZEnv} {S S2 : Sto} {H H2 : Hp} {s : Shared} {Q : VK} {Qz : ZQ} {us ws : List Value} {vs vk : List V} {zs ys : List Z}
    (I : Inv X pins σ H2 s) (rv : Vals vs us) (rw' : Vals vk ws) (st : Step S S2 H H2) (E2 : RE X.K H2 ρ σ) (R2 : RS X.K B S2 H2) (r : RZs X.K H2 vs zs) (r' : RZs X.K H2 vk ys) (l1 : zs.length = n) (l2 : ys.length = ks.length) (h : zsp (gZ zs ys) S2 Qz (EZ ρ))
    (q : ∀ z S' v H', Qz z S' → Step S S' H H' → RZ X.K H' v z → RS X.K B S' H' → Q v H') : wpAny (model X.prog X.w) X.A (call (.ref f) us (ks.zip ws)) (EP X pins σ Q) X.xe s := by
  obtain ⟨g, gV, b, gz⟩ := hb.to
  have rr := b.rel rv rw'
  have low := low_promise (zsp := zsp) (B := B) (EZ := EZ) (Q := Q) F.mono q st E2 R2 (gz r r') h
  refine wpAny_call (codeAny_mono (run_fnG F.fn hG hr (b.to s us ws I.kIn (by rw [← rv.length, r.length]; exact l1) (by rw [← rw'.length, r'.length]; exact l2)) (passAt hx σ) I rr low) ?_)
  intro r s' ended
  cases r with
  | error e => exact ended
  | ok fl => cases fl <;> first | exact ended | exact ended.elim
theorem ze_callK (F : ZFn X.prog X.w X.K X.mg X.base k f fd ps zsp) (hG : X.A.guards = some []) (hr : Room k X.A) (hm : X.mg x = some (.ref f)) (hk : PySem.W.keepIn X.K (.ref f) = true) (hb : ZBn X.K fd ps n ks gZ) (hx : Tk X B EZ)
    (ha : ZAs X B (e :: es) t) (hkw : ZKw X B kws tk) (hg : Gl X x := by rfl) (hall : (backToKw pos (keywordEach kws X.env)).all (·.1.isSome) = true := by rfl) (hks : (backToKw pos (keywordEach kws X.env)).filterMap (·.1) = ks := by rfl)
    (hdb : (x == ("__debug__" : Str)) = false := by decide) (he : starEach (e :: es) X.env = (false, eval e X.env) :: starEach es X.env := by rfl)
    (hpl : ((backTo pos (starEach (e :: es) X.env)).any (·.1) || (backToKw pos (keywordEach kws X.env)).any (·.1.isNone)) = false := by rfl) :
    ZE X B (.Call (.Name x p) (e :: es) kws pos) (zCallK n ks.length zsp gZ EZ t tk) := by
  refine ⟨fun q w => zCallK_mono F ha hkw q w, ⟨fun pins s σ H Q I h => ?_⟩⟩
  obtain ⟨ρ, S, hE, hS, h⟩ := h
  refine wpAny_Call_Name_kw (ld_glob I hg hm ?_ hdb)
  have low := ha.go (Q := fun vs H1 => lowA X.K B tk σ H1 fun vk H2 => ∀ (s2 : Shared) (us ws : List Value), Inv X pins σ H2 s2 → Vals vs us → Vals vk ws → wpAny (model X.prog X.w) X.A (call (.ref f) us (ks.zip ws)) (EP X pins σ Q) X.xe s2) hE hS h
    fun zs S1 vs H1 h1 st1 E1 R1 r => hkw.go E1 R1 h1 fun ys S2 vk H2 h2 st2 E2 R2 r' s2 us ws I2 rv rw' =>
      run_kw F hG hr hb hx I2 rv rw' (st1.trans st2) E2 R2 (r.le (st2.le R1.1)) r' h2.1 h2.2.1 h2.2.2 fun z S' v H' hq st rz rs => hq v H' st rz rs
  refine PySem.W.callWith_KW (h₀ := X.base) I.mod.kin hk hall (thn (ha.pa.run pos pins s σ H _ I low) ?_) hpl he
  rintro us s1 ⟨vs, H1, I1, rv, q1⟩
  refine thn (hkw.pk.run pos pins s1 σ H1 _ I1 q1) ?_
  rintro ws s2 ⟨vk, H2, I2, rw', q2⟩
  refine ⟨I2.kIn, ?_⟩
  rw [hks]
  exact q2 s2 us ws I2 rv rw'
theorem ze_callK0 (F : ZFn X.prog X.w X.K X.mg X.base k f fd ps zsp) (hG : X.A.guards = some []) (hr : Room k X.A) (hm : X.mg x = some (.ref f)) (hk : PySem.W.keepIn X.K (.ref f) = true) (hb : ZBn X.K fd ps 0 ks gZ) (hx : Tk X B EZ)
    (hkw : ZKw X B kws tk) (hg : Gl X x := by rfl) (hall : (backToKw pos (keywordEach kws X.env)).all (·.1.isSome) = true := by rfl) (hks : (backToKw pos (keywordEach kws X.env)).filterMap (·.1) = ks := by rfl)
    (hdb : (x == ("__debug__" : Str)) = false := by decide) (hpl : ((backTo pos (starEach [] X.env)).any (·.1) || (backToKw pos (keywordEach kws X.env)).any (·.1.isNone)) = false := by rfl) :
    ZE X B (.Call (.Name x p) [] kws pos) (zCallK 0 ks.length zsp gZ EZ zNil tk) := by
  refine ⟨fun q w => zCallK_mono F za_nil hkw q w, ⟨fun pins s σ H Q I h => ?_⟩⟩
  obtain ⟨ρ, S, hE, hS, h⟩ := h
  refine wpAny_Call_Name_kw (ld_glob I hg hm ?_ hdb)
  have low : lowA X.K B tk σ H fun vk H2 => ∀ (s2 : Shared) (ws : List Value), Inv X pins σ H2 s2 → Vals vk ws → wpAny (model X.prog X.w) X.A (call (.ref f) [] (ks.zip ws)) (EP X pins σ Q) X.xe s2 :=
    hkw.go hE hS h fun ys S2 vk H2 h2 st2 E2 R2 r' s2 ws I2 rw' => run_kw F hG hr hb hx I2 .nil rw' st2 E2 R2 .nil r' h2.1 h2.2.1 h2.2.2 fun z S' v H' hq st rz rs => hq v H' st rz rs
  refine PySem.W.callWith_KW0 (h₀ := X.base) I.mod.kin hk hall (thn (hkw.pk.run pos pins s σ H _ I low) ?_) hpl
  rintro ws s2 ⟨vk, H2, I2, rw', q2⟩
  refine ⟨I2.kIn, ?_⟩
  rw [hks]
  exact q2 s2 ws I2 rw'
/-- raise X('m') -/
def zRaise (EZ : ZXW) (C : Addr) : ZTS := fun _ ρ S => EZ ρ ⟨C, []⟩ S
theorem zs_raise {C : Addr} {bmB : List Value} {Bn newId initId : String} {m : Str} {j : Nat} {p2 pos' : Pos} (hx : Tk X B EZ) (Fx : ExcBaseFacts Bn newId initId bmB) (q : PySem.W.excIn X.K C bmB newId = true) (gC : X.mg x = some (.ref C)) (kC : PySem.W.keepIn X.K (.ref C) = true) (r : Raises X (.ref C)) (hc : X.calm = true := by rfl) (hg : Gl X x := by rfl)
    (hdb : (x == ("__debug__" : Str)) = false := by decide) : ZS X B (.Raise (some (.Call (.Name x p) [.Constant (.str m) j p2] [] pos)) none pos') (zRaise EZ C) := ⟨PS.imp (ps_raise hc hx (pmk_own Fx q gC kC r hg hdb)) (by
  rintro E σ H ⟨ρ, S, D, hE, hS, l, w⟩
  exact ⟨ρ, _, S, hE, .plain C, hS, w⟩)⟩
end

/-! ### the law -/
/-- the script as it comes -/
theorem script_rz {K : PySem.W.Frag} {H : Hp} {a : Addr} {ns : List Int} (hO : Only H) (h : SqL K H a (ns.map V.int)) : RZ K H (.ref a) (.k (ns.map PyData.int)) := by
  refine .k ?_ (FzAll.ofInts ns)
  rcases h with (h | ⟨o, h⟩) | h
  · rcases hO a with q | ⟨o, xs, q⟩
    · rw [q] at h; cases h
    · rw [q] at h; cases h
  · exact .inl ⟨o, h⟩
  · exact .inr h
/-- from a tracked heap in which the script alone may stand -/
theorem law_from {P : Program} {w : World} {K : PySem.W.Frag} {mg mb : Str → Option Value} {k : Nat} {fa a : Addr} {fd : FuncData} {x : Str} {zsp : ZSp} {s₁ : Shared} {vs : List Value} {ns : List Int} {H : Hp}
    (KX : K.In s₁.heap) (gl : s₁.heap.Ns mainGlobals mg) (bl : s₁.heap.Ns builtinsNs mb) (blt : ∀ x : Str, x ≠ "__name__" → mb x = bootBuiltins x) (lim : s₁.heap.NoLimit) (nog : s₁.gens = #[])
    (ha : s₁.heap.get? a = some { cls := .type "list", data := .seq vs.toArray }) (room : Room k callerA)
    (F : ∀ base : Heap, K.In base → base.Ns mainGlobals mg → ZFn P w K mg base k fa fd [x] zsp) (bind : ∀ (s : Shared) (u : Value), BindsTo s fd ⟨[u], []⟩ [(x, u)])
    (due : zsp [.k (ns.map PyData.int)] (fun _ => none) (fun z _ => z = zb true) fun _ _ => False)
    (only : Only H) (sq : SqL K H a (ns.map V.int)) (ok : HOk P w H s₁.heap) (atA : ∀ b, H b ≠ none → b = a) (noK : H a ≠ none → K.lookup a = none) :
    codeAny (model P w) callerA (.call (.ref fa) ⟨[.ref a], []⟩) (fun r s' => r = .ok (.ret (.bool true)) ∧ OldK s₁.heap s'.heap ∧ s'.os = s₁.os ∧ AllBare s'.gens) s₁ := by
  -- a dict is no script
  have dictFree : ∀ {b : Addr} {o : Obj} {es : Array DictEntry} {ep : Nat}, s₁.heap.get? b = some o → o.data = .dict es ep → H b = none := by
    intro b o es ep e d
    cases q : H b with
    | none => rfl
    | some u =>
      obtain rfl := atA b (by rw [q]; exact fun z => nomatch z)
      rw [ha] at e
      cases e
      exact nomatch d
  have keepNs : ∀ {b : Addr} {m : Str → Option Value}, s₁.heap.Ns b m → (hidT s₁.heap H).Ns b m := by
    rintro b m ⟨o, es, ep, e, d, r⟩
    exact ⟨o, es, ep, hidT_get e (dictFree e d), d, r⟩
  have inBase : K.In (hidT s₁.heap H) := by
    intro b o e
    refine hidT_get (KX b o e) ?_
    cases q : H b with
    | none => rfl
    | some u =>
      obtain rfl := atA b (by rw [q]; exact fun z => nomatch z)
      rw [noK (by rw [q]; exact fun z => nomatch z)] at e
      cases e
  have ground : Env0 P w K mg (hidT s₁.heap H) callerA [] s₁ H := by
    refine ⟨rfl, ⟨inBase, keepNs gl, ⟨mb, keepNs bl, blt⟩, ?_⟩, fun b o e => of_hidT e, Nat.le_of_eq (hidT_size _ _), trivial, fun b hb => absurd (show b ∈ ([] : List Addr) from hb) (by simp), ok, AllBare.of_eq nog⟩
    obtain ⟨mc, h1, h2⟩ := lim
    exact ⟨mc, keepNs h1, h2⟩
  have Fb := F _ inBase (keepNs gl)
  refine codeAny_mono (Fb.fn.run callerA [] s₁ H ⟨[.ref a], []⟩ [.ref a] [.ref a] (fun v _ => v = .bl true) (fun _ _ _ => False) rfl room ground (bind s₁ (.ref a)) (.cons rfl .nil) ?_) ?_
  · refine ⟨_, fun _ => none, .cons (script_rz only sq) .nil, (fun _ _ e => nomatch e), Fb.mono (fun z S' ez v H' _ rz _ => ?_) (fun _ _ h => h.elim) due⟩
    subst ez
    cases rz with | d rz => cases rz; rfl
  · intro r s' ended
    cases r with
    | error e =>
      obtain ⟨_, _, _, _, _, _, _, _, _, _, _, _, z⟩ := ended
      exact z.elim
    | ok fl =>
      cases fl with
      | next => exact ended.elim
      | brk => exact ended.elim
      | cont => exact ended.elim
      | ret u =>
        obtain ⟨v, H', os, bare, un, ok', rv, q⟩ := ended
        obtain rfl : v = .bl true := q
        obtain rfl : u = Value.bool true := rv
        refine ⟨rfl, OldK.of_keep ?_, os, bare⟩
        intro b o e
        cases q : H b with
        | none => exact un.keep b o e q (fun z => nomatch z) (fun z => nomatch z)
        | some u =>
          rcases only b with z | ⟨ob, xs, z⟩
          · rw [q] at z; cases z
          · have after := (ok' b _ (un.frzs b ob _ z)).1
            have before := (ok b _ z).1
            rw [e] at before
            cases before
            exact after
/-- the goal that the head leaves -/
theorem zwalk {l : PySem.W.OpenLaw} {n k : Nat} {q : Program} {loose : List Str} {XP : (Str → Option Value) → Heap → Prop} {YP : World → Heap → Prop} {d : DefRec} {K : Params → PySem.W.Frag} {zsp : ZSp} {x : Str}
    (hn : l.most = some n) (hn2 : n ≤ sizeLine) (hdf : d.params.defaults = []) (room : Room k callerA) (inK : ∀ (w : World) (h : Heap), YP w h → (K w.params).In h)
    (F : ∀ (w : World) (mg : Str → Option Value) (fa : Addr) (h : Heap), (K w.params).In h → h.Ns mainGlobals mg → mg d.name = some (.ref fa) →
      ∃ fd : FuncData, (∀ (s : Shared) (u : Value), BindsTo s fd ⟨[u], []⟩ [(x, u)]) ∧ ∀ base : Heap, (K w.params).In base → base.Ns mainGlobals mg → ZFn l.prog w (K w.params) mg base k fa fd [x] zsp)
    (due : ∀ ns : List Int, ns.length ≤ n → zsp [.k (ns.map PyData.int)] (fun _ => none) (fun z _ => z = zb true) fun _ _ => False) :
    PySem.W.WalkO q loose XP YP l.row.toRowW d [] (fun f vs => PySem.call f vs) := by
  refine Att.attach_call hn hdf ?_
  intro w s₀ s₁ mg mb fa o pm cd doc a vs ns G Y ho hd hcd hmg hobj hints hlen hg
  have KX := inK w _ Y
  obtain ⟨fd, bind, FF⟩ := F w mg fa _ KX G.T.g hmg
  have small : ns.length ≤ sizeLine := Nat.le_trans hlen hn2
  have rv := vals_ints hints
  cases hk : (K w.params).lookup a with
  | some u =>
    have e := KX a u hk
    rw [hobj] at e
    cases e
    exact law_from (H := fun _ => none) KX G.T.g G.T.b G.T.builtins G.T.nolimit hg hobj room FF bind (due ns hlen) (fun _ => .inl rfl) (.inr ⟨_, vs.toArray, _, hk, rfl, rfl, rfl, by rw [List.size_toArray, hints.length]; exact small, by simpa using rv⟩) (fun _ _ z => nomatch z) (fun _ z => absurd rfl z) (fun z => absurd rfl z)
  | none =>
    have here : ∀ {b : Addr}, (fun c => if c = a then some (HO.frz { cls := .type "list", data := .seq vs.toArray } (.lst (ns.map V.int))) else none : Hp) b ≠ none → b = a := by
      intro b z
      by_cases e : b = a
      · exact e
      · exact absurd (if_neg e) z
    refine law_from (H := fun c => if c = a then some (HO.frz { cls := .type "list", data := .seq vs.toArray } (.lst (ns.map V.int))) else none) KX G.T.g G.T.b G.T.builtins G.T.nolimit hg hobj room FF bind (due ns hlen) ?_ (.inl (.inr ⟨_, if_pos rfl⟩)) ?_ (fun b z => here z) (fun _ => hk)
    · intro b
      by_cases e : b = a
      · exact .inr ⟨_, _, if_pos e⟩
      · exact .inl (if_neg e)
    · intro b u z
      have e : b = a := here (by rw [z]; exact fun y => nomatch y)
      subst e
      have z2 := (if_pos rfl).symm.trans z
      cases z2
      exact ⟨hobj, by rw [List.length_map]; exact small, vs, _, rv, hobj⟩
end ZL

namespace ZL
open PySem PySem.Spec PyProof.Rows L2 HT
/-! ### t[::-1] -/
section
variable {prog : Program} {w : World} {A : Around} {E : Value → Shared → Prop} {s : Shared}
theorem back_applied {sl : Addr} {u : Tok} {n : Nat} {Q : Int × Int × Nat → Shared → Prop} (hs : s.heap.IsSliceOf sl .none .none (.int (-1) u)) (h : Q ((n : Int) - 1, -1, n) s) : wpAny (model prog w) A (Builtin.Slice.sliceApplied (.ref sl) (pure (n : Int))) Q E s := by
  obtain ⟨os, there, cls, dat⟩ := id hs
  unfold Builtin.Slice.sliceApplied Builtin.Slice.sliceFields
  refine wpAny_bind ?_
  refine wpAny_bind (wpAny_field there dat (x := .none) rfl ?_)
  refine wpAny_bind (wpAny_field there dat (x := .none) rfl ?_)
  refine wpAny_bind (wpAny_field there dat (x := .int (-1) u) rfl (wpAny_pure ?_))
  refine wpAny_bind (slicePart_int ?_)
  show wpAny _ _ (if ((-1 : Int) == 0) = true then _ else _) _ _ s
  rw [if_neg (by decide)]
  refine wpAny_bind (slicePart_none ?_)
  refine wpAny_bind (slicePart_none ?_)
  refine wpAny_bind (wpAny_pure ?_)
  have e : Builtin.Slice.sliceAdjust none none (-1) (n : Int) = ((n : Int) - 1, -1) := by
    unfold Builtin.Slice.sliceAdjust
    simp
  have e2 : Builtin.Slice.slicePlaces ((n : Int) - 1) (-1) (-1) = n := by
    unfold Builtin.Slice.slicePlaces
    first
      | (simp; omega)
      | (split <;> omega)
      | (simp only []; split <;> simp <;> omega)
  show wpAny _ _ (match Builtin.Slice.sliceAdjust none none (-1) (n : Int) with | (lo, hi) => pure (lo, (-1 : Int), Builtin.Slice.slicePlaces lo hi (-1))) _ _ s
  rw [e]
  show wpAny _ _ (pure ((n : Int) - 1, (-1 : Int), Builtin.Slice.slicePlaces ((n : Int) - 1) (-1) (-1))) _ _ s
  rw [e2]
  exact wpAny_pure h
theorem fm_congr {α β : Type} {f g : α → Option β} : ∀ {l : List α}, (∀ m ∈ l, f m = g m) → l.filterMap f = l.filterMap g
  | [], _ => rfl
  | a :: r, h => by rw [List.filterMap_cons, List.filterMap_cons, h a (by simp), fm_congr fun m hm => h m (by simp [hm])]
theorem back_pick (xs : Array Value) : ((List.range xs.size).filterMap fun (m : Nat) => xs[((xs.size : Int) - 1 + (m : Int) * (-1)).toNat]?).toArray = xs.toList.reverse.toArray := by
  have e : (List.range xs.size).filterMap (fun (m : Nat) => xs[((xs.size : Int) - 1 + (m : Int) * (-1)).toNat]?) = (List.range xs.size).filterMap ((fun k => xs[k]?) ∘ fun k => xs.size - 1 - k) := by
    refine fm_congr fun m hm => ?_
    have := List.mem_range.mp hm
    show xs[((xs.size : Int) - 1 + (m : Int) * (-1)).toNat]? = xs[xs.size - 1 - m]?
    rw [show ((xs.size : Int) - 1 + (m : Int) * (-1)).toNat = xs.size - 1 - m by omega]
  rw [e, ← List.filterMap_map, PySem.W.krv_range, List.filterMap_reverse, PySem.W.krv_all]
theorem back_item {t sl : Addr} {items : Array Value} {u : Tok} {Q : Value → Shared → Prop} (ht : IsTup s.heap t items) (hs : s.heap.IsSliceOf sl .none .none (.int (-1) u))
    (h : Q (.ref s.heap.objs.size) { s with heap := s.heap.push { cls := .type "tuple", data := .seq items.toList.reverse.toArray } }) (hsz : items.size ≤ sizeLine) : wpAny (model prog w) A (getItem (.ref t) (.ref sl)) Q E s := by
  have fits : sizeOk (.seq items.toList.reverse.toArray) := by
    show items.toList.reverse.toArray.size ≤ sizeLine
    simpa using hsz
  obtain ⟨os, there, cls, dat⟩ := id hs
  have isSl : s.TypeIs (.ref sl) "slice" := ⟨os, there, cls⟩
  unfold getItem
  try with_reducible refine wpAny_holding ?_
  try refine wpAny_bind (wpAny_pure ?_)
  refine wpAny_bind ?_
  refine wpAny_sequenceKey ht.typeIs (by decide) ?_
  refine wpAny_bind ?_
  refine wpAny_callSpecial?_slot (name := Str.ofString "__getitem__") ht.typeIs PyProof.Rows.slot_tuple_getitem ?_
  refine wpAny_call_entry PyProof.Rows.slot_tuple_getitem ht.typeIs entry_tuple_getitem ?_ (args_tuple_getitem _ _)
  show wpAny _ _ (Builtin.Tuple.tupleItemsOf (.ref t) >>= fun _ => _) _ _ s
  refine wpAny_bind (tupleItemsOf_ ht ?_)
  refine wpAny_bind ?_
  refine wpAny_typeOf isSl ?_
  rw [if_pos (by decide)]
  refine wpAny_bind (back_applied hs ?_)
  have other : ¬ (((items.size : Int) - 1 == 0 && (-1 : Int) == 1 && items.size == items.size) = true) := by simp
  show wpAny _ _ (if ((items.size : Int) - 1 == 0 && (-1 : Int) == 1 && items.size == items.size) = true then _ else _) _ _ s
  rw [if_neg other, back_pick]
  first
    | refine wpAny_bind (wpAny_bind (m := Builtin.Tuple.tupleExact _) (wpAny_newObj_type ?_ fits)); exact wpAny_pure (wpAny_pure ⟨_, rfl, wpAny_pure h⟩)
    | refine wpAny_bind (wpAny_bind (m := Builtin.Tuple.tupleExact _) (wpAny_newObj_type ?_ fits)); exact wpAny_pure ⟨_, rfl, wpAny_pure h⟩
    | refine wpAny_bind (m := Builtin.Tuple.tupleExact _) (wpAny_newObj_type ?_ fits); exact wpAny_bind (wpAny_pure (wpAny_pure ⟨_, rfl, wpAny_pure h⟩))
    | refine wpAny_bind (m := Builtin.Tuple.tupleExact _) (wpAny_newObj_type ?_ fits); exact wpAny_pure ⟨_, rfl, wpAny_pure h⟩
end
section
variable {X : Cx} {B : Bs}
/-- e[::-1] of a tuple -/
theorem pe_back {e : Expr} {te : TE} {k : Nat} {p1 p2 p3 pos : Pos} (he : PE X e te) : PE X (.Subscript e (.Slice none none (some (.UnaryOp .USub (.Constant (.int 1) k p1) p2)) p3) pos) (fun σ H Q => te σ H fun x H1 => ∃ a xs, x = .ref a ∧ SqT X.K H1 a xs ∧ ∀ p, H1 p = none → Q (.ref p) (upd H1 p (.tup xs.reverse))) := by
  refine ⟨fun pins s σ H Q I h => ?_⟩
  refine Subscript_ (thn (he.run pins s σ H _ I h) ?_)
  rintro v s1 ⟨x, H1, I1, r1, a, xs, rfl, hq, q⟩
  cases r1
  refine wpAny_Slice ?_
  rw [evalPart_none]
  refine wpAny_pure ?_
  refine wpAny_pure ?_
  have part : PE X (.UnaryOp .USub (.Constant (.int 1) k p1) p2) _ := pe_un un_neg pe_int
  refine thn ((po_some part).run pins s1 σ H1 (fun o H2 => o = some (-1) ∧ H2 = H1) I1 ⟨1, rfl, -1, rfl, rfl, rfl⟩) ?_
  rintro vu s2 ⟨o, H2, I2, pu, rfl, rfl⟩
  cases pu with
  | int i u =>
    have I3 : L2.Inv X pins σ H2 { s2 with heap := s2.heap.push { cls := .type "slice", data := .fields #[.none, .none, .int (-1) u] } } := I2.kept (t' := s2.toks) fun b ob q => Heap.get?_push_of_some _ q
    obtain ⟨its, rv, ht, hz⟩ := I3.tuple hq
    show wpAny (model X.prog X.w) X.A (subscriptTail e (.Slice none none (some (.UnaryOp .USub (.Constant (.int 1) k p1) p2)) p3) (.ref a) (.ref s2.heap.objs.size)) (EP X pins σ Q) X.xe { s2 with heap := s2.heap.push { cls := .type "slice", data := .fields #[.none, .none, .int (-1) u] } }
    refine PyProof.Rows.tail_any (ops := [.ref a, .ref s2.heap.objs.size]) ht.typeIs PyProof.Rows.slot_tuple_getitem.lookup (back_item ht (Heap.IsSliceOf.new ..) ?_ (by rw [List.size_toArray, ← rv.length]; exact hz)) (by with_unfolding_all rfl)
    refine ⟨.ref _, _, I3.laid (t' := s2.toks) (o := .tup xs.reverse) (fun b ob q => Heap.get?_push_of_some _ q) (Nat.le_refl _) ?_, rfl, q _ (I3.hok.fresh (Nat.le_refl _))⟩
    exact ⟨by rw [List.length_reverse]; exact hz, its.reverse, rv.reverse, ⟨_, Heap.get?_push_size _ rfl, rfl, 0, rfl⟩⟩
theorem FzAll.reverse {K : PySem.W.Frag} {H : Hp} : ∀ {ds : List PyData} {vs : List V}, FzAll K H vs ds → FzAll K H vs.reverse ds.reverse
  | _, _, .nil => .nil
  | _, _, .cons h t => by rw [List.reverse_cons, List.reverse_cons]; exact (FzAll.reverse t).append (.one h)
def zBack (te : ZT) : ZT := fun ρ S Q => te ρ S fun z S1 => match z with
  | .d (.tuple xs) => Q (zt xs.reverse) S1
  | _ => False
theorem ze_back {e : Expr} {te : ZT} {k : Nat} {p1 p2 p3 pos : Pos} (he : ZE X B e te) : ZE X B (.Subscript e (.Slice none none (some (.UnaryOp .USub (.Constant (.int 1) k p1) p2)) p3) pos) (zBack te) := by
  refine ⟨fun {ρ S Q Q'} q w => he.mono (fun z S1 h1 => ?_) w, PE.imp (pe_back he.pe) ?_⟩
  · split at h1
    · exact q _ _ h1
    · exact h1.elim
  · rintro σ H Q ⟨ρ, S, hE, hS, w⟩
    refine he.go hE hS w fun z S1 v H1 h1 st E1 R1 rz => ?_
    split at h1
    · cases rz with
      | d rz =>
        cases rz with
        | @tup a xs _ sq f =>
          refine ⟨a, xs, rfl, sq, fun p hp => ?_⟩
          have sm : Same H1 (upd H1 p (.tup xs.reverse)) := same_fresh hp
          exact h1 _ _ (st.trans (step_same sm)) (.d (.tup (SqT.of upd_same) (f.reverse.le (.same sm)))) (R1.step (R1.1.same sm) (step_same sm))
    · exact h1.elim
/-! ### + of all kinds -/
def rZPlus : ZR2 := fun x y S Q => match x, y with
  | .d (.int i), .d (.int j) => Q (zi (i + j)) S
  | .d (.str i), .d (.str j) => i.length + j.length ≤ sizeLine ∧ Q (zs (i ++ j)) S
  | .d (.tuple a), .d (.tuple b) => a.length + b.length ≤ sizeLine ∧ Q (zt (a ++ b)) S
  | x, y => rZCat x y S Q
theorem zplus : ZOp X (binaryOp .Add) rZPlus := by
  constructor
  · intro x y S Q Q' q w
    unfold rZPlus at *
    split at w
    · exact q _ _ w
    · exact ⟨w.1, q _ _ w.2⟩
    · exact ⟨w.1, q _ _ w.2⟩
    · exact zcat.mono (X := X) q w
  · rintro B pins s σ H x y v u Q I rx ry ⟨z1, z2, S, h1, h2, hS, w⟩
    unfold rZPlus at w
    split at w
    · exact zadd.op B pins s σ H x y v u Q I rx ry ⟨_, _, S, h1, h2, hS, w⟩
    · exact zadd.op B pins s σ H x y v u Q I rx ry ⟨_, _, S, h1, h2, hS, w⟩
    · exact zadd.op B pins s σ H x y v u Q I rx ry ⟨_, _, S, h1, h2, hS, w⟩
    · exact zcat.op B pins s σ H x y v u Q I rx ry ⟨_, _, S, h1, h2, hS, w⟩
end
end ZL

namespace ZL
open PySem PySem.Spec PyProof.Rows L2
section
variable {X : Cx} {B : Bs} {pos : Pos}
def zNever : ZTS := fun _ _ _ => False
theorem zs_never {st : Stmt} : ZS X B st zNever := ⟨PS.imp ps_never (by
  rintro E σ H ⟨ρ, S, D, hE, hS, l, w⟩
  exact w)⟩
/-! ### name = [..] -/
variable {tg iter elt : Expr} {ifs : List Expr} {scope : Scope} {own : List (Str × Nat)} {o : List Nat} {ti : ZTI} {g : ZG} {tt : ZB} {te : ZT}
theorem ps_restN {st : Stmt} {y : Str} {py : Pos} {i : Nat} {t : TE} (h : PS X st (tAsg t (gName i))) : PS X st (tAsg t (gName i)) := h
/-- the block below, told in general -/
theorem blk_mono (hg : Blk X scope fun X => ZGt X B tg o g) (ht : Blk X scope fun X => ZTs X B ifs tt) (he : Blk X scope fun X => ZE X B elt te) :
    (∀ {z ρ S} {Q Q' : ZEnv → Sto → Prop}, (∀ ρ' S', Q ρ' S' → Q' ρ' S') → g z ρ S Q → g z ρ S Q') ∧ (∀ {ρ S} {Q Q' : Bool → Sto → Prop}, (∀ z S', Q z S' → Q' z S') → tt ρ S Q → tt ρ S Q') ∧ (∀ {ρ S} {Q Q' : ZQ}, (∀ z S', Q z S' → Q' z S') → te ρ S Q → te ρ S Q') :=
  ⟨(hg X.s_0 X.H_0 0 [] []).mono, (ht X.s_0 X.H_0 0 [] []).mono, (he X.s_0 X.H_0 0 [] []).mono⟩
/-- a comprehension's list, to be changed -/
structure LcRM (g : ZG) (tt : ZB) (te : ZT) (vs : List Nat) (ρ : ZEnv) (Q : ZQ) (xs : List PyData) (l : List (Addr × List PyData)) (S1 : Sto) : Prop where
  ex : ∃ I : Nat → List PyData → Sto → Prop, I 0 [] S1 ∧ (∀ i acc S', i ≤ xs.length → I i acc S' → Need S' l) ∧
    (∀ (i : Nat) (x : PyData) acc S', xs[i]? = some x → I i acc S' → g (.d x) (zwipe ρ vs) S' fun ρ2 S2 => tt ρ2 S2 fun b S3 =>
      zBr b (te ρ2 S3 fun y S4 => match y with
        | .d d => acc.length < sizeLine ∧ I (i + 1) (acc ++ [d]) S4
        | _ => False) (I (i + 1) acc S3)) ∧ ∀ acc S', I xs.length acc S' → ∀ p, S' p = none → Q (.r p) (S'.put p (.lst acc))
def zLcM (ti : ZTI) (g : ZG) (tt : ZB) (te : ZT) (vs : List Nat) : ZT := fun ρ S Q => ti ρ S fun xs l S1 => LcRM g tt te vs ρ Q xs l S1
theorem low_lcM {own : List Nat} {vs : List Nat} {K : PySem.W.Frag} (hK : K = X.K) (hi : ZI X B tg iter ti)
    (gm : ∀ {z ρ S} {Q Q' : ZEnv → Sto → Prop}, (∀ ρ' S', Q ρ' S' → Q' ρ' S') → g z ρ S Q → g z ρ S Q')
    (tm : ∀ {ρ S} {Q Q' : Bool → Sto → Prop}, (∀ z S', Q z S' → Q' z S') → tt ρ S Q → tt ρ S Q')
    (em : ∀ {ρ S} {Q Q' : ZQ}, (∀ z S', Q z S' → Q' z S') → te ρ S Q → te ρ S Q') (hv : ∀ i ∈ own, i ∈ vs) :
    ∀ σ H Q, low K B (zLcM ti g tt te vs) σ H Q → tLc (lowI K B ti) (lowG K B own g) (lowB K B tt) (low K B te) vs σ H Q := by
  subst hK
  rintro σ H Q ⟨ρ, S, hE, hS, w⟩
  refine ⟨ρ, S, hE, hS, hi.mono (fun xs nd S1 h1 J H1 st1 R1 ok L nL => ?_) w⟩
  obtain ⟨⟨I, i0, iN, turn, fin⟩⟩ := h1
  obtain ⟨G, W, hG⟩ := ok
  have E1 := hE.le (st1.le hS.1)
  have sm0 : ∀ o, Same H1 (upd H1 L o) := fun o => same_fresh nL
  refine lc_it W (fun i H' => ∃ acc us S', RE X.K H' ρ σ ∧ RS X.K B S' H' ∧ Step S1 S' H1 H' ∧ S' L = none ∧ H' L = some (.lst us) ∧ FzAll X.K H' us acc ∧ I i acc S') ⟨[], [], S1, E1.le (.same (sm0 _)), R1.step (R1.1.same (sm0 _)) (step_same (sm0 _)), step_same (sm0 _), R1.1.fresh nL, upd_same, .nil, i0⟩ ?_ ?_ ?_
  · rintro i H' hi' ⟨acc, us, S', E', R', st', nS, hL, f, h'⟩
    exact hG H' S' (st'.le R1.1) R'.1 (iN i acc S' hi' h')
  · rintro i x H' H2 hlt ⟨acc, us, S', E', R', st', nS, hL, f, h'⟩ ⟨d, ed, sm, fd⟩
    have st2 := step_same (S := S') sm
    have R2 := R'.step (R'.1.same sm) st2
    have E2 := (E'.le (.same sm)).wipe vs
    refine ⟨.d d, zwipe ρ vs, S', .d fd, E2, R2, gm (fun ρ3 S3 h3 σ3 H3 st3 E3 R3 ow => ?_) (turn i d acc S' ed h')⟩
    refine ⟨(ow vs hv).trans wipe_wipe, ρ3, S3, E3, R3, tm (fun b S4 h4 H4 st4 R4 => ?_) h3⟩
    have E0 : ∀ {H5 : Hp}, Le H' H5 → RE X.K H5 ρ σ := fun le => E'.le le
    obtain ⟨hL2, nS2⟩ := ((st2.trans st3).trans st4) L _ hL nS
    have le4 := ((st2.trans st3).trans st4).le R'.1
    cases b with
    | true =>
      refine iteT ⟨ρ3, S4, E3.le (st4.le R3.1), R4, em (fun y S5 h5 v5 H5 st5 rz5 R5 => ?_) h4⟩
      split at h5
      · rename_i d5
        cases rz5 with
        | d rz5 =>
          obtain ⟨hL3, nS3⟩ := st5 L _ hL2 nS2
          have le5 := le4.trans (st5.le R4.1)
          have f5 := f.le le5
          have ls : Le H5 (upd H5 L (.lst (us ++ [v5]))) := le_set hL3
          have stA := (((st'.trans st2).trans st3).trans st4).trans st5
          exact ⟨us, hL3, by rw [f.length]; exact h5.1, acc ++ [d5], us ++ [v5], S5, E0 (le5.trans ls), R5.poke nS3 hL3 (R1.out nL), stA.poke (fun _ e => by rw [nL] at e; cases e), nS3, upd_same, (f5.append (.one rz5)).le ls, h5.2⟩
      · exact h5.elim
    | false => exact iteF ⟨acc, us, S4, E0 le4, R4, st'.trans ((st2.trans st3).trans st4), nS2, hL2, f.le le4, h4⟩
  · rintro H' ⟨acc, us, S', E', R', st', nS, hL, f, h'⟩
    -- the list comes among the cells
    have R3 : RS X.K B (S'.put L (.lst acc)) H' := by
      refine ⟨fun a c e => ?_, fun b u e n => ?_⟩
      · by_cases q : a = L
        · subst q; rw [put_same] at e; cases e; exact ⟨us, hL, f⟩
        · rw [put_ne q] at e; exact R'.1 a c e
      · have ne : b ≠ L := fun z => by subst z; exact R1.out nL u e n
        exact ⟨(R'.2 b u e n).1, by rw [put_ne ne]; exact (R'.2 b u e n).2⟩
    refine fin acc S' h' L nS (.ref L) H' (fun b u e n => ?_) (.r L) R3
    have ne : b ≠ L := fun z => by
      subst z
      have := (st1 b u e n).1
      rw [nL] at this
      cases this
    have := st1.trans st' b u e n
    exact ⟨this.1, by rw [put_ne ne]; exact this.2⟩
theorem ze_lcM (hN : X.N.Nodup) (hi : ZI X B tg iter ti) (ok : BlkOk X.N X.env.scope scope own) (hg : Blk X scope fun X => ZGt X B tg o g) (ht : Blk X scope fun X => ZTs X B ifs tt) (he : Blk X scope fun X => ZE X B elt te)
    (hc : X.calm = true := by rfl) (hv : ∀ i ∈ o, i ∈ own.map (·.2) := by decide) (hs : ∀ x, foldedSetIterable iter X.env x = pure x := by intro _; rfl) : ZE X B (.ListComp elt [⟨tg, iter, ifs, 0⟩] scope pos) (zLcM ti g tt te (own.map (·.2))) := by
  obtain ⟨gm, tm, em⟩ := blk_mono hg ht he
  refine ⟨fun {ρ S Q Q'} q w => hi.mono (fun xs l S1 ⟨⟨I, a, b, c, d⟩⟩ => ⟨⟨I, a, b, c, fun acc S' h p hp => q _ _ (d acc S' h p hp)⟩⟩) w, ?_⟩
  exact PE.imp (pe_lc hc hN hi.pi ok (fun s H C cl fp => (hg s H C cl fp).pg) (fun s H C cl fp => (ht s H C cl fp).pts) (fun s H C cl fp => (he s H C cl fp).pe) hs) (low_lcM (g := g) (tt := tt) (te := te) rfl hi gm tm em hv)
theorem zs_setLc (i : Nat) {y : Str} {py : Pos} (hN : X.N.Nodup) (hi : ZI X B tg iter ti) (ok : BlkOk X.N X.env.scope scope own) (hg : Blk X scope fun X => ZGt X B tg o g) (ht : Blk X scope fun X => ZTs X B ifs tt) (he : Blk X scope fun X => ZE X B elt te) {lpos : Pos}
    (hc : X.calm = true := by rfl) (hy : X.N[i]? = some y := by rfl) (hyl : X.env.scope.names.lookup y = some .local := by rfl) (hsw : swapsWith (.ListComp elt [⟨tg, iter, ifs, 0⟩] scope lpos) (some (.Name y py)) pos.line X.env = pure true := by exact sw_true rfl rfl rfl (by decide +kernel))
    (hv : ∀ i ∈ o, i ∈ own.map (·.2) := by decide) (hs : ∀ x, foldedSetIterable iter X.env x = pure x := by intro _; rfl) : ZS X B (.Assign [.Name y py] (.ListComp elt [⟨tg, iter, ifs, 0⟩] scope lpos) pos) (zAsg (zLc ti g tt te (own.map (·.2))) (zgName i)) := by
  obtain ⟨gm, tm, em⟩ := blk_mono hg ht he
  refine ⟨⟨fun pins s σ H D I w => ?_⟩⟩
  have base := ps_setLc (te := low X.K B te) (tt := lowB X.K B tt) (g := lowG X.K B o g) (spos := pos) (pos := lpos) (py := py) hc hN hy hyl hsw hi.pi ok (fun s H C cl fp => (hg s H C cl fp).pg) (fun s H C cl fp => (ht s H C cl fp).pts) (fun s H C cl fp => (he s H C cl fp).pe) hs
  obtain ⟨ρ, S, E, hE, hS, l, w⟩ := w
  have lo : low X.K B (zLc ti g tt te (own.map (·.2))) σ H fun v H' => D.nx (σ.set i (some v)) H' :=
    ⟨ρ, S, hE, hS, hi.mono (fun xs l' S1 ⟨⟨I, a, b, c, d⟩⟩ => ⟨⟨I, a, b, c, fun acc S' h v H' st rz R' => l.nx _ _ _ _ (d acc S' h) st ((hE.le (st.le hS.1)).set i rz) R'⟩⟩) w⟩
  refine thn (base.run pins s σ H { nx := fun σ' H' => ∃ a xs, σ' = σ.set i (some (.ref a)) ∧ H' a = some (.lst xs) ∧ ∀ o, D.nx (σ.set i (some (.ref a))) (upd H' a (.frz o (.lst xs))), rt := fun _ _ => False } I ?_) ?_
  · exact low_lc (g := g) (tt := tt) (te := te) rfl hi gm tm em hv σ H _ _ (fun a us H' e q => ⟨a, us, rfl, e, q⟩) lo
  · intro f s1 q
    cases f with
    | next =>
      obtain ⟨σ', H', I', a, xs, rfl, ea, q⟩ := q
      obtain ⟨o, I2⟩ := I'.lock ea True.intro
      exact ⟨_, _, I2, q o⟩
    | brk => obtain ⟨_, _, _, q⟩ := q; exact q.elim
    | cont => obtain ⟨_, _, _, q⟩ := q; exact q.elim
    | ret u => obtain ⟨_, _, _, _, _, q⟩ := q; exact q.elim
theorem zs_setLcM (i : Nat) {y : Str} {py : Pos} (hN : X.N.Nodup) (hi : ZI X B tg iter ti) (ok : BlkOk X.N X.env.scope scope own) (hg : Blk X scope fun X => ZGt X B tg o g) (ht : Blk X scope fun X => ZTs X B ifs tt) (he : Blk X scope fun X => ZE X B elt te) {lpos : Pos}
    (hc : X.calm = true := by rfl) (hy : X.N[i]? = some y := by rfl) (hyl : X.env.scope.names.lookup y = some .local := by rfl) (hsw : swapsWith (.ListComp elt [⟨tg, iter, ifs, 0⟩] scope lpos) (some (.Name y py)) pos.line X.env = pure true := by exact sw_true rfl rfl rfl (by decide +kernel))
    (hv : ∀ i ∈ o, i ∈ own.map (·.2) := by decide) (hs : ∀ x, foldedSetIterable iter X.env x = pure x := by intro _; rfl) : ZS X B (.Assign [.Name y py] (.ListComp elt [⟨tg, iter, ifs, 0⟩] scope lpos) pos) (zAsg (zLcM ti g tt te (own.map (·.2))) (zgName i)) := by
  obtain ⟨gm, tm, em⟩ := blk_mono hg ht he
  refine ⟨PS.imp (ps_setLc (te := low X.K B te) (tt := lowB X.K B tt) (g := lowG X.K B o g) (spos := pos) (pos := lpos) (py := py) hc hN hy hyl hsw hi.pi ok (fun s H C cl fp => (hg s H C cl fp).pg) (fun s H C cl fp => (ht s H C cl fp).pts) (fun s H C cl fp => (he s H C cl fp).pe) hs) ?_⟩
  rintro D σ H ⟨ρ, S, E, hE, hS, l, w⟩
  exact low_lcM (g := g) (tt := tt) (te := te) rfl hi gm tm em hv σ H (fun v H' => D.nx (σ.set i (some v)) H') ⟨ρ, S, hE, hS, hi.mono (fun xs l' S1 ⟨⟨I, a, b, c, d⟩⟩ => ⟨⟨I, a, b, c, fun acc S' h p hp v H' st rz R' => l.nx _ _ _ _ (d acc S' h p hp) st ((hE.le (st.le hS.1)).set i rz) R'⟩⟩) w⟩
end

/-! ### forms of promises -/
/-- a value of what is handed in; nothing is changed -/
def spF {α : Type} (args : α → List Z) (pre : α → Prop) (res : α → Z) : ZSp := fun zs S Q _ => ∃ p, zs = args p ∧ pre p ∧ Q (res p) S
theorem spF_mono {α : Type} {args : α → List Z} {pre : α → Prop} {res : α → Z} {zs : List Z} {S : Sto} {Q Q' : ZQ} {E E' : ZX → Sto → Prop} (q : ∀ z S', Q z S' → Q' z S') (_ : ∀ x S', E x S' → E' x S') (h : spF args pre res zs S Q E) : spF args pre res zs S Q' E' := by
  obtain ⟨p, e, h, w⟩ := h
  exact ⟨p, e, h, q _ _ w⟩
theorem spF_len {α : Type} {args : α → List Z} {pre : α → Prop} {res : α → Z} {n : Nat} (hn : ∀ p, (args p).length = n) : ∀ zs S Q E, spF args pre res zs S Q E → zs.length = n := fun zs S Q E ⟨p, e, _⟩ => by rw [e, hn]
/-- .. something of a kind -/
def spG {α : Type} (args : α → List Z) (pre : α → Sto → Prop) (post : α → Sto → Z → Sto → Prop) : ZSp := fun zs S Q _ => ∃ p, zs = args p ∧ pre p S ∧ ∀ z S', post p S z S' → Q z S'
theorem spG_mono {α : Type} {args : α → List Z} {pre : α → Sto → Prop} {post : α → Sto → Z → Sto → Prop} {zs : List Z} {S : Sto} {Q Q' : ZQ} {E E' : ZX → Sto → Prop} (q : ∀ z S', Q z S' → Q' z S') (_ : ∀ x S', E x S' → E' x S') (h : spG args pre post zs S Q E) : spG args pre post zs S Q' E' := by
  obtain ⟨p, e, h, w⟩ := h
  exact ⟨p, e, h, fun z S' k => q _ _ (w z S' k)⟩
theorem spG_len {α : Type} {args : α → List Z} {pre : α → Sto → Prop} {post : α → Sto → Z → Sto → Prop} {n : Nat} (hn : ∀ p, (args p).length = n) : ∀ zs S Q E, spG args pre post zs S Q E → zs.length = n := fun zs S Q E ⟨p, e, _⟩ => by rw [e, hn]
/-- a map of a row, by a comprehension -/
theorem lc_map {g : ZG} {te : ZT} {vs : List Nat} {ρ : ZEnv} {Q : ZQ} {xs : List PyData} {S1 : Sto} {l : List (Addr × List PyData)} (f : PyData → PyData) (hn : Need S1 l) (hz : xs.length ≤ sizeLine)
    (turn : ∀ (i : Nat) (x : PyData), xs[i]? = some x → ∀ R : PyData → Sto → Prop, R (f x) S1 → g (.d x) (zwipe ρ vs) S1 fun ρ2 S2 => te ρ2 S2 fun y S4 => match y with
      | .d d => R d S4
      | _ => False) (fin : Q (zl (xs.map f)) S1) : LcR g zYes te vs ρ Q xs l S1 := by
  refine ⟨fun i acc S' => acc = (xs.take i).map f ∧ S' = S1, ⟨by simp, rfl⟩, fun i acc S' _ h => by rw [h.2]; exact hn, ?_, ?_⟩
  · rintro i x acc S' e ⟨rfl, rfl⟩
    have hi : i < xs.length := (List.getElem?_eq_some_iff.mp e).1
    refine turn i x e (fun d S4 => ((xs.take i).map f).length < sizeLine ∧ ((xs.take i).map f ++ [d] = (xs.take (i + 1)).map f ∧ S4 = S')) ⟨?_, ?_, rfl⟩
    · rw [List.length_map, List.length_take]
      omega
    · rw [List.take_add_one, e]
      simp
  · rintro acc S' ⟨rfl, rfl⟩
    rw [List.take_length]
    exact fin
/-- the same with a test -/
theorem lc_filter {g : ZG} {tt : ZB} {te : ZT} {vs : List Nat} {ρ : ZEnv} {Q : ZQ} {xs : List PyData} {S1 : Sto} {l : List (Addr × List PyData)} (f : PyData → Option PyData) (hn : Need S1 l) (hz : xs.length ≤ sizeLine)
    (turn : ∀ (i : Nat) (x : PyData), xs[i]? = some x → ∀ (R : PyData → Sto → Prop) (R' : Sto → Prop), (∀ y, f x = some y → R y S1) → (f x = none → R' S1) → g (.d x) (zwipe ρ vs) S1 fun ρ2 S2 => tt ρ2 S2 fun b S3 => zBr b (te ρ2 S3 fun y S4 => match y with
      | .d d => R d S4
      | _ => False) (R' S3)) (fin : Q (zl (xs.filterMap f)) S1) : LcR g tt te vs ρ Q xs l S1 := by
  refine ⟨fun i acc S' => acc = (xs.take i).filterMap f ∧ S' = S1, ⟨by simp, rfl⟩, fun i acc S' _ h => by rw [h.2]; exact hn, ?_, ?_⟩
  · rintro i x acc S' e ⟨rfl, rfl⟩
    have hi : i < xs.length := (List.getElem?_eq_some_iff.mp e).1
    refine turn i x e (fun d S4 => ((xs.take i).filterMap f).length < sizeLine ∧ ((xs.take i).filterMap f ++ [d] = (xs.take (i + 1)).filterMap f ∧ S4 = S')) (fun S3 => (xs.take i).filterMap f = (xs.take (i + 1)).filterMap f ∧ S3 = S') (fun y ey => ⟨?_, ?_, rfl⟩) fun ey => ⟨?_, rfl⟩
    · have h1 := List.length_filterMap_le f (xs.take i)
      rw [List.length_take] at h1
      omega
    · rw [List.take_add_one, e]
      simp [ey]
    · rw [List.take_add_one, e]
      simp [ey]
  · rintro acc S' ⟨rfl, rfl⟩
    rw [List.take_length]
    exact fin
theorem need_nil {S : Sto} : Need S [] := fun _ h => nomatch h
theorem line2 {n : Nat} (h : n ≤ 16777216) : n ≤ sizeLine := by rw [sizeLine_eq]; exact h
end ZL

namespace ZL
open PySem PySem.Spec PyProof.Rows L2
section
variable {X : Cx} {B : Bs}
theorem room65 {k : Nat} {A : Around} (r : Room k A) : A.units + 65 < cLine := by have := r.un; omega
/-! ### in, not in -/
def inB (neg : Bool) (ds : List PyData) (a : PyData) : Bool := bif neg then !ds.any fun z => PyData.eqv z a else ds.any fun z => PyData.eqv z a
def rZIn (neg : Bool) : ZR2 := fun x y S Q => match x, y with
  | .d a, .d (.list ds) => Sh a (.list ds) ∧ Q (zb (inB neg ds a)) S
  | .d a, .d (.tuple ds) => Sh a (.tuple ds) ∧ Q (zb (inB neg ds a)) S
  | .d a, .r p => match S p with
    | some (.lst ds) => Sh a (.list ds) ∧ Q (zb (inB neg ds a)) S
    | none => False
  | _, _ => False
theorem zin {k : Nat} (hr : Room k X.A) : ZOp X (compareOp .In) (rZIn false) := by
  have hu := room65 hr
  constructor
  · intro x y S Q Q' q w
    unfold rZIn at *
    split at w
    · exact ⟨w.1, q _ _ w.2⟩
    · exact ⟨w.1, q _ _ w.2⟩
    · split at w
      · exact ⟨w.1, q _ _ w.2⟩
      · exact w.elim
    · exact w.elim
  · rintro B pins s σ H x y v u Q I rx ry ⟨z1, z2, S, h1, h2, hS, w⟩
    unfold rZIn at w
    split at w
    · cases h1 with | d h1 => cases h2 with | d h2 =>
        obtain ⟨as, r1, _⟩ := h1.reads I rx
        obtain ⟨bs, r2, _⟩ := h2.reads I ry
        exact SeqAt.in_list_reads r2 r1 (SeqAt.canLay_of_shaped w.1.2) (SeqAt.canLay_of_shaped w.1.1) (room_in_shaped w.1.1 hu) ⟨.bl _, H, I, rfl, w.2 _ H (.refl _ _) (.d (.bl _)) hS⟩
    · cases h1 with | d h1 => cases h2 with | d h2 =>
        obtain ⟨as, r1, _⟩ := h1.reads I rx
        obtain ⟨bs, r2, _⟩ := h2.reads I ry
        exact SeqAt.in_tuple_reads r2 r1 (SeqAt.canLay_of_shaped w.1.2) (SeqAt.canLay_of_shaped w.1.1) (room_in_shaped w.1.1 hu) ⟨.bl _, H, I, rfl, w.2 _ H (.refl _ _) (.d (.bl _)) hS⟩
    · split at w
      · rename_i e
        cases h1 with | d h1 =>
        cases h2
        cases ry
        obtain ⟨vs, hp, f⟩ := hS.1 _ _ e
        obtain ⟨as, r1, _⟩ := h1.reads I rx
        obtain ⟨its, rv, ⟨o, n, e1, c, _, dt⟩, _⟩ := I.list (.inl (.of hp))
        obtain ⟨bs, ra, _⟩ := FzAll.reads I f rv
        exact SeqAt.in_list_reads (.list e1 c dt (by simpa using ra)) r1 (SeqAt.canLay_of_shaped w.1.2) (SeqAt.canLay_of_shaped w.1.1) (room_in_shaped w.1.1 hu) ⟨.bl _, H, I, rfl, w.2 _ H (.refl _ _) (.d (.bl _)) hS⟩
      · exact w.elim
    · exact w.elim
theorem znin {k : Nat} (hr : Room k X.A) : ZOp X (compareOp .NotIn) (rZIn true) := by
  have hu := room65 hr
  constructor
  · intro x y S Q Q' q w
    unfold rZIn at *
    split at w
    · exact ⟨w.1, q _ _ w.2⟩
    · exact ⟨w.1, q _ _ w.2⟩
    · split at w
      · exact ⟨w.1, q _ _ w.2⟩
      · exact w.elim
    · exact w.elim
  · rintro B pins s σ H x y v u Q I rx ry ⟨z1, z2, S, h1, h2, hS, w⟩
    unfold rZIn at w
    split at w
    · cases h1 with | d h1 => cases h2 with | d h2 =>
        obtain ⟨as, r1, _⟩ := h1.reads I rx
        obtain ⟨bs, r2, _⟩ := h2.reads I ry
        exact SeqAt.notIn_list_reads r2 r1 (SeqAt.canLay_of_shaped w.1.2) (SeqAt.canLay_of_shaped w.1.1) (room_in_shaped w.1.1 hu) ⟨.bl _, H, I, rfl, w.2 _ H (.refl _ _) (.d (.bl _)) hS⟩
    · cases h1 with | d h1 => cases h2 with | d h2 =>
        obtain ⟨as, r1, _⟩ := h1.reads I rx
        obtain ⟨bs, r2, _⟩ := h2.reads I ry
        exact SeqAt.notIn_tuple_reads r2 r1 (SeqAt.canLay_of_shaped w.1.2) (SeqAt.canLay_of_shaped w.1.1) (room_in_shaped w.1.1 hu) ⟨.bl _, H, I, rfl, w.2 _ H (.refl _ _) (.d (.bl _)) hS⟩
    · split at w
      · rename_i e
        cases h1 with | d h1 =>
        cases h2
        cases ry
        obtain ⟨vs, hp, f⟩ := hS.1 _ _ e
        obtain ⟨as, r1, _⟩ := h1.reads I rx
        obtain ⟨its, rv, ⟨o, n, e1, c, _, dt⟩, _⟩ := I.list (.inl (.of hp))
        obtain ⟨bs, ra, _⟩ := FzAll.reads I f rv
        exact SeqAt.notIn_list_reads (.list e1 c dt (by simpa using ra)) r1 (SeqAt.canLay_of_shaped w.1.2) (SeqAt.canLay_of_shaped w.1.1) (room_in_shaped w.1.1 hu) ⟨.bl _, H, I, rfl, w.2 _ H (.refl _ _) (.d (.bl _)) hS⟩
      · exact w.elim
    · exact w.elim
/-! ### a < b < c -/
variable {ta tb tc : ZT} {a b c : Expr} {pos : Pos}
def zChain (r r' : ZR2) (ta tb tc : ZT) : ZT := fun ρ S Q => ta ρ S fun x S1 => tb ρ S1 fun y S2 => r x y S2 fun z S3 => match z with
  | .d (.bool k) => zBr k (tc ρ S3 fun w' S4 => r' y w' S4 Q) (Q (zb false) S3)
  | _ => False
theorem zChain_mono {f f' : Value → Value → Sem Value} {r r' : ZR2} (ho : ZOp X f r) (ho' : ZOp X f' r') (ha : ZE X B a ta) (hb : ZE X B b tb) (hc : ZE X B c tc) {ρ : ZEnv} {S : Sto} {Q Q' : ZQ} (q : ∀ z S', Q z S' → Q' z S') (w : zChain r r' ta tb tc ρ S Q) : zChain r r' ta tb tc ρ S Q' := by
  refine ha.mono (fun x S1 h1 => hb.mono (fun y S2 h2 => ho.mono (fun z S3 h3 => ?_) h2) h1) w
  split at h3
  · exact h3.mono (fun h => hc.mono (fun w' S4 h4 => ho'.mono q h4) h) (fun h => q _ _ h)
  · exact h3.elim
theorem low_chain {f f' : Value → Value → Sem Value} {r r' : ZR2} (ho : ZOp X f r) (ho' : ZOp X f' r') (ha : ZE X B a ta) (hb : ZE X B b tb) (hc : ZE X B c tc) : ∀ σ H Q, low X.K B (zChain r r' ta tb tc) σ H Q → tChain (lowR X.K B r) (lowR X.K B r') (low X.K B ta) (low X.K B tb) (low X.K B tc) σ H Q := by
  rintro σ H Q ⟨ρ, S, hE, hS, h⟩
  refine ha.go hE hS h fun x S1 v1 H1 h1 st1 E1 R1 z1 => ?_
  refine hb.go E1 R1 h1 fun y S2 v2 H2 h2 st2 E2 R2 z2 => ?_
  refine ⟨x, y, S2, z1.le (st2.le R1.1), z2, R2, ho.mono (fun z S3 h3 => ?_) h2⟩
  intro v3 H3 st3 rz3 R3
  split at h3
  · rename_i k
    cases rz3 with | d rz3 =>
    cases rz3
    refine ⟨k, rfl, ?_⟩
    have E3 := E2.le (st3.le R2.1)
    cases k with
    | false => exact h3 _ H3 ((st1.trans st2).trans st3) (.d (.bl _)) R3
    | true =>
      rw [if_pos rfl]
      refine hc.go E3 R3 h3 fun w' S4 v4 H4 h4 st4 E4 R4 z4 => ?_
      exact ⟨y, w', S4, z2.le ((st3.trans st4).le R2.1), z4, R4, ho'.mono (fun z S5 q v H5 st rz rs => q v H5 ((((st1.trans st2).trans st3).trans st4).trans st) rz rs) h4⟩
  · exact h3.elim
theorem ze_chain {op op' : CmpOp} {r r' : ZR2} (ho : ZOp X (compareOp op) r) (ho' : ZOp X (compareOp op') r') (ha : ZE X B a ta) (hb : ZE X B b tb) (hc : ZE X B c tc)
    (hm : lastMarks [op, op'] [b, c] = false := by with_unfolding_all rfl) : ZE X B (.Compare a [op, op'] [b, c] pos) (zChain r r' ta tb tc) :=
  ⟨zChain_mono ho ho' ha hb hc, PE.imp (pe_chain (ho.op B) (ho'.op B) ha.pe hb.pe hc.pe hm) (low_chain ho ho' ha hb hc)⟩
theorem zt_chain {op op' : CmpOp} {r r' : ZR2} (ho : ZOp X (compareOp op) r) (ho' : ZOp X (compareOp op') r') (ha : ZE X B a ta) (hb : ZE X B b tb) (hc : ZE X B c tc)
    (hm : lastMarks [op, op'] [b, c] = false := by with_unfolding_all rfl) : ZTe X B (.Compare a [op, op'] [b, c] pos) (zTest (zChain r r' ta tb tc)) := by
  refine ⟨zTest_mono (ze_chain (pos := pos) ho ho' ha hb hc hm), PT.imp (pt_chain (ho.op B) (ho'.op B) ha.pe hb.pe hc.pe hm) fun σ H Q w => ?_⟩
  have w2 := low_test (ze_chain (pos := pos) ho ho' ha hb hc hm) σ H Q w
  exact low_chain ho ho' ha hb hc σ H _ w2
/-! ### a, b, c = x, y, z -/
def zPar3 (i j l : Nat) (ta : ZA) : ZTS := fun D ρ S => ta ρ S fun zs S1 => match zs with
  | [x, y, z] => D.nx (((ρ.set i (some x)).set j (some y)).set l (some z)) S1
  | _ => False
theorem rzs3 {K : PySem.W.Frag} {H : Hp} {vs : List V} {z z' z2 : Z} (h : RZs K H vs [z, z', z2]) : ∃ v v' v2, vs = [v, v', v2] ∧ RZ K H v z ∧ RZ K H v' z' ∧ RZ K H v2 z2 := by
  cases h with | cons h t => cases t with | cons h' t => cases t with | cons h2 t => cases t; exact ⟨_, _, _, rfl, h, h', h2⟩
theorem zs_par3 {i j l : Nat} {x y z : Str} {a b c : Expr} {ta : ZA} {px py pz pt pos : Pos} {kt k2 pt2} (hN : X.N.Nodup) (ha : ZAs X B [a, b, c] ta) (hc : X.calm = true := by rfl) (hi : X.N[i]? = some x := by rfl) (hj : X.N[j]? = some y := by rfl) (hl : X.N[l]? = some z := by rfl) (hij : i ≠ j := by decide) (hil : i ≠ l := by decide) (hjl : j ≠ l := by decide)
    (hx : X.env.scope.names.lookup x = some .local := by rfl) (hy : X.env.scope.names.lookup y = some .local := by rfl) (hz : X.env.scope.names.lookup z = some .local := by rfl)
    (hw : swappedStores [.Tuple [.Name x px, .Name y py, .Name z pz] kt pt] (.Tuple [a, b, c] k2 pt2) X.env = pure (some [x, y, z]) := by rfl)
    (hs : swapsWithSole [.Tuple [.Name x px, .Name y py, .Name z pz] kt pt] (.Tuple [a, b, c] k2 pt2) pos.line X.env = pure false := by rfl) :
    ZS X B (.Assign [.Tuple [.Name x px, .Name y py, .Name z pz] kt pt] (.Tuple [a, b, c] k2 pt2) pos) (zPar3 i j l ta) := ⟨PS.imp (ps_par3 hc hN hi hj hl hij hil hjl hx hy hz ha.pa hw hs) (by
  rintro E σ H ⟨ρ, S, D, hE, hS, lz, w⟩
  refine ha.go hE hS w fun zs S1 vs H1 h1 st E1 R1 rz => ?_
  split at h1
  · obtain ⟨v, v', v2, rfl, r1, r2, r3⟩ := rzs3 rz
    exact ⟨v, v', v2, rfl, lz.nx _ _ _ _ h1 st (((E1.set i r1).set j r2).set l r3) R1⟩
  · exact h1.elim)⟩
/-! ### methods of data, that tell flat data -/
def tyD : String → PyData → Bool
  | "list", .list _ => true
  | "str", .str _ => true
  | _, _ => false
theorem tyD_ok {K : PySem.W.Frag} {H : Hp} {T : String} {d : PyData} {v : V} (h : tyD T d = true) (f : Fz K H v d) : tyV K T v H := by
  unfold tyD at h
  split at h
  · cases f with | lst s _ => exact .inl ⟨rfl, _, s.l⟩
  · cases f with | str _ => rfl
  · cases h
def MtD (X : Cx) (id : String) (g : PyData → List PyData → Option PyData) : Prop := MtR X id fun x xs H Q => ∃ d ds y, Fz X.K H x d ∧ FzAll X.K H xs ds ∧ g d ds = some y ∧ ∀ x', Fz X.K H x' y → Q x' H
def zMeth (T : String) (g : PyData → List PyData → Option PyData) (to : ZT) (t : ZA) : ZT := fun ρ S Q => to ρ S fun z S1 => match z with
  | .d d => tyD T d = true ∧ t ρ S1 fun zs S2 => match datas zs with
    | some ds => match g d ds with
      | some y => Q (.d y) S2
      | none => False
    | none => False
  | _ => False
variable {o e : Expr} {es : List Expr} {to : ZT} {t : ZA} {name : Str} {apos cpos : Pos} {T id : String} {g : PyData → List PyData → Option PyData}
theorem ze_meth (pa : PlainAttrs T) (slot : Slot T name id) (hty : typeOf (.builtin id) = pure (.type "method_descriptor")) (hm : MtD X id g) (ho : ZE X B o to) (ha : ZAs X B (e :: es) t)
    (hbase : attributeBase o name X.env (eval o X.env) = eval o X.env := by rfl)
    (hfew : ((backTo cpos (starEach (e :: es) X.env)).all (fun x => !x.1) && (backToKw cpos (keywordEach [] X.env)).all (fun x => x.1.isSome)
      && decide ((e :: es).length + ([] : List Keyword).length + (if ([] : List Keyword).isEmpty then 0 else 1) < 30)) = true := by rfl)
    (hline : (apos.endLine == cpos.line) = true := by rfl) (hs : starEach (e :: es) X.env = (false, eval e X.env) :: starEach es X.env := by rfl) (hplain : (backTo cpos (starEach es X.env)).any (·.1) = false := by rfl) :
    ZE X B (.Call (.Attribute o name apos) (e :: es) [] cpos) (zMeth T g to t) := by
  refine ⟨fun {ρ S Q Q'} q w => ho.mono (fun x S1 h1 => ?_) w, PE.imp (pe_bm pa slot hty hm ho.pe ha.pa hbase hfew hline hs hplain) ?_⟩
  · split at h1
    · refine ⟨h1.1, ha.mono (fun zs S2 h2 => ?_) h1.2⟩
      split at h2
      · split at h2
        · exact q _ _ h2
        · exact h2.elim
      · exact h2.elim
    · exact h1.elim
  · rintro σ H Q ⟨ρ, S, hE, hS, w⟩
    refine ho.go hE hS w fun x S1 v1 H1 h1 st1 E1 R1 z1 => ?_
    split at h1
    · rename_i d
      cases z1 with | d z1 =>
      refine ⟨tyD_ok h1.1 z1, ha.go E1 R1 h1.2 fun zs S2 vs H2 h2 st2 E2 R2 z2 => ?_⟩
      split at h2
      · rename_i ds ed
        split at h2
        · rename_i y ey
          exact ⟨d, ds, y, z1.le (st2.le R1.1), datas_fz z2 ed, ey, fun x' f => h2 x' H2 (st1.trans st2) (.d f) R2⟩
        · exact h2.elim
      · exact h2.elim
    · exact h1.elim
/-! xs.count(x) -/
def countO : PyData → List PyData → Option PyData
  | .list xs, [y] => if SeqAt.shaped y && SeqAt.shaped (.list xs) then some (.int (xs.countP fun z => PyData.eqv z y : Nat)) else none
  | _, _ => none
theorem mt_count {k : Nat} (hr : Room k X.A) : MtD X "list.count" countO := by
  intro pins s σ H x xs v us Q I rx rxs h
  obtain ⟨d, ds, y, f, fs, e, q⟩ := h
  unfold countO at e
  split at e
  · rename_i zs y
    split at e
    · rename_i hc
      cases e
      rw [Bool.and_eq_true] at hc
      cases fs with | cons f1 ft =>
      cases ft
      cases rxs with | cons ry rt =>
      cases rt
      obtain ⟨as, r1, _⟩ := f1.reads I ry
      cases f with | lst sq fa =>
      cases rx
      obtain ⟨its, rv, ⟨⟨cls, dd, data, sls⟩, n, ho, hc1, hdn, hdt⟩, hlen⟩ := I.list (SqF.l sq)
      simp only at hc1 hdt
      subst hc1 hdt
      obtain ⟨bs, ra, _⟩ := FzAll.reads I fa rv
      have hxs := SeqAt.canLay_of_shaped hc.2
      have hxs : PyData.canLayAll0 zs = true := by simpa [PyData.canLay0] using hxs
      have ra' : ReadsAll s.heap its.toArray.toList zs bs := by simpa using ra
      refine call_meets PySem.F.slot_list_count ⟨_, ho, rfl⟩ PySem.F.entry_list_count (PySem.F.args_list_count_2 _ _) (SeqAt.list_countAt _ its.toArray n dd sls _ (fun u => PyData.eqv (SeqAt.readOf s.heap u) y)) ⟨ho, SeqAt.items_eqAt ra' r1 hxs (SeqAt.canLay_of_shaped hc.1) (room_in_shaped hc.1 (room65 hr)), ?_⟩
      have ec : its.toArray.toList.countP (fun u => PyData.eqv (SeqAt.readOf s.heap u) y) = zs.countP fun z => PyData.eqv z y := by
        rw [← SeqAt.readsAll_map zs _ _ hxs ra', List.countP_map]
        rfl
      refine ⟨.int (zs.countP fun z => PyData.eqv z y : Nat), H, I.tok _, ⟨s.toks, ?_⟩, q _ (.int _)⟩
      show Value.int ((its.toArray.toList.countP (fun u => PyData.eqv (SeqAt.readOf s.heap u) y) : Nat) : Int) s.toks = _
      rw [ec]
    · cases e
  · cases e
end
end ZL

/-! The plain side: what a def computes, as a plain function over cells. -/
namespace V
open PySem PySem.Spec
abbrev Cells := List (Option ZL.Cell)
structure Exn where
  name : Str
  fs : List (Str × PyData)
inductive Res (α : Type) where
  | ok (a : α) (s : Cells)
  | ex (x : Exn) (s : Cells)
  | bad
def M (α : Type) := Cells → Res α
def M.pure {α : Type} (a : α) : M α := fun s => .ok a s
def M.bind {α β : Type} (m : M α) (k : α → M β) : M β := fun s => match m s with
  | .ok a s' => k a s'
  | .ex x s' => .ex x s'
  | .bad => .bad
instance : Monad M := { pure := M.pure, bind := M.bind }
def bad {α : Type} : M α := fun _ => .bad
def ofO {α : Type} : Option α → M α
  | some a => pure a
  | none => bad
def noex {α : Type} (m : M α) : M α := fun s => match m s with
  | .ok a s' => .ok a s'
  | _ => .bad
def raise {α : Type} (n : Str) : M α := fun s => .ex ⟨n, []⟩ s
theorem bind_def {α β : Type} (m : M α) (k : α → M β) (s : Cells) : (m >>= k) s = match m s with
  | .ok a s' => k a s'
  | .ex x s' => .ex x s'
  | .bad => .bad := rfl
@[simp] theorem pure_run {α : Type} (a : α) (s : Cells) : (pure a : M α) s = .ok a s := rfl
@[simp] theorem pure_bind' {α β : Type} (a : α) (k : α → M β) : ((pure a : M α) >>= k) = k a := rfl
@[simp] theorem bind_pure' {α : Type} (m : M α) : (m >>= fun a => pure a) = m := by
  funext s; rw [bind_def]; cases m s <;> rfl
@[simp] theorem bad_bind {α β : Type} (k : α → M β) : ((bad : M α) >>= k) = bad := rfl
@[simp] theorem raise_bind {α β : Type} (n : Str) (k : α → M β) : ((raise n : M α) >>= k) = raise n := rfl
@[simp] theorem bind_assoc' {α β γ : Type} (m : M α) (k : α → M β) (l : β → M γ) : ((m >>= k) >>= l) = (m >>= fun a => k a >>= l) := by
  funext s; simp only [bind_def]; cases m s <;> rfl
@[simp] theorem noex_pure {α : Type} (a : α) : noex (pure a : M α) = pure a := rfl
@[simp] theorem noex_bad {α : Type} : noex (bad : M α) = bad := rfl
@[simp] theorem ofO_some {α : Type} (a : α) : ofO (some a) = (pure a : M α) := rfl
@[simp] theorem ofO_none {α : Type} : ofO (none : Option α) = (bad : M α) := rfl
theorem bind_ok {α β : Type} {m : M α} {k : α → M β} {s s' : Cells} {a : α} (h : m s = .ok a s') : (m >>= k) s = k a s' := by rw [bind_def, h]
theorem bind_ex {α β : Type} {m : M α} {k : α → M β} {s s' : Cells} {x : Exn} (h : m s = .ex x s') : (m >>= k) s = .ex x s' := by rw [bind_def, h]

/-! cells -/
def getC (j : Nat) : M (List PyData) := fun s => match s[j]? with
  | some (some (.lst xs)) => .ok xs s
  | _ => .bad
def setC (j : Nat) (xs : List PyData) : M Unit := fun s => if j < s.length then .ok () (s.set j (some (.lst xs))) else .bad
def delC (j : Nat) : M Unit := fun s => .ok () (s.set j none)
/-- a callee over some of the cells -/
def pick (s : Cells) : List Nat → Cells
  | [] => []
  | j :: r => s.getD j none :: pick s r
def put (s : Cells) : List Nat → Cells → Cells
  | j :: r, c :: cs => put (s.set j c) r cs
  | _, _ => s
def liveB (s : Cells) (js : List Nat) : Bool := js.all fun j => (s.getD j none).isSome
def sub {α : Type} (js : List Nat) (m : M α) : M α := fun s => bif liveB s js then (match m (pick s js) with
  | .ok a s' => .ok a (put s js s')
  | .ex x s' => .ex x (put s js s')
  | .bad => .bad) else .bad
@[simp] theorem sub_pure {α : Type} (a : α) : sub [] (pure a : M α) = pure a := rfl

/-! flow -/
inductive Fl (L T : Type) where
  | nx (t : T)
  | bk (l : L)
  | ct (l : L)
  | rt (v : PyData)
def flk {L T U : Type} (k : T → M (Fl L U)) : Fl L T → M (Fl L U)
  | .nx t => k t
  | .bk l => pure (.bk l)
  | .ct l => pure (.ct l)
  | .rt v => pure (.rt v)
@[simp] theorem flk_nx {L T U : Type} (k : T → M (Fl L U)) (t : T) : flk k (.nx t) = k t := rfl
@[simp] theorem flk_rt {L T U : Type} (k : T → M (Fl L U)) (v : PyData) : flk k (.rt v) = pure (.rt v) := rfl
@[simp] theorem flk_bk {L T U : Type} (k : T → M (Fl L U)) (v : L) : flk k (.bk v) = pure (.bk v) := rfl
@[simp] theorem flk_ct {L T U : Type} (k : T → M (Fl L U)) (v : L) : flk k (.ct v) = pure (.ct v) := rfl
/-- a def's end -/
def fin (m : M (Fl Unit Unit)) : M PyData := m >>= fun f => match f with
  | .nx _ => pure .none
  | .rt v => pure v
  | _ => bad
@[simp] theorem fin_rt (v : PyData) : fin (pure (.rt v)) = pure v := rfl
@[simp] theorem fin_nx (v : Unit) : fin (pure (.nx v)) = pure .none := rfl
@[simp] theorem fin_raise (n : Str) : fin (raise n) = raise n := rfl
@[simp] theorem fin_bind {α : Type} (m : M α) (k : α → M (Fl Unit Unit)) : fin (m >>= k) = (m >>= fun a => fin (k a)) := by
  unfold fin; rw [bind_assoc']
@[simp] theorem fin_cond (b : Bool) (x y : M (Fl Unit Unit)) : fin (bif b then x else y) = bif b then fin x else fin y := by cases b <;> rfl
@[simp] theorem bind_cond {α β : Type} (b : Bool) (x y : M α) (k : α → M β) : ((bif b then x else y) >>= k) = bif b then (x >>= k) else (y >>= k) := by cases b <;> rfl
def forM {L T α : Type} (pt : PyData → Option α) (body : α → T → M (Fl T T)) : List PyData → T → M (Fl L T)
  | [], t => pure (.nx t)
  | x :: r, t => ofO (pt x) >>= fun u => body u t >>= fun f => match f with
    | .nx t' => forM pt body r t'
    | .ct t' => forM pt body r t'
    | .bk t' => pure (.nx t')
    | .rt v => pure (.rt v)
def whileM {L T : Type} (c : T → M Bool) (body : T → M (Fl T T)) : Nat → T → M (Fl L T)
  | 0, _ => bad
  | n + 1, t => c t >>= fun b => bif b then (body t >>= fun f => match f with
    | .nx t' => whileM c body n t'
    | .ct t' => whileM c body n t'
    | .bk t' => pure (.nx t')
    | .rt v => pure (.rt v)) else pure (.nx t)
theorem whileM_succ {L T : Type} (c : T → M Bool) (body : T → M (Fl T T)) (n : Nat) (t : T) : (whileM c body (n + 1) t : M (Fl L T)) = (c t >>= fun b => bif b then (body t >>= fun f => match f with
    | .nx t' => whileM c body n t'
    | .ct t' => whileM c body n t'
    | .bk t' => pure (.nx t')
    | .rt v => pure (.rt v)) else pure (.nx t)) := rfl
def line : Nat := 16777216
end V

namespace ZL
open PySem PySem.Spec PyProof.Rows L2

/-! ### forgetting -/
inductive Fgz : ZEnv → ZEnv → Prop
  | nil : Fgz [] []
  | n {o : Option Z} {a b : ZEnv} : Fgz a b → Fgz (none :: a) (o :: b)
  | s {z : Z} {a b : ZEnv} : Fgz a b → Fgz (some z :: a) (some z :: b)
theorem Fgz.refl : ∀ a : ZEnv, Fgz a a
  | [] => .nil
  | none :: a => .n (Fgz.refl a)
  | some _ :: a => .s (Fgz.refl a)
theorem Fgz.trans : ∀ {a b c : ZEnv}, Fgz a b → Fgz b c → Fgz a c
  | _, _, _, .nil, h => h
  | _, _, _, .n h, .n k => .n (Fgz.trans h k)
  | _, _, _, .n h, .s k => .n (Fgz.trans h k)
  | _, _, _, .s h, .s k => .s (Fgz.trans h k)
theorem Fgz.set : ∀ {a b : ZEnv} (i : Nat) (o : Option Z), Fgz a b → Fgz (a.set i o) (b.set i o)
  | _, _, _, _, .nil => .nil
  | _, _, 0, none, .n h => .n h
  | _, _, 0, some z, .n h => .s h
  | _, _, 0, none, .s h => .n h
  | _, _, 0, some z, .s h => .s h
  | _, _, i + 1, o, .n h => .n (Fgz.set i o h)
  | _, _, i + 1, o, .s h => .s (Fgz.set i o h)
theorem Fgz.unset : ∀ {a b : ZEnv} (i : Nat) (o : Option Z), Fgz a b → Fgz (a.set i none) (b.set i o)
  | _, _, _, _, .nil => .nil
  | _, _, 0, _, .n h => .n h
  | _, _, 0, _, .s h => .n h
  | _, _, i + 1, o, .n h => .n (Fgz.unset i o h)
  | _, _, i + 1, o, .s h => .s (Fgz.unset i o h)
theorem Fgz.wipe {a b : ZEnv} (h : Fgz a b) : ∀ vs : List Nat, Fgz (zwipe a vs) (zwipe b vs)
  | [] => h
  | v :: vs => (Fgz.wipe h vs).set v none
theorem RE.forget {K : PySem.W.Frag} {H : Hp} : ∀ {a b : ZEnv} {σ : L2.St}, Fgz a b → RE K H b σ → RE K H a σ
  | _, _, _, .nil, .nil => .nil
  | _, _, _, .n h, .non r => .non (RE.forget h r)
  | _, _, _, .n h, .val _ r => .non (RE.forget h r)
  | _, _, _, .s h, .val q r => .val q (RE.forget h r)

/-! ### the greatest readings -/
section
variable {X : Cx} {B : Bs}
def WE (X : Cx) (B : Bs) (e : Expr) : ZT := fun ρ S Q => ∃ ρ' t, Fgz ρ' ρ ∧ ZE X B e t ∧ t ρ' S Q
def WT (X : Cx) (B : Bs) (e : Expr) : ZB := fun ρ S Q => ∃ ρ' t, Fgz ρ' ρ ∧ ZTe X B e t ∧ t ρ' S Q
def WW (X : Cx) (B : Bs) (e : Expr) : ZB := fun ρ S Q => ∃ ρ' t, Fgz ρ' ρ ∧ ZW X B e t ∧ t ρ' S Q
def WAs (X : Cx) (B : Bs) (e : List Expr) : ZA := fun ρ S Q => ∃ ρ' t, Fgz ρ' ρ ∧ ZAs X B e t ∧ t ρ' S Q
def WKw (X : Cx) (B : Bs) (e : List Keyword) : ZA := fun ρ S Q => ∃ ρ' t, Fgz ρ' ρ ∧ ZKw X B e t ∧ t ρ' S Q
def WSt (X : Cx) (B : Bs) (e : Stmt) : ZTS := fun D ρ S => ∃ ρ' t, Fgz ρ' ρ ∧ ZS X B e t ∧ t D ρ' S
def WSs (X : Cx) (B : Bs) (e : List Stmt) : ZTS := fun D ρ S => ∃ ρ' t, Fgz ρ' ρ ∧ ZSs X B e t ∧ t D ρ' S
def WI (X : Cx) (B : Bs) (tg e : Expr) : ZTI := fun ρ S Q => ∃ ρ' t, Fgz ρ' ρ ∧ ZI X B tg e t ∧ t ρ' S Q
theorem we_ze {e : Expr} : ZE X B e (WE X B e) := ⟨fun q ⟨ρ', t, f, h, w⟩ => ⟨ρ', t, f, h, h.mono q w⟩, ⟨fun pins s σ H Q I ⟨ρ, S, hE, hS, ρ', t, f, h, w⟩ => h.pe.run pins s σ H Q I ⟨ρ', S, hE.forget f, hS, w⟩⟩⟩
theorem wt_zt {e : Expr} : ZTe X B e (WT X B e) := ⟨fun q ⟨ρ', t, f, h, w⟩ => ⟨ρ', t, f, h, h.mono q w⟩, ⟨fun pins s σ H Q I ⟨ρ, S, hE, hS, ρ', t, f, h, w⟩ => h.pt.run pins s σ H Q I ⟨ρ', S, hE.forget f, hS, w⟩⟩⟩
theorem ww_zw {e : Expr} : ZW X B e (WW X B e) := ⟨fun q ⟨ρ', t, f, h, w⟩ => ⟨ρ', t, f, h, h.mono q w⟩, ⟨fun wh pins s σ H Q I ⟨ρ, S, hE, hS, ρ', t, f, h, w⟩ => h.pw.run wh pins s σ H Q I ⟨ρ', S, hE.forget f, hS, w⟩⟩⟩
theorem wa_za {e : List Expr} : ZAs X B e (WAs X B e) := ⟨fun q ⟨ρ', t, f, h, w⟩ => ⟨ρ', t, f, h, h.mono q w⟩, ⟨fun pos pins s σ H Q I ⟨ρ, S, hE, hS, ρ', t, f, h, w⟩ => h.pa.run pos pins s σ H Q I ⟨ρ', S, hE.forget f, hS, w⟩⟩⟩
theorem wk_zk {e : List Keyword} : ZKw X B e (WKw X B e) := ⟨fun q ⟨ρ', t, f, h, w⟩ => ⟨ρ', t, f, h, h.mono q w⟩, ⟨fun pos pins s σ H Q I ⟨ρ, S, hE, hS, ρ', t, f, h, w⟩ => h.pk.run pos pins s σ H Q I ⟨ρ', S, hE.forget f, hS, w⟩⟩⟩
theorem ws_zs {e : Stmt} : ZS X B e (WSt X B e) := ⟨⟨fun pins s σ H E I ⟨ρ, S, D, hE, hS, l, ρ', t, f, h, w⟩ => h.ps.run pins s σ H E I ⟨ρ', S, D, hE.forget f, hS, l, w⟩⟩⟩
theorem wss_zss {e : List Stmt} : ZSs X B e (WSs X B e) := ⟨⟨fun pins s σ H E I ⟨ρ, S, D, hE, hS, l, ρ', t, f, h, w⟩ => h.pss.run pins s σ H E I ⟨ρ', S, D, hE.forget f, hS, l, w⟩⟩⟩
theorem wi_zi {tg e : Expr} : ZI X B tg e (WI X B tg e) := ⟨fun q ⟨ρ', t, f, h, w⟩ => ⟨ρ', t, f, h, h.mono q w⟩, ⟨fun pins s σ H Q I ⟨ρ, S, hE, hS, ρ', t, f, h, w⟩ => h.pi.run pins s σ H Q I ⟨ρ', S, hE.forget f, hS, w⟩⟩⟩
theorem ZE.we {e : Expr} {t : ZT} (h : ZE X B e t) {ρ : ZEnv} {S : Sto} {Q : ZQ} (w : t ρ S Q) : WE X B e ρ S Q := ⟨ρ, t, .refl _, h, w⟩
theorem ZTe.we {e : Expr} {t : ZB} (h : ZTe X B e t) {ρ : ZEnv} {S : Sto} {Q} (w : t ρ S Q) : WT X B e ρ S Q := ⟨ρ, t, .refl _, h, w⟩
theorem ZW.we {e : Expr} {t : ZB} (h : ZW X B e t) {ρ : ZEnv} {S : Sto} {Q} (w : t ρ S Q) : WW X B e ρ S Q := ⟨ρ, t, .refl _, h, w⟩
theorem ZAs.we {e : List Expr} {t : ZA} (h : ZAs X B e t) {ρ : ZEnv} {S : Sto} {Q} (w : t ρ S Q) : WAs X B e ρ S Q := ⟨ρ, t, .refl _, h, w⟩
theorem ZKw.we {e : List Keyword} {t : ZA} (h : ZKw X B e t) {ρ : ZEnv} {S : Sto} {Q} (w : t ρ S Q) : WKw X B e ρ S Q := ⟨ρ, t, .refl _, h, w⟩
theorem ZI.we {tg e : Expr} {t : ZTI} (h : ZI X B tg e t) {ρ : ZEnv} {S : Sto} {Q} (w : t ρ S Q) : WI X B tg e ρ S Q := ⟨ρ, t, .refl _, h, w⟩
theorem ZS.we {e : Stmt} {t : ZTS} (h : ZS X B e t) {D : ZEnds} {ρ : ZEnv} {S : Sto} (w : t D ρ S) : WSt X B e D ρ S := ⟨ρ, t, .refl _, h, w⟩
theorem ZSs.we {e : List Stmt} {t : ZTS} (h : ZSs X B e t) {D : ZEnds} {ρ : ZEnv} {S : Sto} (w : t D ρ S) : WSs X B e D ρ S := ⟨ρ, t, .refl _, h, w⟩
theorem WSs.forget {e : List Stmt} {D : ZEnds} {ρ ρ' : ZEnv} {S : Sto} (f : Fgz ρ' ρ) (w : WSs X B e D ρ' S) : WSs X B e D ρ S := let ⟨ρ2, t, f2, h, w⟩ := w; ⟨ρ2, t, f2.trans f, h, w⟩
theorem WE.forget {e : Expr} {ρ ρ' : ZEnv} {S : Sto} {Q : ZQ} (f : Fgz ρ' ρ) (w : WE X B e ρ' S Q) : WE X B e ρ S Q := let ⟨ρ2, t, f2, h, w⟩ := w; ⟨ρ2, t, f2.trans f, h, w⟩
theorem WT.forget {e : Expr} {ρ ρ' : ZEnv} {S : Sto} {Q} (f : Fgz ρ' ρ) (w : WT X B e ρ' S Q) : WT X B e ρ S Q := let ⟨ρ2, t, f2, h, w⟩ := w; ⟨ρ2, t, f2.trans f, h, w⟩
end

/-! ### slots -/
inductive Vl where
  | d (x : PyData)
  | c (j : Nat)
  | k (xs : List PyData)
def Vl.den (ps : List Addr) : Vl → Z
  | .d x => .d x
  | .c j => .r (ps.getD j 0)
  | .k xs => .k xs
abbrev VEnv := List (Option Vl)
def VEnv.den (ps : List Addr) (ρ : VEnv) : ZEnv := List.map (Option.map (Vl.den ps)) ρ
inductive Fg : VEnv → VEnv → Prop
  | nil : Fg [] []
  | n {o : Option Vl} {a b : VEnv} : Fg a b → Fg (none :: a) (o :: b)
  | s {z : Vl} {a b : VEnv} : Fg a b → Fg (some z :: a) (some z :: b)
theorem Fg.den (ps : List Addr) : ∀ {a b : VEnv}, Fg a b → Fgz (VEnv.den ps a) (VEnv.den ps b)
  | _, _, .nil => .nil
  | _, _, .n h => .n (Fg.den ps h)
  | _, _, .s h => .s (Fg.den ps h)
theorem Fg.refl : ∀ a : VEnv, Fg a a
  | [] => .nil
  | none :: a => .n (Fg.refl a)
  | some _ :: a => .s (Fg.refl a)
theorem Fg.none : ∀ b : VEnv, Fg (List.replicate b.length Option.none) b
  | [] => .nil
  | _ :: a => .n (Fg.none a)
/-- a forgetful environment, decided -/
def fgE (a b : VEnv) : Prop := match a, b with
  | [], [] => True
  | none :: a, _ :: b => fgE a b
  | some z :: a, o :: b => o = some z ∧ fgE a b
  | _, _ => False
theorem Fg.of : ∀ {a b : VEnv}, fgE a b → Fg a b
  | [], [], _ => .nil
  | Option.none :: a, _ :: b, h => .n (Fg.of h)
  | some z :: a, o :: b, h => by obtain ⟨rfl, h⟩ := h; exact .s (Fg.of h)
  | [], _ :: _, h => h.elim
  | Option.none :: _, [], h => h.elim
  | some _ :: _, [], h => h.elim
theorem den_set (ps : List Addr) (ρ : VEnv) (i : Nat) (o : Option Vl) : VEnv.den ps (ρ.set i o) = (VEnv.den ps ρ).set i (o.map (Vl.den ps)) := by
  unfold VEnv.den
  rw [List.map_set]
theorem den_get (ps : List Addr) (ρ : VEnv) (i : Nat) {v : Vl} (h : ρ[i]? = some (some v)) : (VEnv.den ps ρ)[i]? = some (some (v.den ps)) := by
  unfold VEnv.den
  rw [List.getElem?_map, h]
  rfl
def vwipe (ρ : VEnv) : List Nat → VEnv
  | [] => ρ
  | v :: vs => (vwipe ρ vs).set v none
theorem den_wipe (ps : List Addr) (ρ : VEnv) : ∀ vs : List Nat, VEnv.den ps (vwipe ρ vs) = zwipe (VEnv.den ps ρ) vs
  | [] => rfl
  | v :: vs => by rw [vwipe, zwipe, den_set, den_wipe ps ρ vs]; rfl

/-! ### cells and the store -/
open V (Cells Exn Res M)
/-- where a def was entered: the handed cells' places, the store -/
structure Gd where
  p : List Addr
  S : Sto
structure Rel (G : Gd) (ps : List Addr) (s : Cells) (S : Sto) : Prop where
  len : ps.length = s.length
  own : ∀ (j : Nat) (c : Cell) (a : Addr), s[j]? = some (some c) → ps[j]? = some a → S a = some c
  inj : ∀ (i j : Nat) (ci cj : Cell) (a : Addr), s[i]? = some (some ci) → s[j]? = some (some cj) → ps[i]? = some a → ps[j]? = some a → i = j
  fr : ∀ (a : Addr) (c : Cell), a ∉ G.p → G.S a = some c → S a = some c
  loc : ∀ (j : Nat) (c : Cell) (a : Addr), s[j]? = some (some c) → ps[j]? = some a → (j < G.p.length ∧ a ∈ G.p) ∨ (G.p.length ≤ j ∧ a ∉ G.p ∧ G.S a = none)
  gp : ∀ a ∈ G.p, S a ≠ none
  par : ps.take G.p.length = G.p
def sat {α : Type} (r : Res α) (Q : α → Cells → Prop) (E : Exn → Cells → Prop) : Prop := match r with
  | .ok a s => Q a s
  | .ex x s => E x s
  | .bad => False
theorem sat_bind {α β : Type} {m : M α} {k : α → M β} {s : Cells} {Q : β → Cells → Prop} {E : Exn → Cells → Prop} (h : sat ((m >>= k) s) Q E) : sat (m s) (fun a s' => sat (k a s') Q E) E := by
  rw [V.bind_def] at h
  unfold sat at *
  cases e : m s with
  | ok a s' => rw [e] at h; exact h
  | ex x s' => rw [e] at h; exact h
  | bad => rw [e] at h; exact h
theorem sat.mono {α : Type} {r : Res α} {Q Q' : α → Cells → Prop} {E E' : Exn → Cells → Prop} (h : sat r Q E) (q : ∀ a s, Q a s → Q' a s) (e : ∀ x s, E x s → E' x s) : sat r Q' E' := by
  unfold sat at *
  cases r with
  | ok a s => exact q _ _ h
  | ex x s => exact e _ _ h
  | bad => exact h
/-- an exception of the plain side -/
def XR (mg : Str → Option Value) (x : Exn) (zx : ZX) : Prop := mg x.name = some (.ref zx.cls) ∧ zx.fs = x.fs
/-- what is asked where an exception leaves -/
abbrev XW := ZX → Sto → Prop
def XOk (mg : Str → Option Value) (G : Gd) (EZ : XW) (x : Exn) (s : Cells) : Prop := ∀ zx ps S, Rel G ps s S → XR mg x zx → EZ zx S
structure Ct where
  X : Cx
  B : Bs
  G : Gd
  EZ : XW
/-- an expression computes what m does -/
def FE (C : Ct) (e : Expr) (ρ : VEnv) (m : M PyData) : Prop := ∀ ps s S (Q : ZQ), Rel C.G ps s S → sat (m s) (fun d s' => ∀ S', Rel C.G ps s' S' → Q (.d d) S') (XOk C.X.mg C.G C.EZ) → WE C.X C.B e (VEnv.den ps ρ) S Q
def FT (C : Ct) (e : Expr) (ρ : VEnv) (m : M Bool) : Prop := ∀ ps s S (Q : Bool → Sto → Prop), Rel C.G ps s S → sat (m s) (fun d s' => ∀ S', Rel C.G ps s' S' → Q d S') (XOk C.X.mg C.G C.EZ) → WT C.X C.B e (VEnv.den ps ρ) S Q
def FW (C : Ct) (e : Expr) (ρ : VEnv) (m : M Bool) : Prop := ∀ ps s S (Q : Bool → Sto → Prop), Rel C.G ps s S → sat (m s) (fun d s' => ∀ S', Rel C.G ps s' S' → Q d S') (XOk C.X.mg C.G C.EZ) → WW C.X C.B e (VEnv.den ps ρ) S Q
/-- several, in a row -/
def WL (X : Cx) (B : Bs) : List Expr → ZA
  | [] => fun ρ S Q => Q [] S
  | e :: es => fun ρ S Q => WE X B e ρ S fun z S1 => WL X B es ρ S1 fun zs S2 => Q (z :: zs) S2
/-- operands, one behind the other; behind them k of what they are; m: what is computed -/
def FL (C : Ct) (es : List Expr) (ρ : VEnv) (acc : List Vl) {β : Type} (m : M β) (k : List Vl → M β) : Prop :=
  ∀ ps s S (Q : List Z → Sto → Prop) (R : β → Cells → Prop), Rel C.G ps s S → sat (m s) R (XOk C.X.mg C.G C.EZ) → (∀ ds s' S', Rel C.G ps s' S' → sat (k (acc ++ ds) s') R (XOk C.X.mg C.G C.EZ) → Q (ds.map (Vl.den ps)) S') → WL C.X C.B es (VEnv.den ps ρ) S Q
section
variable {C : Ct} {e a b : Expr} {es : List Expr} {ρ : VEnv}
theorem fl_nil {β : Type} {acc : List Vl} {m : M β} {k : List Vl → M β} (h : m = k acc := by rfl) : FL C [] ρ acc m k := by
  subst h
  exact fun ps s S Q R r w q => q [] s S r (by rw [List.append_nil]; exact w)
theorem fl_cons {β : Type} {acc : List Vl} {me : M PyData} {m : PyData → M β} {k : List Vl → M β} (he : FE C e ρ me) (hr : ∀ x, FL C es ρ (acc ++ [.d x]) (m x) k) : FL C (e :: es) ρ acc (me >>= m) k := by
  intro ps s S Q R r w q
  refine he ps s S _ r ((sat_bind w).mono (fun x s1 h S1 r1 => ?_) fun _ _ h => h)
  exact hr x ps s1 S1 _ R r1 h fun ds s' S' r' h' => q (.d x :: ds) s' S' r' (by rw [List.append_assoc] at h'; exact h')
/-- .. that is there already -/
theorem fl_at {β : Type} {acc : List Vl} {x : PyData} {m : M β} {k : List Vl → M β} (he : FE C e ρ (pure x)) (hr : FL C es ρ (acc ++ [.d x]) m k) : FL C (e :: es) ρ acc m k := by
  intro ps s S Q R r w q
  refine he ps s S _ r ?_
  intro S1 r1
  exact hr ps s S1 _ R r1 w fun ds s' S' r' h' => q (.d x :: ds) s' S' r' (by rw [List.append_assoc] at h'; exact h')
/-- .. that is changed, that is the script -/
theorem fl_c {β : Type} {acc : List Vl} {m : M β} {k : List Vl → M β} (i : Nat) (v : Vl) {x : Str} {pos : Pos} (hρ : ρ[i]? = some (some v)) (hr : FL C es ρ (acc ++ [v]) m k) (hN : C.X.N[i]? = some x := by rfl) (hv : Vis C.X.env.scope x := by first | exact Or.inl rfl | exact Or.inr (Or.inl rfl) | exact Or.inr (Or.inr rfl)) (hd : (x == ("__debug__" : Str)) = false := by decide)
    (hcd : (x == ("__classdict__" : Str)) = false := by decide) : FL C (.Name x pos :: es) ρ acc m k := by
  intro ps s S Q R r w q
  refine (zv i hN hv hd hcd).we ?_
  show zVar i _ _ _
  unfold zVar
  rw [den_get ps ρ i hρ]
  exact hr ps s S _ R r w fun ds s' S' r' h' => q (v :: ds) s' S' r' (by rw [List.append_assoc] at h'; exact h')
end
theorem ofO_ok {α : Type} {o : Option α} {a : α} {s s' : Cells} (h : V.ofO o s = .ok a s') : o = some a ∧ s' = s := by
  cases o with
  | none => cases h
  | some b => cases h; exact ⟨rfl, rfl⟩
theorem sat_ofO {α : Type} {o : Option α} {s : Cells} {Q : α → Cells → Prop} {E : Exn → Cells → Prop} (h : sat (V.ofO o s) Q E) : ∃ a, o = some a ∧ Q a s := by
  cases o with
  | none => exact h.elim
  | some b => exact ⟨b, rfl, h⟩
theorem sat_getC {s : Cells} {j : Nat} {Q : List PyData → Cells → Prop} {E : Exn → Cells → Prop} (h : sat (V.getC j s) Q E) : ∃ xs, s[j]? = some (some (.lst xs)) ∧ Q xs s := by
  unfold V.getC at h
  split at h
  · rename_i xs e; exact ⟨xs, e, h⟩
  · exact h.elim
theorem Rel.at {G : Gd} {ps : List Addr} {s : Cells} {S : Sto} (r : Rel G ps s S) {j : Nat} {c : Cell} (h : s[j]? = some (some c)) : ps[j]? = some (ps.getD j 0) ∧ S (ps.getD j 0) = some c := by
  have hj : j < ps.length := by rw [r.len]; exact (List.getElem?_eq_some_iff.mp h).1
  have e : ps[j]? = some (ps.getD j 0) := by simp [hj]
  exact ⟨e, r.own j c _ h e⟩
end ZL

namespace V
open PySem PySem.Spec ZL L2
/-! what Python's operations compute -/
def addO : PyData → PyData → Option PyData
  | .int i, .int j => some (.int (i + j))
  | .str i, .str j => if i.length + j.length ≤ line then some (.str (i ++ j)) else none
  | .tuple i, .tuple j => if i.length + j.length ≤ line then some (.tuple (i ++ j)) else none
  | .list i, .list j => if i.length + j.length ≤ line then some (.list (i ++ j)) else none
  | _, _ => none
def subO : PyData → PyData → Option PyData
  | .int i, .int j => some (.int (i - j))
  | _, _ => none
def mulOk (i j : Int) : Bool := decide (i.natAbs.log2 + j.natAbs.log2 + 2 ≤ 134217728)
def mulO : PyData → PyData → Option PyData
  | .int i, .int j => if mulOk i j then some (.int (i * j)) else none
  | _, _ => none
def divOk (j : Int) : Bool := decide (j ≠ 0) && decide (j.natAbs.log2 < 9000)
def fdivO : PyData → PyData → Option PyData
  | .int i, .int j => if divOk j then some (.int (i.fdiv j)) else none
  | _, _ => none
def modO : PyData → PyData → Option PyData
  | .int i, .int j => if 0 < j then some (.int (i % j)) else none
  | _, _ => none
def powOk (i j : Int) : Bool := decide (0 ≤ j) && decide (j ≤ 1000000) && decide (i.natAbs < 2 ^ 64)
def powO : PyData → PyData → Option PyData
  | .int i, .int j => if powOk i j then some (.int (i ^ j.toNat)) else none
  | _, _ => none
def negO : PyData → Option PyData
  | .int i => some (.int (-i))
  | _ => none
def ltO : PyData → PyData → Option Bool
  | .int i, .int j => some (decide (i < j))
  | _, _ => none
def leO : PyData → PyData → Option Bool
  | .int i, .int j => some (decide (i ≤ j))
  | _, _ => none
def gtO : PyData → PyData → Option Bool
  | .int i, .int j => some (decide (j < i))
  | _, _ => none
def geO : PyData → PyData → Option Bool
  | .int i, .int j => some (decide (j ≤ i))
  | _, _ => none
def eqO : PyData → PyData → Option Bool
  | .int i, .int j => some (decide (i = j))
  | .str i, .str j => some (decide (i = j))
  | a, b => if SeqAt.shaped a && SeqAt.shaped b then some (PyData.eqv a b) else none
def neO : PyData → PyData → Option Bool
  | .int i, .int j => some (!decide (i = j))
  | .str i, .str j => some (!decide (i = j))
  | a, b => if SeqAt.shaped a && SeqAt.shaped b then some (!PyData.eqv a b) else none
def rowD : PyData → Option (List PyData)
  | .list xs => some xs
  | .tuple xs => some xs
  | _ => none
def ixO : PyData → PyData → Option PyData
  | .list xs, .int i => atI xs i
  | .tuple xs, .int i => atI xs i
  | _, _ => none
def lenO : PyData → Option PyData
  | .str x => if x.length ≤ line then some (.int x.length) else none
  | .list xs => some (.int xs.length)
  | .tuple xs => some (.int xs.length)
  | _ => none
def isO (T : Ty7) (d : PyData) : PyData := .bool (isD T d)
def reprOk (d : PyData) : Bool := d.showable && decide (d.depth ≤ 100) && (!d.hasDict || lfree d) && decide (d.shown.length ≤ line)
def reprO (d : PyData) : Option PyData := if reprOk d then some (.str d.shown) else none
def allO : PyData → Option PyData
  | .list xs => (boolsZ xs).map fun bs => .bool (bs.all fun b => b)
  | _ => none
def anyO : PyData → Option PyData
  | .list xs => (boolsZ xs).map fun bs => .bool (bs.any fun b => b)
  | _ => none
def sumO : PyData → Option PyData
  | .list xs => (intsZ xs).map fun bs => .int bs.sum
  | _ => none
def intO : PyData → Option PyData
  | .int i => some (.int i)
  | .bool b => some (.int (if b then 1 else 0))
  | _ => none
def absO : PyData → Option PyData
  | .int i => some (.int (absI i))
  | _ => none
def maxO : PyData → PyData → Option PyData
  | .int i, .int j => some (.int (maxI i j))
  | _, _ => none
def minO : PyData → PyData → Option PyData
  | .int i, .int j => some (.int (minI i j))
  | _, _ => none
def tupleO (x : PyData) : Option PyData := (rowD x).map .tuple
def listO (x : PyData) : Option PyData := (rowD x).map .list
def sliceO (x : PyData) (lo hi : Option Int) : Option PyData := match x with
  | .list xs => some (.list (cutD xs lo hi))
  | .tuple xs => some (.tuple (cutD xs lo hi))
  | _ => none
def revO : PyData → Option PyData
  | .tuple xs => some (.tuple xs.reverse)
  | _ => none
def toB : PyData → M Bool
  | .bool b => pure b
  | _ => bad
def ofB (m : M Bool) : M PyData := m >>= fun b => pure (.bool b)
abbrev addM (x y : PyData) : M PyData := ofO (addO x y)
abbrev subM (x y : PyData) : M PyData := ofO (subO x y)
abbrev mulM (x y : PyData) : M PyData := ofO (mulO x y)
abbrev fdivM (x y : PyData) : M PyData := ofO (fdivO x y)
abbrev modM (x y : PyData) : M PyData := ofO (modO x y)
abbrev powM (x y : PyData) : M PyData := ofO (powO x y)
abbrev negM (x : PyData) : M PyData := ofO (negO x)
abbrev ltM (x y : PyData) : M Bool := ofO (ltO x y)
abbrev leM (x y : PyData) : M Bool := ofO (leO x y)
abbrev gtM (x y : PyData) : M Bool := ofO (gtO x y)
abbrev geM (x y : PyData) : M Bool := ofO (geO x y)
abbrev eqM (x y : PyData) : M Bool := ofO (eqO x y)
abbrev neM (x y : PyData) : M Bool := ofO (neO x y)
abbrev ixM (x y : PyData) : M PyData := ofO (ixO x y)
abbrev lenM (x : PyData) : M PyData := ofO (lenO x)
abbrev reprM (x : PyData) : M PyData := ofO (reprO x)
abbrev allM (x : PyData) : M PyData := ofO (allO x)
abbrev anyM (x : PyData) : M PyData := ofO (anyO x)
abbrev sumM (x : PyData) : M PyData := ofO (sumO x)
abbrev intM (x : PyData) : M PyData := ofO (intO x)
abbrev absM (x : PyData) : M PyData := ofO (absO x)
abbrev maxM (x y : PyData) : M PyData := ofO (maxO x y)
abbrev minM (x y : PyData) : M PyData := ofO (minO x y)
abbrev tupleM (x : PyData) : M PyData := ofO (tupleO x)
abbrev listM (x : PyData) : M PyData := ofO (listO x)
abbrev revM (x : PyData) : M PyData := ofO (revO x)
def ptO : Option PyData → Option (Option Int)
  | none => some none
  | some (.int i) => some (some i)
  | _ => none
def sliceM (x : PyData) (lo hi : Option PyData) : M PyData := ofO ((ptO lo).bind fun l => (ptO hi).bind fun h => sliceO x l h)
/-! operand lists -/
def bi2 {β : Type} (g : PyData → PyData → M β) : List Vl → M β
  | [.d x, .d y] => g x y
  | _ => bad
def un {β : Type} (g : PyData → M β) : List Vl → M β
  | [.d x] => g x
  | _ => bad
def row1 {β : Type} (g : PyData → M β) : List Vl → M β
  | [.d x] => g x
  | [.c j] => getC j >>= fun xs => g (.list xs)
  | [.k xs] => g (.list xs)
  | _ => bad
def row2 {β : Type} (g : PyData → PyData → M β) : List Vl → M β
  | [.d x, .d y] => g x y
  | [.c j, .d y] => getC j >>= fun xs => g (.list xs) y
  | [.k xs, .d y] => g (.list xs) y
  | _ => bad
def datV : List Vl → Option (List PyData)
  | [] => some []
  | .d x :: r => (datV r).map (x :: ·)
  | _ :: _ => none
def tupK (l : List Vl) : M PyData := match datV l with
  | some ds => if ds.length ≤ line then pure (.tuple ds) else bad
  | none => bad
def lstK (l : List Vl) : M PyData := match datV l with
  | some ds => if ds.length ≤ line then pure (.list ds) else bad
  | none => bad
def tNot (m : M Bool) : M Bool := m >>= fun b => pure (!b)
def tAnd (m n : M Bool) : M Bool := m >>= fun b => bif b then n else pure false
def tOr (m n : M Bool) : M Bool := m >>= fun b => bif b then pure true else n
end V
namespace ZL
open PySem PySem.Spec PyProof.Rows L2 V
theorem line_eq : V.line = sizeLine := by rw [sizeLine_eq]; rfl
theorem mulOk_ok {i j : Int} (h : mulOk i j = true) : MulOk i j := by
  have h := of_decide_eq_true h
  unfold MulOk
  refine IntMulOk.of_le (a := i) (b := j) (bits_le (n := i.natAbs.log2 + 1) ?_) (bits_le (n := j.natAbs.log2 + 1) ?_) (by omega)
  · exact Nat.lt_log2_self
  · exact Nat.lt_log2_self
theorem divOk_ok {i j : Int} (h : divOk j = true) : DivOk i j := by
  unfold divOk at h
  simp only [Bool.and_eq_true, decide_eq_true_eq] at h
  exact h
theorem powOk_ok {i j : Int} (h : powOk i j = true) : PowOk i j := by
  unfold powOk at h
  simp only [Bool.and_eq_true, decide_eq_true_eq] at h
  exact ⟨h.1.1, h.1.2, h.2⟩
/-- an operation's values, told by g -/
def Op2 (r : ZR2) (g : PyData → PyData → Option PyData) : Prop := ∀ x y d S Q, g x y = some d → Q (.d d) S → r (.d x) (.d y) S Q
def Op2b (r : ZR2) (g : PyData → PyData → Option Bool) : Prop := ∀ x y d S Q, g x y = some d → Q (.d (.bool d)) S → r (.d x) (.d y) S Q
theorem o_add : Op2 rZPlus addO := by
  intro x y d S Q h q
  unfold addO at h
  split at h
  · cases h; exact q
  · split at h <;> cases h; rename_i h; rw [line_eq] at h; exact ⟨h, q⟩
  · split at h <;> cases h; rename_i h; rw [line_eq] at h; exact ⟨h, q⟩
  · split at h <;> cases h; rename_i h; rw [line_eq] at h; exact ⟨h, q⟩
  · cases h
theorem o_sub : Op2 (rZ0 fun i j => zi (i - j)) subO := by
  intro x y d S Q h q
  unfold subO at h
  split at h <;> cases h
  exact q
theorem o_mul : Op2 rZMul mulO := by
  intro x y d S Q h q
  unfold mulO at h
  split at h
  · split at h <;> cases h; rename_i h; exact ⟨mulOk_ok h, q⟩
  · cases h
theorem o_fdiv : Op2 (rZI DivOk fun i j => zi (i.fdiv j)) fdivO := by
  intro x y d S Q h q
  unfold fdivO at h
  split at h
  · split at h <;> cases h; rename_i h; exact ⟨divOk_ok h, q⟩
  · cases h
theorem o_mod : Op2 (rZI (fun _ j => 0 < j) fun i j => zi (i % j)) modO := by
  intro x y d S Q h q
  unfold modO at h
  split at h
  · split at h <;> cases h; rename_i h; exact ⟨h, q⟩
  · cases h
theorem o_pow : Op2 (rZI PowOk fun i j => zi (i ^ j.toNat)) powO := by
  intro x y d S Q h q
  unfold powO at h
  split at h
  · split at h <;> cases h; rename_i h; exact ⟨powOk_ok h, q⟩
  · cases h
theorem o_lt : Op2b (rZ0 fun i j => zb (decide (i < j))) ltO := by
  intro x y d S Q h q
  unfold ltO at h
  split at h <;> cases h
  exact q
theorem o_le : Op2b (rZ0 fun i j => zb (decide (i ≤ j))) leO := by
  intro x y d S Q h q
  unfold leO at h
  split at h <;> cases h
  exact q
theorem o_gt : Op2b (rZ0 fun i j => zb (decide (j < i))) gtO := by
  intro x y d S Q h q
  unfold gtO at h
  split at h <;> cases h
  exact q
theorem o_ge : Op2b (rZ0 fun i j => zb (decide (j ≤ i))) geO := by
  intro x y d S Q h q
  unfold geO at h
  split at h <;> cases h
  exact q
theorem o_eq : Op2b rZEq eqO := by
  intro x y d S Q h q
  unfold eqO at h
  split at h
  · cases h; exact q
  · cases h; exact q
  · rename_i n1 n2
    split at h <;> cases h
    rename_i h
    simp only [Bool.and_eq_true] at h
    unfold rZEq
    split
    · rename_i e1 e2; cases e1; cases e2; exact (n1 _ _ rfl rfl).elim
    · rename_i e1 e2; cases e1; cases e2; exact (n2 _ _ rfl rfl).elim
    · rename_i e1 e2; cases e1; cases e2; exact ⟨h, q⟩
    · rename_i k; exact (k _ _ rfl rfl).elim
theorem o_ne : Op2b rZNe neO := by
  intro x y d S Q h q
  unfold neO at h
  split at h
  · cases h; exact q
  · cases h; exact q
  · rename_i n1 n2
    split at h <;> cases h
    rename_i h
    simp only [Bool.and_eq_true] at h
    unfold rZNe
    split
    · rename_i e1 e2; cases e1; cases e2; exact (n1 _ _ rfl rfl).elim
    · rename_i e1 e2; cases e1; cases e2; exact (n2 _ _ rfl rfl).elim
    · rename_i e1 e2; cases e1; cases e2; exact ⟨h, q⟩
    · rename_i k; exact (k _ _ rfl rfl).elim
section
variable {C : Ct} {e a b c : Expr} {es : List Expr} {ρ : VEnv} {pos : Pos}
/-! names and constants -/
theorem f_v (i : Nat) {x : Str} {d : PyData} (hρ : ρ[i]? = some (some (.d d)) := by rfl) (hN : C.X.N[i]? = some x := by rfl) (hv : Vis C.X.env.scope x := by first | exact Or.inl rfl | exact Or.inr (Or.inl rfl) | exact Or.inr (Or.inr rfl)) (hd : (x == ("__debug__" : Str)) = false := by decide)
    (hcd : (x == ("__classdict__" : Str)) = false := by decide) : FE C (.Name x pos) ρ (pure d) := by
  intro ps s S Q r w
  refine (zv i hN hv hd hcd).we ?_
  show zVar i _ _ _
  unfold zVar
  rw [den_get ps ρ i hρ]
  exact w S r
theorem f_of {d : PyData} (h : ZE C.X C.B e (zC (.d d))) : FE C e ρ (pure d) := fun ps s S Q r w => h.we (w S r)
theorem f_int {i j pos} : FE C (.Constant (.int i) j pos) ρ (pure (.int i)) := f_of ze_int
theorem f_bl {i j pos} : FE C (.Constant (.bool i) j pos) ρ (pure (.bool i)) := f_of ze_bl
theorem f_non {j pos} : FE C (.Constant .none j pos) ρ (pure .none) := f_of ze_non
theorem f_str {x j pos} : FE C (.Constant (.str x) j pos) ρ (pure (.str x)) := f_of ze_str
/-! operations -/
theorem fl_two {β : Type} {m : M β} {g : PyData → PyData → M β} (h : FL C [a, b] ρ [] m (bi2 g)) {ps : List Addr} {s : Cells} {S : Sto} {Q : Z → Z → Sto → Prop} {R : β → Cells → Prop} (r : Rel C.G ps s S) (w : sat (m s) R (XOk C.X.mg C.G C.EZ))
    (q : ∀ x y s' S', Rel C.G ps s' S' → sat (g x y s') R (XOk C.X.mg C.G C.EZ) → Q (.d x) (.d y) S') : WE C.X C.B a (VEnv.den ps ρ) S fun x S1 => WE C.X C.B b (VEnv.den ps ρ) S1 fun y S2 => Q x y S2 := by
  have := h ps s S (fun zs S' => match zs with | [x, y] => Q x y S' | _ => True) R r w fun ds s' S' r' w' => by
    rw [List.nil_append] at w'
    unfold bi2 at w'
    split at w'
    · exact q _ _ s' S' r' w'
    · exact w'.elim
  exact this
theorem f_bin {op : Operator} {rr : ZR2} {g : PyData → PyData → Option PyData} {m : M PyData} (ho : ZOp C.X (binaryOp op) rr) (hg : Op2 rr g) (h : FL C [a, b] ρ [] m (bi2 fun x y => ofO (g x y))) : FE C (.BinOp a op b pos) ρ m := by
  intro ps s S Q r w
  refine (ze_op ho we_ze we_ze).we ?_
  refine fl_two h r w fun x y s' S' r' w' => ?_
  obtain ⟨d, e, q⟩ := sat_ofO w'
  exact hg x y d S' Q e (q S' r')
theorem f_add {m : M PyData} (h : FL C [a, b] ρ [] m (bi2 addM)) : FE C (.BinOp a .Add b pos) ρ m := f_bin zplus o_add h
theorem f_sub {m : M PyData} (h : FL C [a, b] ρ [] m (bi2 subM)) : FE C (.BinOp a .Sub b pos) ρ m := f_bin zsub o_sub h
theorem f_mul {m : M PyData} (h : FL C [a, b] ρ [] m (bi2 mulM)) : FE C (.BinOp a .Mult b pos) ρ m := f_bin zmul o_mul h
theorem f_fdiv {m : M PyData} (h : FL C [a, b] ρ [] m (bi2 fdivM)) : FE C (.BinOp a .FloorDiv b pos) ρ m := f_bin zfdiv o_fdiv h
theorem f_mod {m : M PyData} (h : FL C [a, b] ρ [] m (bi2 modM)) : FE C (.BinOp a .Mod b pos) ρ m := f_bin zmod o_mod h
theorem f_pow {m : M PyData} (h : FL C [a, b] ρ [] m (bi2 powM)) : FE C (.BinOp a .Pow b pos) ρ m := f_bin zpow o_pow h
theorem t_cmp {op : CmpOp} {rr : ZR2} {g : PyData → PyData → Option Bool} {m : M Bool} (ho : ZOp C.X (compareOp op) rr) (hg : Op2b rr g) (h : FL C [a, b] ρ [] m (bi2 fun x y => ofO (g x y))) (hm : behindInMarks op b = false := by first | rfl | exact nomark _) : FT C (.Compare a [op] [b] pos) ρ m := by
  intro ps s S Q r w
  refine (zt_cmp ho we_ze we_ze hm).we ?_
  refine fl_two h r w fun x y s' S' r' w' => ?_
  obtain ⟨d, e, q⟩ := sat_ofO w'
  exact hg x y d S' _ e (q S' r')
theorem f_cmp {op : CmpOp} {rr : ZR2} {g : PyData → PyData → Option Bool} {m : M Bool} (ho : ZOp C.X (compareOp op) rr) (hg : Op2b rr g) (h : FL C [a, b] ρ [] m (bi2 fun x y => ofO (g x y))) (hm : behindInMarks op b = false := by first | rfl | exact nomark _) : FE C (.Compare a [op] [b] pos) ρ (ofB m) := by
  intro ps s S Q r w
  refine (ze_cmp ho we_ze we_ze hm).we ?_
  refine fl_two h r (sat_bind w) fun x y s' S' r' w' => ?_
  obtain ⟨d, e, q⟩ := sat_ofO w'
  exact hg x y d S' _ e (q S' r')
/-! truths -/
theorem t_val {m : M PyData} (h : FE C e ρ m) (he : ∀ whole, isTrue e C.X.env whole = (do let v ← whole; standAt e.pos; holding [v] (truthy v)) := by intro _; rfl) : FT C e ρ (m >>= toB) := by
  intro ps s S Q r w
  refine (zt_val we_ze he).we ?_
  refine h ps s S _ r ((sat_bind w).mono (fun d s' h S' r' => ?_) fun _ _ h => h)
  cases d with
  | bool b => exact h S' r'
  | _ => exact h.elim
theorem t_not {m : M Bool} (h : FT C a ρ m) : FT C (.UnaryOp .Not a pos) ρ (tNot m) := by
  intro ps s S Q r w
  refine (zt_not wt_zt).we ?_
  exact h ps s S _ r ((sat_bind w).mono (fun d s' h S' r' => h S' r') fun _ _ h => h)
variable {rest : List Expr} {ma mb : M Bool}
theorem w_and1 (h : FT C a ρ ma) : FW C (.BoolOp .And [a] pos) ρ ma := fun ps s S Q r w => (zw_and1 wt_zt).we (h ps s S _ r w)
theorem w_or1 (h : FT C a ρ ma) : FW C (.BoolOp .Or [a] pos) ρ ma := fun ps s S Q r w => (zw_or1 wt_zt).we (h ps s S _ r w)
theorem w_and (h : FT C a ρ ma) (h2 : FW C (.BoolOp .And (b :: rest) pos) ρ mb) : FW C (.BoolOp .And (a :: b :: rest) pos) ρ (tAnd ma mb) := by
  intro ps s S Q r w
  refine (zw_and wt_zt ww_zw).we ?_
  refine h ps s S _ r ((sat_bind w).mono (fun d s' w' S' r' => ?_) fun _ _ h => h)
  cases d with
  | true => exact h2 ps s' S' _ r' w'
  | false => exact w' S' r'
theorem w_or (h : FT C a ρ ma) (h2 : FW C (.BoolOp .Or (b :: rest) pos) ρ mb) : FW C (.BoolOp .Or (a :: b :: rest) pos) ρ (tOr ma mb) := by
  intro ps s S Q r w
  refine (zw_or wt_zt ww_zw).we ?_
  refine h ps s S _ r ((sat_bind w).mono (fun d s' w' S' r' => ?_) fun _ _ h => h)
  cases d with
  | true => exact w' S' r'
  | false => exact h2 ps s' S' _ r' w'
theorem FW.t (h : FW C a ρ ma) : FT C a ρ ma := fun ps s S Q r w => (ww_zw.t).we (h ps s S _ r w)
/-! .. as values -/
def oneV (m : M Bool) : M PyData := ofB m
theorem f_one {op} {m : M PyData} (h : FE C a ρ m) : FE C (.BoolOp op [a] pos) ρ m := fun ps s S Q r w => (ze_one we_ze).we (h ps s S _ r w)
def andV (m n : M PyData) : M PyData := m >>= fun x => toB x >>= fun b => bif b then n else pure (.bool false)
def orV (m n : M PyData) : M PyData := m >>= fun x => toB x >>= fun b => bif b then pure (.bool true) else n
variable {na nb : M PyData}
theorem f_and (h : FE C a ρ na) (h2 : FE C (.BoolOp .And (b :: rest) pos) ρ nb) : FE C (.BoolOp .And (a :: b :: rest) pos) ρ (andV na nb) := by
  intro ps s S Q r w
  refine (ze_and we_ze we_ze).we ?_
  refine h ps s S _ r ((sat_bind w).mono (fun d s' w' S' r' => ?_) fun _ _ h => h)
  cases d with
  | bool b =>
    cases b with
    | true => exact h2 ps s' S' _ r' w'
    | false => exact w' S' r'
  | _ => exact w'.elim
theorem f_or (h : FE C a ρ na) (h2 : FE C (.BoolOp .Or (b :: rest) pos) ρ nb) : FE C (.BoolOp .Or (a :: b :: rest) pos) ρ (orV na nb) := by
  intro ps s S Q r w
  refine (ze_or we_ze we_ze).we ?_
  refine h ps s S _ r ((sat_bind w).mono (fun d s' w' S' r' => ?_) fun _ _ h => h)
  cases d with
  | bool b =>
    cases b with
    | true => exact w' S' r'
    | false => exact h2 ps s' S' _ r' w'
  | _ => exact w'.elim
def notV (m : M PyData) : M PyData := m >>= fun x => toB x >>= fun b => pure (.bool (!b))
theorem f_not (h : FE C a ρ na) : FE C (.UnaryOp .Not a pos) ρ (notV na) := by
  intro ps s S Q r w
  refine (ze_not we_ze).we ?_
  refine h ps s S _ r ((sat_bind w).mono (fun d s' w' S' r' => ?_) fun _ _ h => h)
  cases d with
  | bool b => exact w' S' r'
  | _ => exact w'.elim
theorem f_if (hc : FT C c ρ ma) (h : FE C a ρ na) (h2 : FE C b ρ nb) : FE C (.IfExp c a b pos) ρ (ma >>= fun t => bif t then na else nb) := by
  intro ps s S Q r w
  refine (ze_if wt_zt we_ze we_ze).we ?_
  refine hc ps s S _ r ((sat_bind w).mono (fun d s' w' S' r' => ?_) fun _ _ h => h)
  cases d with
  | true => exact h ps s' S' _ r' w'
  | false => exact h2 ps s' S' _ r' w'
theorem f_neg (h : FL C [a] ρ [] na (un negM)) : FE C (.UnaryOp .USub a pos) ρ na := by
  intro ps s S Q r w
  refine (ze_neg we_ze).we ?_
  have := h ps s S (fun zs S' => match zs with | [x] => (match x with | .d (.int i) => Q (zi (-i)) S' | _ => False) | _ => True) _ r w fun ds s' S' r' w' => by
    rw [List.nil_append] at w'
    unfold un at w'
    split at w'
    · obtain ⟨d, e, q⟩ := sat_ofO w'
      unfold negO at e
      split at e <;> cases e
      exact q S' r'
    · exact w'.elim
  exact this
/-! rows' places -/
theorem ixO_int {x y d : PyData} (e : ixO x y = some d) : ∃ i, y = .int i := by
  unfold ixO at e
  split at e
  · exact ⟨_, rfl⟩
  · exact ⟨_, rfl⟩
  · cases e
theorem f_ix (h : FL C [a, b] ρ [] na (row2 ixM)) (hs : PlainIx b := by intro _ _; rfl) : FE C (.Subscript a b pos) ρ na := by
  intro ps s S Q r w
  refine (ze_ix we_ze we_ze hs).we ?_
  have := h ps s S (fun zs S' => match zs with | [x, y] => rZIx x y S' Q | _ => True) _ r w fun ds s' S' r' w' => by
    rw [List.nil_append] at w'
    unfold row2 at w'
    split at w'
    · obtain ⟨d, e, q⟩ := sat_ofO w'
      unfold ixO at e
      split at e
      · show rZIx _ _ _ _; unfold rZIx; simp only [Vl.den, rowZ]; rw [e]; exact q S' r'
      · show rZIx _ _ _ _; unfold rZIx; simp only [Vl.den, rowZ]; rw [e]; exact q S' r'
      · cases e
    · obtain ⟨xs, ex, w'⟩ := sat_getC (sat_bind w')
      obtain ⟨d, e, q⟩ := sat_ofO w'
      obtain ⟨i, rfl⟩ := ixO_int e
      have e : atI xs i = some d := e
      have o := (r'.at ex).2
      show rZIx _ _ _ _; unfold rZIx; simp only [Vl.den, rowZ]; rw [o]; simp only []; rw [e]; exact q S' r'
    · obtain ⟨d, e, q⟩ := sat_ofO w'
      obtain ⟨i, rfl⟩ := ixO_int e
      rename_i _ xs
      have e : atI xs i = some d := e
      show rZIx _ _ _ _; unfold rZIx; simp only [Vl.den, rowZ]; rw [e]; exact q S' r'
    · exact w'.elim
  exact this
end
end ZL

namespace V
open PySem PySem.Spec ZL L2
/-! patterns -/
abbrev pN : PyData → Option PyData := some
def pT2 {α β : Type} (p : PyData → Option α) (q : PyData → Option β) : PyData → Option (α × β)
  | .tuple [x, y] => (p x).bind fun a => (q y).bind fun b => some (a, b)
  | _ => none
def pT3 {α β γ : Type} (p : PyData → Option α) (q : PyData → Option β) (r : PyData → Option γ) : PyData → Option (α × β × γ)
  | .tuple [x, y, z] => (p x).bind fun a => (q y).bind fun b => (r z).bind fun c => some (a, b, c)
  | _ => none
def pT4 {α β γ δ : Type} (p : PyData → Option α) (q : PyData → Option β) (r : PyData → Option γ) (u : PyData → Option δ) : PyData → Option (α × β × γ × δ)
  | .tuple [x, y, z, w] => (p x).bind fun a => (q y).bind fun b => (r z).bind fun c => (u w).bind fun d => some (a, b, c, d)
  | _ => none
def compP {T : Type} (mt : PyData → Option T) (c : T → M Bool) (f : T → M PyData) : List PyData → M (List PyData)
  | [] => pure []
  | x :: r => ofO (mt x) >>= fun t => c t >>= fun b => bif b then (f t >>= fun y => compP mt c f r >>= fun ys => pure (y :: ys)) else compP mt c f r
def comp {T : Type} (mt : PyData → Option T) (c : T → M Bool) (f : T → M PyData) (xs : List PyData) : M (List PyData) := noex (if xs.length ≤ line then compP mt c f xs else bad)
abbrev yep {T : Type} : T → M Bool := fun _ => pure true
def setl (ρ : VEnv) (l : List (Nat × PyData)) : VEnv := l.foldl (fun ρ p => ρ.set p.1 (some (.d p.2))) ρ
def setz (ρ : ZEnv) (l : List (Nat × PyData)) : ZEnv := l.foldl (fun ρ p => ρ.set p.1 (some (.d p.2))) ρ
theorem den_setl (ps : List Addr) : ∀ (l : List (Nat × PyData)) (ρ : VEnv), VEnv.den ps (setl ρ l) = setz (VEnv.den ps ρ) l
  | [], _ => rfl
  | p :: l, ρ => by
    show VEnv.den ps (setl (ρ.set p.1 (some (.d p.2))) l) = setz ((VEnv.den ps ρ).set p.1 (some (.d p.2))) l
    rw [den_setl ps l, den_set]; rfl
theorem fg_setz : ∀ (l : List (Nat × PyData)) {a b : ZEnv}, Fgz a b → Fgz (setz a l) (setz b l)
  | [], _, _, h => h
  | p :: l, a, b, h => fg_setz l (h.set p.1 _)
/-! what is walked -/
def rangeO : PyData → PyData → Option (List PyData)
  | .int i, .int j => if decide (-(2 ^ 62) ≤ i) && decide (i < 2 ^ 62) && decide (-(2 ^ 62) ≤ j) && decide (j < 2 ^ 62) then some (rangeD i (j - i).toNat) else none
  | _, _ => none
abbrev rangeM (x y : PyData) : M (List PyData) := ofO (rangeO x y)
theorem rangeO_inv {x y : PyData} {xs : List PyData} (h : rangeO x y = some xs) : ∃ i j, x = .int i ∧ y = .int j ∧ (-(2 ^ 62) ≤ i ∧ i < 2 ^ 62) ∧ (-(2 ^ 62) ≤ j ∧ j < 2 ^ 62) ∧ xs = rangeD i (j - i).toNat := by
  unfold rangeO at h
  split at h
  · split at h
    · rename_i i j h1
      simp only [Bool.and_eq_true, decide_eq_true_eq] at h1
      cases h
      exact ⟨i, j, rfl, rfl, ⟨h1.1.1.1, h1.1.1.2⟩, ⟨h1.1.2, h1.2⟩, rfl⟩
    · cases h
  · cases h
abbrev rowM (x : PyData) : M (List PyData) := ofO (rowD x)
end V
namespace ZL
open PySem PySem.Spec PyProof.Rows L2 V
/-- operands of a call -/
def FA (C : Ct) (es : List Expr) (ρ : VEnv) (acc : List Vl) {β : Type} (m : M β) (k : List Vl → M β) : Prop :=
  ∀ ps s S (Q : List Z → Sto → Prop) (R : β → Cells → Prop), Rel C.G ps s S → sat (m s) R (XOk C.X.mg C.G C.EZ) → (∀ ds s' S', Rel C.G ps s' S' → sat (k (acc ++ ds) s') R (XOk C.X.mg C.G C.EZ) → Q (ds.map (Vl.den ps)) S') → WAs C.X C.B es (VEnv.den ps ρ) S Q
section
variable {C : Ct} {e a b c : Expr} {es : List Expr} {ρ : VEnv} {pos : Pos}
theorem fa_nil {β : Type} {acc : List Vl} {m : M β} {k : List Vl → M β} (h : m = k acc := by rfl) : FA C [] ρ acc m k := by
  subst h
  exact fun ps s S Q R r w q => za_nil.we (q [] s S r (by rw [List.append_nil]; exact w))
theorem fa_cons {β : Type} {acc : List Vl} {me : M PyData} {m : PyData → M β} {k : List Vl → M β} (he : FE C e ρ me) (hr : ∀ x, FA C es ρ (acc ++ [.d x]) (m x) k) (hs : starEach (e :: es) C.X.env = (false, eval e C.X.env) :: starEach es C.X.env := by rfl) : FA C (e :: es) ρ acc (me >>= m) k := by
  intro ps s S Q R r w q
  refine (za_cons we_ze wa_za hs).we ?_
  refine he ps s S _ r ((sat_bind w).mono (fun x s1 h S1 r1 => ?_) fun _ _ h => h)
  exact hr x ps s1 S1 _ R r1 h fun ds s' S' r' h' => q (.d x :: ds) s' S' r' (by rw [List.append_assoc] at h'; exact h')
theorem fa_at {β : Type} {acc : List Vl} {x : PyData} {m : M β} {k : List Vl → M β} (he : FE C e ρ (pure x)) (hr : FA C es ρ (acc ++ [.d x]) m k) (hs : starEach (e :: es) C.X.env = (false, eval e C.X.env) :: starEach es C.X.env := by rfl) : FA C (e :: es) ρ acc m k := by
  intro ps s S Q R r w q
  refine (za_cons we_ze wa_za hs).we ?_
  refine he ps s S _ r ?_
  intro S1 r1
  exact hr ps s S1 _ R r1 w fun ds s' S' r' h' => q (.d x :: ds) s' S' r' (by rw [List.append_assoc] at h'; exact h')
theorem fa_c {β : Type} {acc : List Vl} {m : M β} {k : List Vl → M β} (i : Nat) (v : Vl) {x : Str} {pos : Pos} (hr : FA C es ρ (acc ++ [v]) m k) (hρ : ρ[i]? = some (some v) := by rfl) (hs : starEach (.Name x pos :: es) C.X.env = (false, eval (.Name x pos) C.X.env) :: starEach es C.X.env := by rfl) (hN : C.X.N[i]? = some x := by rfl) (hv : Vis C.X.env.scope x := by first | exact Or.inl rfl | exact Or.inr (Or.inl rfl) | exact Or.inr (Or.inr rfl)) (hd : (x == ("__debug__" : Str)) = false := by decide)
    (hcd : (x == ("__classdict__" : Str)) = false := by decide) : FA C (.Name x pos :: es) ρ acc m k := by
  intro ps s S Q R r w q
  refine (za_cons we_ze wa_za hs).we ?_
  refine (zv i hN hv hd hcd).we ?_
  show zVar i _ _ _
  unfold zVar
  rw [den_get ps ρ i hρ]
  exact hr ps s S _ R r w fun ds s' S' r' h' => q (v :: ds) s' S' r' (by rw [List.append_assoc] at h'; exact h')
/-! displays -/
theorem datas_map {ps : List Addr} : ∀ {l : List Vl} {ds : List PyData}, datV l = some ds → datas (l.map (Vl.den ps)) = some ds
  | [], _, e => e
  | .d x :: r, ds, e => by
    simp only [datV, Option.map_eq_some_iff] at e
    obtain ⟨es, e1, e2⟩ := e
    show (datas (r.map (Vl.den ps))).map (x :: ·) = some ds
    rw [datas_map e1]
    exact congrArg some e2
  | .c _ :: _, _, e => by simp [datV] at e
  | .k _ :: _, _, e => by simp [datV] at e
theorem sat_if {α : Type} {b : Prop} [Decidable b] {a : α} {s : Cells} {Q : α → Cells → Prop} {E : Exn → Cells → Prop} (h : sat ((if b then (pure a : M α) else bad) s) Q E) : b ∧ Q a s := by
  split at h
  · rename_i hb; exact ⟨hb, h⟩
  · exact h.elim
theorem f_tup {x1} {m : M PyData} (h : FA C es ρ [] m tupK) : FE C (.Tuple es x1 pos) ρ m := by
  intro ps s S Q r w
  refine (ze_tup wa_za).we ?_
  refine h ps s S _ _ r w fun ds s' S' r' w' => ?_
  rw [List.nil_append] at w'
  unfold tupK at w'
  cases e : datV ds with
  | none => rw [e] at w'; exact w'.elim
  | some xs =>
    rw [e] at w'
    obtain ⟨hz, q⟩ := sat_if w'
    rw [datas_map e]
    exact ⟨by rw [← line_eq]; exact hz, q S' r'⟩
theorem f_lst {m : M PyData} (h : FA C es ρ [] m lstK) : FE C (.List es pos) ρ m := by
  intro ps s S Q r w
  refine (ze_lst wa_za).we ?_
  refine h ps s S _ _ r w fun ds s' S' r' w' => ?_
  rw [List.nil_append] at w'
  unfold lstK at w'
  cases e : datV ds with
  | none => rw [e] at w'; exact w'.elim
  | some xs =>
    rw [e] at w'
    obtain ⟨hz, q⟩ := sat_if w'
    rw [datas_map e]
    exact ⟨by rw [← line_eq]; exact hz, q S' r'⟩
/-! new lists, that will be changed -/
def Fresh (G : Gd) (ps : List Addr) (s : Cells) (S : Sto) (p : Addr) (xs : List PyData) : Prop := S p = some (.lst xs) ∧ (∀ (j : Nat) (c : Cell), s[j]? = some (some c) → ps[j]? ≠ some p) ∧ p ∉ G.p ∧ G.S p = none
def FN (C : Ct) (e : Expr) (ρ : VEnv) (m : M (List PyData)) : Prop := ∀ ps s S (Q : ZQ), Rel C.G ps s S → sat (m s) (fun xs s' => ∀ S' p, Rel C.G ps s' S' → Fresh C.G ps s' S' p xs → Q (.r p) S') (XOk C.X.mg C.G C.EZ) → WE C.X C.B e (VEnv.den ps ρ) S Q
theorem Rel.new {G : Gd} {ps : List Addr} {s : Cells} {S : Sto} (r : Rel G ps s S) {p : Addr} {c : Cell} (h : S p = none) : Rel G ps s (S.put p c) := by
  refine ⟨r.len, fun j c' a e1 e2 => ?_, r.inj, fun a c' e1 e2 => ?_, r.loc, ?_, r.par⟩
  · have := r.own j c' a e1 e2
    rw [put_ne (fun z => by rw [z, h] at this; cases this)]
    exact this
  · have := r.fr a c' e1 e2
    rw [put_ne (fun z => by rw [z, h] at this; cases this)]
    exact this
  · intro a ha
    by_cases q : a = p
    · subst q; rw [put_same]; exact fun z => nomatch z
    · rw [put_ne q]; exact r.gp a ha
theorem Rel.fresh {G : Gd} {ps : List Addr} {s : Cells} {S : Sto} (r : Rel G ps s S) {p : Addr} {xs : List PyData} (h : S p = none) : Fresh G ps s (S.put p (.lst xs)) p xs := by
  have q : p ∉ G.p := fun q => r.gp p q h
  refine ⟨put_same, fun j c e1 e2 => ?_, q, ?_⟩
  · rw [r.own j c p e1 e2] at h; cases h
  · cases e : G.S p with
    | none => rfl
    | some c => rw [r.fr p c q e] at h; cases h
def lstN (l : List Vl) : M (List PyData) := match datV l with
  | some ds => if ds.length ≤ line then pure ds else bad
  | none => bad
theorem n_lst {m : M (List PyData)} (h : FA C es ρ [] m lstN) : FN C (.List es pos) ρ m := by
  intro ps s S Q r w
  refine (ze_lstM wa_za).we ?_
  refine h ps s S _ _ r w fun ds s' S' r' w' => ?_
  rw [List.nil_append] at w'
  unfold lstN at w'
  cases e : datV ds with
  | none => rw [e] at w'; exact w'.elim
  | some xs =>
    rw [e] at w'
    obtain ⟨hz, q⟩ := sat_if w'
    rw [datas_map e]
    exact ⟨by rw [← line_eq]; exact hz, fun p hp => q _ p (r'.new hp) (r'.fresh hp)⟩
/-- a cell's new content at a new place -/
theorem Rel.lay {G : Gd} {ps : List Addr} {s : Cells} {S : Sto} {p : Addr} {xs : List PyData} (r : Rel G ps s S) (f : Fresh G ps s S p xs) (j : Nat) (hj : j < s.length) (hl : G.p.length ≤ j) : Rel G (ps.set j p) (s.set j (some (.lst xs))) S := by
  have get : ∀ {i : Nat} {c : Cell} {a : Addr}, (s.set j (some (.lst xs)))[i]? = some (some c) → (ps.set j p)[i]? = some a → (i = j ∧ c = .lst xs ∧ a = p) ∨ (i ≠ j ∧ s[i]? = some (some c) ∧ ps[i]? = some a) := by
    intro i c a e1 e2
    by_cases q : i = j
    · subst q
      rw [List.getElem?_set_self hj] at e1
      rw [List.getElem?_set_self (by rw [r.len]; exact hj)] at e2
      cases e1; cases e2
      exact .inl ⟨rfl, rfl, rfl⟩
    · rw [List.getElem?_set_ne (Ne.symm q)] at e1 e2
      exact .inr ⟨q, e1, e2⟩
  refine ⟨by rw [List.length_set, List.length_set]; exact r.len, fun i c a e1 e2 => ?_, fun i k ci ck a e1 e2 e3 e4 => ?_, r.fr, fun i c a e1 e2 => ?_, r.gp, by rw [List.take_set_of_le hl]; exact r.par⟩
  · rcases get e1 e2 with ⟨_, rfl, rfl⟩ | ⟨_, h1, h2⟩
    · exact f.1
    · exact r.own i c a h1 h2
  · rcases get e1 e3 with ⟨rfl, _, rfl⟩ | ⟨n1, h1, h2⟩
    · rcases get e2 e4 with ⟨rfl, _, _⟩ | ⟨n2, h3, h4⟩
      · rfl
      · exact absurd h4 (f.2.1 k ck h3)
    · rcases get e2 e4 with ⟨rfl, _, rfl⟩ | ⟨n2, h3, h4⟩
      · exact absurd h2 (f.2.1 i ci h1)
      · exact r.inj i k ci ck a h1 h3 h2 h4
  · rcases get e1 e2 with ⟨rfl, rfl, rfl⟩ | ⟨_, h1, h2⟩
    · exact .inr ⟨hl, f.2.2⟩
    · exact r.loc i c a h1 h2
/-- a cell changed in its place -/
theorem Rel.upd {G : Gd} {ps : List Addr} {s : Cells} {S : Sto} {j : Nat} {c c' : Cell} (r : Rel G ps s S) (h : s[j]? = some (some c)) : Rel G ps (s.set j (some c')) (S.put (ps.getD j 0) c') := by
  have hj : j < s.length := (List.getElem?_eq_some_iff.mp h).1
  obtain ⟨e0, o0⟩ := r.at h
  have get : ∀ {i : Nat} {d : Cell}, (s.set j (some c'))[i]? = some (some d) → (i = j ∧ d = c') ∨ (i ≠ j ∧ s[i]? = some (some d)) := by
    intro i d e1
    by_cases q : i = j
    · subst q
      rw [List.getElem?_set_self hj] at e1
      cases e1
      exact .inl ⟨rfl, rfl⟩
    · rw [List.getElem?_set_ne (Ne.symm q)] at e1
      exact .inr ⟨q, e1⟩
  refine ⟨by rw [List.length_set]; exact r.len, fun i d a e1 e2 => ?_, fun i k ci ck a e1 e2 e3 e4 => ?_, fun a d n e => ?_, fun i d a e1 e2 => ?_, fun a ha => ?_, r.par⟩
  · rcases get e1 with ⟨rfl, rfl⟩ | ⟨n, h1⟩
    · rw [e0] at e2; cases e2; exact put_same
    · rw [put_ne (fun z => n (r.inj i j _ _ a h1 h e2 (by rw [z]; exact e0)))]
      exact r.own i d a h1 e2
  · have live : ∀ {i : Nat} {d : Cell}, (s.set j (some c'))[i]? = some (some d) → ∃ d', s[i]? = some (some d') := by
      intro i d e
      rcases get e with ⟨rfl, rfl⟩ | ⟨_, h1⟩
      · exact ⟨_, h⟩
      · exact ⟨_, h1⟩
    obtain ⟨d1, h1⟩ := live e1
    obtain ⟨d2, h2⟩ := live e2
    exact r.inj i k d1 d2 a h1 h2 e3 e4
  · have ne : a ≠ ps.getD j 0 := by
      intro z
      rcases r.loc j c _ h e0 with q | q
      · exact n (z ▸ q.2)
      · rw [← z] at q; rw [q.2.2] at e; cases e
    rw [put_ne ne]
    exact r.fr a d n e
  · rcases get e1 with ⟨rfl, rfl⟩ | ⟨n, h1⟩
    · exact r.loc i c a h e2
    · exact r.loc i d a h1 e2
  · by_cases q : a = ps.getD j 0
    · rw [q, put_same]; exact fun z => nomatch z
    · rw [put_ne q]; exact r.gp a ha
/-- a cell given up -/
theorem Rel.drop {G : Gd} {ps : List Addr} {s : Cells} {S : Sto} (r : Rel G ps s S) (j : Nat) : Rel G ps (s.set j none) S := by
  have get : ∀ {i : Nat} {d : Cell}, (s.set j none)[i]? = some (some d) → s[i]? = some (some d) := by
    intro i d e1
    by_cases q : i = j
    · subst q
      rw [List.getElem?_set] at e1
      split at e1
      · split at e1 <;> cases e1
      · exact (absurd rfl (by assumption))
    · rw [List.getElem?_set_ne (Ne.symm q)] at e1
      exact e1
  exact ⟨by rw [List.length_set]; exact r.len, fun i d a e1 e2 => r.own i d a (get e1) e2, fun i k ci ck a e1 e2 e3 e4 => r.inj i k ci ck a (get e1) (get e2) e3 e4, r.fr, fun i d a e1 e2 => r.loc i d a (get e1) e2, r.gp, r.par⟩

/-! calls of what is built in -/
def VCl (r : ZC1) (k : List Vl → M PyData) : Prop := ∀ (C : Ct) ps s S vs (Q : ZQ), Rel C.G ps s S → sat (k vs s) (fun d s' => ∀ S', Rel C.G ps s' S' → Q (.d d) S') (XOk C.X.mg C.G C.EZ) → r (vs.map (Vl.den ps)) S Q
def VClN (r : ZC1) (k : List Vl → M (List PyData)) : Prop := ∀ (C : Ct) ps s S vs (Q : ZQ), Rel C.G ps s S → sat (k vs s) (fun xs s' => ∀ S' p, Rel C.G ps s' S' → Fresh C.G ps s' S' p xs → Q (.r p) S') (XOk C.X.mg C.G C.EZ) → r (vs.map (Vl.den ps)) S Q
variable {x : Str} {p : Pos} {id T : String} {rr : ZC1} {k : List Vl → M PyData} {kN : List Vl → M (List PyData)} {m : M PyData} {mN : M (List PyData)}
theorem f_callB (hc : ZCl C.X (.builtin id) rr) (hk : VCl rr k) (hm : C.X.mg x = none) (hv : bootBuiltins x = some (.builtin id)) (ha : FA C (e :: es) ρ [] m k) (hg : Gl C.X x := by rfl) (hn : x ≠ "__name__" := by decide) (hdb : (x == ("__debug__" : Str)) = false := by decide)
    (he : starEach (e :: es) C.X.env = (false, eval e C.X.env) :: starEach es C.X.env := by rfl) (hpl : (backTo pos (starEach es C.X.env)).any (·.1) = false := by rfl) : FE C (.Call (.Name x p) (e :: es) [] pos) ρ m := by
  intro ps s S Q r w
  refine (ze_callB hc hg hm hv wa_za hn hdb he hpl).we ?_
  exact ha ps s S _ _ r w fun ds s' S' r' w' => hk C ps s' S' ds Q r' (by rw [List.nil_append] at w'; exact w')
theorem f_callT (hc : ZCl C.X (.type T) rr) (hk : VCl rr k) (hm : C.X.mg x = none) (hv : bootBuiltins x = some (.type T)) (ha : FA C (e :: es) ρ [] m k) (hg : Gl C.X x := by rfl) (hn : x ≠ "__name__" := by decide) (hdb : (x == ("__debug__" : Str)) = false := by decide)
    (he : starEach (e :: es) C.X.env = (false, eval e C.X.env) :: starEach es C.X.env := by rfl) (hpl : (backTo pos (starEach es C.X.env)).any (·.1) = false := by rfl) : FE C (.Call (.Name x p) (e :: es) [] pos) ρ m := by
  intro ps s S Q r w
  refine (ze_callTy hc hg hm hv wa_za hn hdb he hpl).we ?_
  exact ha ps s S _ _ r w fun ds s' S' r' w' => hk C ps s' S' ds Q r' (by rw [List.nil_append] at w'; exact w')
theorem n_callT (hc : ZCl C.X (.type T) rr) (hk : VClN rr kN) (hm : C.X.mg x = none) (hv : bootBuiltins x = some (.type T)) (ha : FA C (e :: es) ρ [] mN kN) (hg : Gl C.X x := by rfl) (hn : x ≠ "__name__" := by decide) (hdb : (x == ("__debug__" : Str)) = false := by decide)
    (he : starEach (e :: es) C.X.env = (false, eval e C.X.env) :: starEach es C.X.env := by rfl) (hpl : (backTo pos (starEach es C.X.env)).any (·.1) = false := by rfl) : FN C (.Call (.Name x p) (e :: es) [] pos) ρ mN := by
  intro ps s S Q r w
  refine (ze_callTy hc hg hm hv wa_za hn hdb he hpl).we ?_
  exact ha ps s S _ _ r w fun ds s' S' r' w' => hk C ps s' S' ds Q r' (by rw [List.nil_append] at w'; exact w')
theorem v_un {r : ZC1} {g : PyData → Option PyData} (h : ∀ x d S Q, g x = some d → Q (.d d) S → r [.d x] S Q) : VCl r (un fun x => ofO (g x)) := by
  intro C ps s S vs Q r' w
  unfold un at w
  split at w
  · obtain ⟨d, e, q⟩ := sat_ofO w; exact h _ d S Q e (q S r')
  · exact w.elim
theorem v_bin {r : ZC1} {g : PyData → PyData → Option PyData} (h : ∀ x y d S Q, g x y = some d → Q (.d d) S → r [.d x, .d y] S Q) : VCl r (bi2 fun x y => ofO (g x y)) := by
  intro C ps s S vs Q r' w
  unfold bi2 at w
  split at w
  · obtain ⟨d, e, q⟩ := sat_ofO w; exact h _ _ d S Q e (q S r')
  · exact w.elim
theorem row_at {G : Gd} {ps : List Addr} {s : Cells} {S : Sto} {j : Nat} {xs : List PyData} (r : Rel G ps s S) (ex : s[j]? = some (some (.lst xs))) : rowZ S (Vl.den ps (.c j)) = some xs := by
  show (match S (ps.getD j 0) with | some (.lst xs) => some xs | _ => none) = some xs
  rw [(r.at ex).2]
/-- .. of one row, that may be changed later -/
theorem v_row {r : ZC1} {g : PyData → Option PyData} (h : ∀ x d S Q, g x = some d → Q (.d d) S → r [.d x] S Q) (h2 : ∀ z xs d S Q, rowZ S z = some xs → (∀ x, z ≠ .d x) → g (.list xs) = some d → Q (.d d) S → r [z] S Q) : VCl r (row1 fun x => ofO (g x)) := by
  intro C ps s S vs Q r' w
  unfold row1 at w
  split at w
  · obtain ⟨d, e, q⟩ := sat_ofO w; exact h _ d S Q e (q S r')
  · obtain ⟨xs, ex, w⟩ := sat_getC (sat_bind w)
    obtain ⟨d, e, q⟩ := sat_ofO w
    refine h2 _ xs d S Q ?_ (fun _ z => nomatch z) e (q S r')
    exact row_at r' ex
  · obtain ⟨d, e, q⟩ := sat_ofO w
    exact h2 (.k _) _ d S Q rfl (fun _ z => nomatch z) e (q S r')
  · exact w.elim
theorem v_abs : VCl rZAbs (un absM) := v_un (by
  intro x d S Q e q; unfold absO at e; split at e <;> cases e; exact q)
theorem v_max : VCl rZMax (bi2 maxM) := v_bin (by
  intro x y d S Q e q; unfold maxO at e; split at e <;> cases e; exact q)
theorem v_min : VCl rZMin (bi2 minM) := v_bin (by
  intro x y d S Q e q; unfold minO at e; split at e <;> cases e; exact q)
theorem v_int : VCl rZInt (un intM) := v_un (by
  intro x d S Q e q; unfold intO at e; split at e <;> cases e <;> exact q)
theorem v_len : VCl rZLen (row1 lenM) := v_row (by
    intro x d S Q e q
    unfold lenO at e
    split at e
    · split at e <;> cases e; rename_i h; rw [line_eq] at h; exact ⟨h, q⟩
    · cases e; exact q
    · cases e; exact q
    · cases e) (by
    intro z xs d S Q e n e2 q
    cases e2
    cases z with
    | d x => exact absurd rfl (n x)
    | r a => show rZLen _ _ _; unfold rZLen; simp only []; rw [e]; exact q
    | k ys => cases e; exact q)
theorem v_tuple : VCl rZTuple (row1 tupleM) := v_row (by
    intro x d S Q e q
    unfold tupleO at e
    obtain ⟨xs, e1, e2⟩ := Option.map_eq_some_iff.mp e
    subst e2
    unfold rowD at e1
    split at e1 <;> cases e1 <;> exact q) (by
    intro z xs d S Q e n e2 q
    cases e2
    show rZTuple _ _ _; unfold rZTuple; simp only []; rw [e]; exact q)
theorem v_list : VCl rZList (row1 listM) := v_row (by
    intro x d S Q e q
    unfold listO at e
    obtain ⟨xs, e1, e2⟩ := Option.map_eq_some_iff.mp e
    subst e2
    unfold rowD at e1
    split at e1 <;> cases e1 <;> exact q) (by
    intro z xs d S Q e n e2 q
    cases e2
    show rZList _ _ _; unfold rZList; simp only []; rw [e]; exact q)
theorem v_all : VCl rZAll (un allM) := v_un (by
  intro x d S Q e q
  unfold allO at e
  split at e
  · obtain ⟨bs, e1, e2⟩ := Option.map_eq_some_iff.mp e
    subst e2
    exact ⟨bs, by rw [boolsZ_map e1], q⟩
  · cases e)
theorem v_any : VCl rZAny (un anyM) := v_un (by
  intro x d S Q e q
  unfold anyO at e
  split at e
  · obtain ⟨bs, e1, e2⟩ := Option.map_eq_some_iff.mp e
    subst e2
    exact ⟨bs, by rw [boolsZ_map e1], q⟩
  · cases e)
theorem v_sum : VCl rZSum (row1 sumM) := v_row (by
    intro x d S Q e q
    unfold sumO at e
    split at e
    · obtain ⟨bs, e1, e2⟩ := Option.map_eq_some_iff.mp e
      subst e2
      exact ⟨bs, by rw [← intsZ_map e1]; rfl, fun xs z => (nomatch z), q⟩
    · cases e) (by
    intro z xs d S Q e n e2 q
    unfold sumO at e2
    obtain ⟨bs, e1, e3⟩ := Option.map_eq_some_iff.mp e2
    subst e3
    exact ⟨bs, by rw [e, intsZ_map e1], fun ys z => absurd z (n _), q⟩)
theorem v_repr : VCl rZRepr (un reprM) := v_un (by
  intro x d S Q e q
  unfold reprO at e
  split at e <;> cases e
  rename_i h
  unfold reprOk at h
  simp only [Bool.and_eq_true, decide_eq_true_eq, Bool.or_eq_true, Bool.not_eq_true'] at h
  exact ⟨⟨h.1.1.1, h.1.1.2, h.1.2, by rw [← line_eq]; exact h.2⟩, q⟩)
def listN (x : PyData) : M (List PyData) := ofO (rowD x)
theorem v_listN : VClN rZListM (row1 listN) := by
  intro C ps s S vs Q r w
  unfold row1 at w
  split at w
  · obtain ⟨xs, e, q⟩ := sat_ofO w
    show rZListM _ _ _; unfold rZListM; simp only [List.map_cons, List.map_nil, Vl.den]
    have : ∀ z, rowZ S (.d z) = rowD z := by intro z; cases z <;> rfl
    rw [this, e]
    exact fun p hp => q _ p (r.new hp) (r.fresh hp)
  · obtain ⟨xs, ex, w⟩ := sat_getC (sat_bind w)
    show rZListM _ _ _; unfold rZListM; simp only [List.map_cons, List.map_nil, Vl.den, rowZ]
    rw [(r.at ex).2]
    exact fun p hp => w _ p (r.new hp) (r.fresh hp)
  · show rZListM _ _ _; unfold rZListM; simp only [List.map_cons, List.map_nil, Vl.den, rowZ]
    exact fun p hp => w _ p (r.new hp) (r.fresh hp)
  · exact w.elim
/-! isinstance -/
theorem f_isi (T : Ty7) {c : Expr} (hm : C.X.mg "isinstance" = none) (hc : PE C.X c (tC (.ty T.name))) (h : FL C [e] ρ [] m (un fun x => pure (isO T x))) (hg : Gl C.X "isinstance" := by rfl)
    (hs : starEach (e :: [c]) C.X.env = (false, eval e C.X.env) :: starEach [c] C.X.env := by rfl) (hs2 : starEach [c] C.X.env = (false, eval c C.X.env) :: starEach [] C.X.env := by rfl) (hpl : (backTo pos (starEach [c] C.X.env)).any (·.1) = false := by rfl) : FE C (.Call (.Name "isinstance" p) [e, c] [] pos) ρ m := by
  intro ps s S Q r w
  refine (ze_isi T hm we_ze hc hg hs hs2 hpl).we ?_
  have := h ps s S (fun zs S' => match zs with | [z] => thereZ S' z ∧ Q (zb (isZ T z)) S' | _ => True) _ r w fun ds s' S' r' w' => by
    rw [List.nil_append] at w'
    unfold un at w'
    split at w'
    · exact ⟨trivial, by have := w' S' r'; cases T <;> exact this⟩
    · exact w'.elim
  exact this
/-! slices -/
theorem slice_ok {z : PyData} {lo hi : Option Int} {d : PyData} {S : Sto} {Q : ZQ} (h : sliceO z lo hi = some d) (q : Q (.d d) S) : rZSl (.d z) lo hi S Q := by
  unfold sliceO at h
  split at h <;> cases h
  · exact q
  · exact q
def sl0 (x : PyData) : M PyData := sliceM x none none
def slL (x y : PyData) : M PyData := sliceM x (some y) none
def slH (x y : PyData) : M PyData := sliceM x none (some y)
def sl3 {β : Type} (g : PyData → PyData → PyData → M β) : List Vl → M β
  | [.d x, .d y, .d z] => g x y z
  | [.c j, .d y, .d z] => getC j >>= fun xs => g (.list xs) y z
  | [.k xs, .d y, .d z] => g (.list xs) y z
  | _ => bad
def slLH (x y z : PyData) : M PyData := sliceM x (some y) (some z)
theorem slice_row {z : Z} {xs : List PyData} {lo hi : Option Int} {d : PyData} {S : Sto} {Q : ZQ} (e : rowZ S z = some xs) (n : ∀ x, z ≠ .d x) (h : sliceO (.list xs) lo hi = some d) (q : Q (.d d) S) : rZSl z lo hi S Q := by
  cases h
  unfold rZSl
  split
  · exact absurd rfl (n _)
  · rw [e]; exact q
theorem ptO_some {y : PyData} {o : Option Int} (h : ptO (some y) = some o) : ∃ i, y = .int i ∧ o = some i := by
  unfold ptO at h
  split at h
  · rename_i e; cases e
  · rename_i e; cases e; cases h; exact ⟨_, rfl, rfl⟩
  · cases h
theorem sl_split {lo hi : Option PyData} {x d : PyData} (h : ((ptO lo).bind fun l => (ptO hi).bind fun k => sliceO x l k) = some d) : ∃ l k, ptO lo = some l ∧ ptO hi = some k ∧ sliceO x l k = some d := by
  cases e1 : ptO lo with
  | none => rw [e1] at h; cases h
  | some l =>
    rw [e1] at h
    cases e2 : ptO hi with
    | none => rw [e2] at h; cases h
    | some k => rw [e2] at h; exact ⟨l, k, rfl, rfl, h⟩
def slK {β : Type} (mh : M PyData) (g : PyData → PyData → PyData → M β) : List Vl → M β
  | [v, .d (.int i)] => mh >>= fun z => sl3 g [v, .d (.int i), .d z]
  | _ => bad
theorem f_slLH {lo hi : Expr} {p2 : Pos} {mh : M PyData} (h : FL C [e, lo] ρ [] m (slK mh slLH)) (hh : FE C hi ρ mh) : FE C (.Subscript e (.Slice (some lo) (some hi) none p2) pos) ρ m := by
  intro ps s S Q r w
  refine (ze_slice we_ze (zo_some we_ze) (zo_some we_ze)).we ?_
  have := h ps s S (fun zs S' => match zs with | [x, y] => (match y with | .d (.int i) => WE C.X C.B hi (VEnv.den ps ρ) S' fun z S2 => (match z with | .d (.int j) => rZSl x (some i) (some j) S2 Q | _ => False) | _ => False) | _ => True) _ r w fun ds s' S' r' w' => by
    rw [List.nil_append] at w'
    unfold slK at w'
    split at w'
    · refine hh ps s' S' _ r' ((sat_bind w').mono (fun z s2 w2 S2 r2 => ?_) fun _ _ h => h)
      rename_i v i
      cases v with
      | d x =>
        obtain ⟨d, e, q⟩ := sat_ofO (show sat (ofO _ s2) _ _ from w2)
        obtain ⟨l, k, e1, e2, e3⟩ := sl_split e
        obtain ⟨i, e4, rfl⟩ := ptO_some e1
        cases e4
        obtain ⟨i, rfl, rfl⟩ := ptO_some e2
        exact slice_ok e3 (q S2 r2)
      | c j =>
        obtain ⟨xs, ex, w2⟩ := sat_getC (sat_bind (show sat ((getC j >>= fun xs => slLH (.list xs) (.int i) z) s2) _ _ from w2))
        obtain ⟨d, e, q⟩ := sat_ofO w2
        obtain ⟨l, k, e1, e2, e3⟩ := sl_split e
        obtain ⟨i, e4, rfl⟩ := ptO_some e1
        cases e4
        obtain ⟨i, rfl, rfl⟩ := ptO_some e2
        exact slice_row (row_at r2 ex) (fun _ z => nomatch z) e3 (q S2 r2)
      | k xs =>
        obtain ⟨d, e, q⟩ := sat_ofO (show sat (ofO _ s2) _ _ from w2)
        obtain ⟨l, k, e1, e2, e3⟩ := sl_split e
        obtain ⟨i, e4, rfl⟩ := ptO_some e1
        cases e4
        obtain ⟨i, rfl, rfl⟩ := ptO_some e2
        exact slice_row (z := .k _) rfl (fun _ z => nomatch z) e3 (q S2 r2)
    · exact w'.elim
  exact this
theorem f_slL {lo : Expr} {p2 : Pos} (h : FL C [e, lo] ρ [] m (row2 slL)) : FE C (.Subscript e (.Slice (some lo) none none p2) pos) ρ m := by
  intro ps s S Q r w
  refine (ze_slice we_ze (zo_some we_ze) zo_none).we ?_
  have := h ps s S (fun zs S' => match zs with | [x, y] => (match y with | .d (.int i) => rZSl x (some i) none S' Q | _ => False) | _ => True) _ r w fun ds s' S' r' w' => by
    rw [List.nil_append] at w'
    unfold row2 at w'
    split at w'
    · obtain ⟨d, e, q⟩ := sat_ofO w'
      obtain ⟨l, k, e1, e2, e3⟩ := sl_split e
      obtain ⟨i, rfl, rfl⟩ := ptO_some e1
      cases e2
      exact slice_ok e3 (q S' r')
    · obtain ⟨xs, ex, w'⟩ := sat_getC (sat_bind w')
      obtain ⟨d, e, q⟩ := sat_ofO w'
      obtain ⟨l, k, e1, e2, e3⟩ := sl_split e
      obtain ⟨i, rfl, rfl⟩ := ptO_some e1
      cases e2
      exact slice_row (row_at r' ex) (fun _ z => nomatch z) e3 (q S' r')
    · obtain ⟨d, e, q⟩ := sat_ofO w'
      obtain ⟨l, k, e1, e2, e3⟩ := sl_split e
      obtain ⟨i, rfl, rfl⟩ := ptO_some e1
      cases e2
      exact slice_row (z := .k _) rfl (fun _ z => nomatch z) e3 (q S' r')
    · exact w'.elim
  exact this
theorem f_slH {hi : Expr} {p2 : Pos} (h : FL C [e, hi] ρ [] m (row2 slH)) : FE C (.Subscript e (.Slice none (some hi) none p2) pos) ρ m := by
  intro ps s S Q r w
  refine (ze_slice we_ze zo_none (zo_some we_ze)).we ?_
  have := h ps s S (fun zs S' => match zs with | [x, y] => (match y with | .d (.int i) => rZSl x none (some i) S' Q | _ => False) | _ => True) _ r w fun ds s' S' r' w' => by
    rw [List.nil_append] at w'
    unfold row2 at w'
    split at w'
    · obtain ⟨d, e, q⟩ := sat_ofO w'
      obtain ⟨l, k, e1, e2, e3⟩ := sl_split e
      cases e1
      obtain ⟨i, rfl, rfl⟩ := ptO_some e2
      exact slice_ok e3 (q S' r')
    · obtain ⟨xs, ex, w'⟩ := sat_getC (sat_bind w')
      obtain ⟨d, e, q⟩ := sat_ofO w'
      obtain ⟨l, k, e1, e2, e3⟩ := sl_split e
      cases e1
      obtain ⟨i, rfl, rfl⟩ := ptO_some e2
      exact slice_row (row_at r' ex) (fun _ z => nomatch z) e3 (q S' r')
    · obtain ⟨d, e, q⟩ := sat_ofO w'
      obtain ⟨l, k, e1, e2, e3⟩ := sl_split e
      cases e1
      obtain ⟨i, rfl, rfl⟩ := ptO_some e2
      exact slice_row (z := .k _) rfl (fun _ z => nomatch z) e3 (q S' r')
    · exact w'.elim
  exact this
theorem f_rev {k : Nat} {p1 p2 p3 : Pos} (h : FL C [e] ρ [] m (un revM)) : FE C (.Subscript e (.Slice none none (some (.UnaryOp .USub (.Constant (.int 1) k p1) p2)) p3) pos) ρ m := by
  intro ps s S Q r w
  refine (ze_back we_ze).we ?_
  have := h ps s S (fun zs S' => match zs with | [z] => (match z with | .d (.tuple xs) => Q (zt xs.reverse) S' | _ => False) | _ => True) _ r w fun ds s' S' r' w' => by
    rw [List.nil_append] at w'
    unfold un at w'
    split at w'
    · obtain ⟨d, e, q⟩ := sat_ofO w'
      unfold revO at e
      split at e <;> cases e
      exact q S' r'
    · exact w'.elim
  exact this
end
end ZL

namespace ZL
open PySem PySem.Spec PyProof.Rows L2 V
/-! what is walked -/
def FI (C : Ct) (tg e : Expr) (ρ : VEnv) (m : M (List PyData)) : Prop := ∀ ps s S (Q : List PyData → List (Addr × List PyData) → Sto → Prop), Rel C.G ps s S → sat (m s) (fun xs s' => ∀ S', Rel C.G ps s' S' → Q xs [] S') (XOk C.X.mg C.G C.EZ) → WI C.X C.B tg e (VEnv.den ps ρ) S Q
section
variable {C : Ct} {e a b c tg : Expr} {es : List Expr} {ρ : VEnv} {pos p : Pos} {m : M PyData} {mi : M (List PyData)}
theorem i_row (h : FE C e ρ m) : FI C tg e ρ (m >>= rowM) := by
  intro ps s S Q r w
  refine (zi_row we_ze).we ?_
  refine h ps s S _ r ((sat_bind w).mono (fun d s' w' S' r' => ?_) fun _ _ h => h)
  obtain ⟨xs, e, q⟩ := sat_ofO w'
  have : rowZ S' (.d d) = some xs := by rw [← e]; cases d <;> rfl
  simp only [this]
  exact q S' r'
theorem i_range1 (hm : C.X.mg "range" = none) (h : FA C [a] ρ [] mi (un fun y => rangeM (.int 0) y)) (hg : Gl C.X "range" := by rfl) (hs : starEach [a] C.X.env = [(false, eval a C.X.env)] := by rfl) : FI C tg (.Call (.Name "range" p) [a] [] pos) ρ mi := by
  intro ps s S Q r w
  refine (zi_range1 hg hm wa_za hs).we ?_
  refine h ps s S _ _ r w fun ds s' S' r' w' => ?_
  rw [List.nil_append] at w'
  unfold un at w'
  split at w'
  · obtain ⟨xs, e, q⟩ := sat_ofO w'
    obtain ⟨i, j, e1, rfl, h1, h2, rfl⟩ := rangeO_inv e
    cases e1
    have w2 := q S' r'
    rw [Int.sub_zero] at w2
    exact ⟨h2, w2⟩
  · exact w'.elim
theorem i_range2 (hm : C.X.mg "range" = none) (h : FA C [a, b] ρ [] mi (bi2 rangeM)) (hg : Gl C.X "range" := by rfl) (hs : starEach [a, b] C.X.env = [(false, eval a C.X.env), (false, eval b C.X.env)] := by rfl) (hs2 : starEach [b] C.X.env = [(false, eval b C.X.env)] := by rfl) : FI C tg (.Call (.Name "range" p) [a, b] [] pos) ρ mi := by
  intro ps s S Q r w
  refine (zi_range2 hg hm wa_za hs hs2).we ?_
  refine h ps s S _ _ r w fun ds s' S' r' w' => ?_
  rw [List.nil_append] at w'
  unfold bi2 at w'
  split at w'
  · obtain ⟨xs, e, q⟩ := sat_ofO w'
    obtain ⟨i, j, rfl, rfl, h1, h2, rfl⟩ := rangeO_inv e
    exact ⟨h1, h2, q S' r'⟩
  · exact w'.elim

/-! targets -/
/-- a reading of a target assigns what mt finds -/
def GOk {T : Type} (g : ZG) (mt : PyData → Option T) (asg : T → List (Nat × PyData)) : Prop := ∀ x t ρ S (Q : ZEnv → Sto → Prop), mt x = some t → Q (setz ρ (asg t)) S → g (.d x) ρ S Q
def GsOk {T : Type} (g : ZGs) (mt : List PyData → Option T) (asg : T → List (Nat × PyData)) : Prop := ∀ x t ρ S (Q : ZEnv → Sto → Prop), mt x = some t → Q (setz ρ (asg t)) S → g x ρ S Q
theorem go_name {i : Nat} : GOk (zgName i) pN (fun x => [(i, x)]) := by
  intro x t ρ S Q e q
  cases e
  exact q
theorem setz_app (ρ : ZEnv) (l k : List (Nat × PyData)) : setz ρ (l ++ k) = setz (setz ρ l) k := List.foldl_append
variable {α β γ δ : Type} {p1 : PyData → Option α} {p2 : PyData → Option β} {p3 : PyData → Option γ} {p4 : PyData → Option δ} {g1 g2 g3 g4 : ZG} {a1 : α → List (Nat × PyData)} {a2 : β → List (Nat × PyData)} {a3 : γ → List (Nat × PyData)} {a4 : δ → List (Nat × PyData)}
theorem go_t2 (h1 : GOk g1 p1 a1) (h2 : GOk g2 p2 a2) : GOk (zgTup 2 (zgCons g1 (zgCons g2 zgNil))) (pT2 p1 p2) (fun t => a1 t.1 ++ a2 t.2) := by
  intro x t ρ S Q e q
  unfold pT2 at e
  split at e
  · rename_i x y
    simp only [Option.bind_eq_some_iff] at e
    obtain ⟨a, e1, b, e2, e3⟩ := e
    cases e3
    refine ⟨rfl, h1 x a ρ S _ e1 (h2 y b _ S _ e2 ?_)⟩
    rw [← setz_app]
    exact q
  · cases e
theorem go_t3 (h1 : GOk g1 p1 a1) (h2 : GOk g2 p2 a2) (h3 : GOk g3 p3 a3) : GOk (zgTup 3 (zgCons g1 (zgCons g2 (zgCons g3 zgNil)))) (pT3 p1 p2 p3) (fun t => a1 t.1 ++ (a2 t.2.1 ++ a3 t.2.2)) := by
  intro x t ρ S Q e q
  unfold pT3 at e
  split at e
  · rename_i x y z
    simp only [Option.bind_eq_some_iff] at e
    obtain ⟨a, e1, b, e2, c, e3, e4⟩ := e
    cases e4
    refine ⟨rfl, h1 x a ρ S _ e1 (h2 y b _ S _ e2 (h3 z c _ S _ e3 ?_))⟩
    rw [← setz_app, ← setz_app]
    exact q
  · cases e
theorem go_t4 (h1 : GOk g1 p1 a1) (h2 : GOk g2 p2 a2) (h3 : GOk g3 p3 a3) (h4 : GOk g4 p4 a4) : GOk (zgTup 4 (zgCons g1 (zgCons g2 (zgCons g3 (zgCons g4 zgNil))))) (pT4 p1 p2 p3 p4) (fun t => a1 t.1 ++ (a2 t.2.1 ++ (a3 t.2.2.1 ++ a4 t.2.2.2))) := by
  intro x t ρ S Q e q
  unfold pT4 at e
  split at e
  · rename_i x y z u
    simp only [Option.bind_eq_some_iff] at e
    obtain ⟨a, e1, b, e2, c, e3, d, e4, e5⟩ := e
    cases e5
    refine ⟨rfl, h1 x a ρ S _ e1 (h2 y b _ S _ e2 (h3 z c _ S _ e3 (h4 u d _ S _ e4 ?_)))⟩
    rw [← setz_app, ← setz_app, ← setz_app]
    exact q
  · cases e

/-! comprehensions -/
abbrev noW : XW := fun _ _ => False
abbrev Ct.blk (C : Ct) (s : Shared) (H : Hp) (scope : Scope) (A : Addr) (cl : List (Str × Addr)) (fp : List Addr) : Ct := { C with X := C.X.blk s H scope (compEnvC scope cl A C.X.env) fp, EZ := noW }
/-- what holds in each block -/
abbrev FBlk (C : Ct) (scope : Scope) (P : Ct → Prop) : Prop := ∀ (s : Shared) (H : Hp) (A : Addr) (cl : List (Str × Addr)) (fp : List Addr), P (C.blk s H scope A cl fp)
def WEb (C : Ct) (scope : Scope) (e : Expr) : ZT := fun ρ S Q => FBlk C scope fun C => WE C.X C.B e ρ S Q
def WTb (C : Ct) (scope : Scope) (e : Expr) : ZB := fun ρ S Q => FBlk C scope fun C => WT C.X C.B e ρ S Q
theorem web {scope : Scope} : Blk C.X scope fun X => ZE X C.B e (WEb C scope e) := fun s H A cl fp => ⟨fun q w s H A cl fp => we_ze.mono q (w s H A cl fp), PE.imp we_ze.pe fun σ H' Q ⟨ρ, S, hE, hS, w⟩ => ⟨ρ, S, hE, hS, w s H A cl fp⟩⟩
theorem wtb {scope : Scope} : Blk C.X scope fun X => ZTe X C.B e (WTb C scope e) := fun s H A cl fp => ⟨fun q w s H A cl fp => wt_zt.mono q (w s H A cl fp), PT.imp wt_zt.pt fun σ H' Q ⟨ρ, S, hE, hS, w⟩ => ⟨ρ, S, hE, hS, w s H A cl fp⟩⟩
/-- the tests of a block, together -/
def FTs (C : Ct) (scope : Scope) (ifs : List Expr) {T : Type} (ρ : T → VEnv) (c : T → M Bool) : Prop := (ifs = [] ∧ c = yep) ∨ (∃ e, ifs = [e] ∧ FBlk C scope fun C => ∀ t, FT C e (ρ t) (c t))
theorem ts_nil {scope : Scope} {T : Type} {r : T → VEnv} : FTs C scope [] r yep := .inl ⟨rfl, rfl⟩
theorem ts_one {scope : Scope} {T : Type} {r : T → VEnv} {k : T → M Bool} (h : FBlk C scope fun C => ∀ t, FT C e (r t) (k t)) : FTs C scope [e] r k := .inr ⟨e, rfl, h⟩
def tsR (C : Ct) (scope : Scope) : List Expr → ZB
  | [] => zYes
  | e :: _ => WTb C scope e
theorem ts_zts {scope : Scope} {ifs : List Expr} {T : Type} {r : T → VEnv} {k : T → M Bool} (h : FTs C scope ifs r k) : Blk C.X scope fun X => ZTs X C.B ifs (tsR C scope ifs) := by
  rcases h with ⟨rfl, _⟩ | ⟨e, rfl, _⟩
  · exact fun _ _ _ _ _ => zts_nil
  · exact fun s H A cl fp => zts_one (wtb s H A cl fp)
theorem noex_ok {α : Type} {m : M α} {s s' : Cells} {a : α} (h : V.noex m s = .ok a s') : m s = .ok a s' := by
  unfold V.noex at h
  split at h
  · rename_i e; cases h; exact e
  · cases h
theorem sat_noex {α : Type} {m : M α} {s : Cells} {Q : α → Cells → Prop} {E : Exn → Cells → Prop} (h : sat (V.noex m s) Q E) : ∃ a s', m s = .ok a s' ∧ Q a s' := by
  cases e : V.noex m s with
  | ok a s' => rw [e] at h; exact ⟨a, s', noex_ok e, h⟩
  | ex x s' => unfold V.noex at e; split at e <;> cases e
  | bad => rw [e] at h; exact h.elim
theorem bind_inv {α β : Type} {m : M α} {k : α → M β} {s s' : Cells} {b : β} (h : (m >>= k) s = .ok b s') : ∃ a s1, m s = .ok a s1 ∧ k a s1 = .ok b s' := by
  rw [V.bind_def] at h
  split at h
  · rename_i a s1 e; exact ⟨a, s1, e, h⟩
  · cases h
  · cases h
theorem sat_of {α : Type} {m : M α} {s s' : Cells} {a : α} {Q : α → Cells → Prop} {E : Exn → Cells → Prop} (h : m s = .ok a s') (q : Q a s') : sat (m s) Q E := by rw [h]; exact q
/-- the turns of a comprehension -/
theorem comp_turns {T : Type} {scope : Scope} {g : ZG} {mt : PyData → Option T} {asg : T → List (Nat × PyData)} {cnd : T → M Bool} {f : T → M PyData} {vs : List Nat} {elt : Expr} {ifs : List Expr} {ps : List Addr} {xs : List PyData} {s s' : Cells} {S1 : Sto} {ys : List PyData}
    (hg : GOk g mt asg) (hgm : ∀ {z ρ S} {Q Q' : ZEnv → Sto → Prop}, (∀ ρ' S', Q ρ' S' → Q' ρ' S') → g z ρ S Q → g z ρ S Q') (ht : FTs C scope ifs (fun t => setl (vwipe ρ vs) (asg t)) cnd) (he : FBlk C scope fun C => ∀ t, FE C elt (setl (vwipe ρ vs) (asg t)) (f t))
    (r : Rel C.G ps s S1) (hz : xs.length ≤ sizeLine) (hrun : compP mt cnd f xs s = .ok ys s') {P : List PyData → Sto → Prop} (fin : ∀ S', Rel C.G ps s' S' → P ys S') :
    ∃ I : Nat → List PyData → Sto → Prop, I 0 [] S1 ∧ (∀ i acc S', i ≤ xs.length → I i acc S' → Need S' []) ∧
    (∀ (i : Nat) (x : PyData) acc S', xs[i]? = some x → I i acc S' → g (.d x) (zwipe (VEnv.den ps ρ) vs) S' fun ρ2 S2 => tsR C scope ifs ρ2 S2 fun b S3 =>
      zBr b (WEb C scope elt ρ2 S3 fun y S4 => match y with
        | .d d => acc.length < sizeLine ∧ I (i + 1) (acc ++ [d]) S4
        | _ => False) (I (i + 1) acc S3)) ∧ ∀ acc S', I xs.length acc S' → P acc S' := by
  refine ⟨fun i acc S' => ∃ s1, Rel C.G ps s1 S' ∧ acc.length ≤ i ∧ ∃ zs, compP mt cnd f (xs.drop i) s1 = .ok zs s' ∧ ys = acc ++ zs, ⟨s, r, Nat.le_refl _, ys, by rw [List.drop_zero]; exact hrun, rfl⟩, fun _ _ _ _ _ => need_nil, ?_, ?_⟩
  · rintro i x acc S' ex ⟨s1, r1, hl, zs, run, ey⟩
    have hi : i < xs.length := (List.getElem?_eq_some_iff.mp ex).1
    have ed : xs.drop i = x :: xs.drop (i + 1) := by rw [← (List.getElem?_eq_some_iff.mp ex).2]; exact List.drop_eq_getElem_cons hi
    rw [ed] at run
    unfold compP at run
    obtain ⟨t, s2, e1, run1⟩ := bind_inv run
    obtain ⟨e0, e00⟩ := ofO_ok e1
    subst e00
    refine hg x t _ S' _ e0 ?_
    obtain ⟨b, s3, e2, run2⟩ := bind_inv run1
    -- the test
    have test : ∀ (Q : Bool → Sto → Prop), (∀ S3, Rel C.G ps s3 S3 → Q b S3) → tsR C scope ifs (setz (zwipe (VEnv.den ps ρ) vs) (asg t)) S' Q := by
      intro Q q
      rcases ht with ⟨rfl, ec⟩ | ⟨e, rfl, hc⟩
      · subst ec
        cases e2
        exact q S' r1
      · intro sh H A cl fp
        have := hc sh H A cl fp t ps s2 S' Q r1 (sat_of e2 q)
        rw [den_setl, den_wipe] at this
        exact this
    refine test _ fun S3 r3 => ?_
    cases b with
    | true =>
      obtain ⟨y, s4, e3, run3⟩ := bind_inv run2
      obtain ⟨zs', s5, e4, run4⟩ := bind_inv run3
      cases run4
      show WEb C scope elt _ _ _
      intro sh H A cl fp
      have := he sh H A cl fp t ps s3 S3 (fun y S4 => match y with
        | .d d => acc.length < sizeLine ∧ ∃ s1, Rel C.G ps s1 S4 ∧ (acc ++ [d]).length ≤ i + 1 ∧ ∃ zs, compP mt cnd f (xs.drop (i + 1)) s1 = .ok zs s' ∧ ys = (acc ++ [d]) ++ zs
        | _ => False) r3 (sat_of e3 fun S4 r4 => ⟨by omega, s4, r4, by rw [List.length_append]; simp; omega, zs', e4, by rw [ey, List.append_assoc]; rfl⟩)
      rw [den_setl, den_wipe] at this
      exact this
    | false => exact ⟨s3, r3, by omega, zs, run2, ey⟩
  · rintro acc S' ⟨s1, r1, hl, zs, run, ey⟩
    rw [List.drop_length] at run
    cases run
    rw [List.append_nil] at ey
    subst ey
    exact fin S' r1
variable {T : Type} {mt : PyData → Option T} {asg : T → List (Nat × PyData)} {cnd : T → M Bool} {f : T → M PyData} {g : ZG} {iter elt : Expr} {ifs : List Expr} {scope : Scope} {own : List (Str × Nat)} {o : List Nat}
theorem sat_comp {xs : List PyData} {s : Cells} {Q : List PyData → Cells → Prop} {E : Exn → Cells → Prop} (h : sat (comp mt cnd f xs s) Q E) : xs.length ≤ sizeLine ∧ ∃ ys s', compP mt cnd f xs s = .ok ys s' ∧ Q ys s' := by
  unfold comp at h
  obtain ⟨ys, s', e, q⟩ := sat_noex h
  split at e
  · rename_i hz
    rw [line_eq] at hz
    exact ⟨hz, ys, s', e, q⟩
  · cases e
theorem f_lc (hN : C.X.N.Nodup) (hi : FI C tg iter ρ mi) (ok : BlkOk C.X.N C.X.env.scope scope own) (zg : Blk C.X scope fun X => ZGt X C.B tg o g) (hg : GOk g mt asg) (ht : FTs C scope ifs (fun t => setl (vwipe ρ (own.map (·.2))) (asg t)) cnd) (he : FBlk C scope fun C => ∀ t, FE C elt (setl (vwipe ρ (own.map (·.2))) (asg t)) (f t))
    (hc : C.X.calm = true := by rfl) (hv : ∀ i ∈ o, i ∈ own.map (·.2) := by decide) (hs : ∀ x, foldedSetIterable iter C.X.env x = pure x := by intro _; rfl) : FE C (.ListComp elt [⟨tg, iter, ifs, 0⟩] scope pos) ρ (mi >>= fun xs => comp mt cnd f xs >>= fun ys => pure (.list ys)) := by
  intro ps s S Q r w
  refine (ze_lc hN wi_zi ok zg (ts_zts ht) web hc hv hs).we ?_
  refine hi ps s S _ r ((sat_bind w).mono (fun xs s1 w1 S1 r1 => ?_) fun _ _ h => h)
  obtain ⟨hz, ys, s', run, q⟩ := sat_comp (sat_bind w1)
  exact ⟨comp_turns hg (zg C.X.s_0 C.X.H_0 0 [] []).mono ht he r1 hz run (P := fun acc S' => Q (zl acc) S') q⟩
theorem n_lc (hN : C.X.N.Nodup) (hi : FI C tg iter ρ mi) (ok : BlkOk C.X.N C.X.env.scope scope own) (zg : Blk C.X scope fun X => ZGt X C.B tg o g) (hg : GOk g mt asg) (ht : FTs C scope ifs (fun t => setl (vwipe ρ (own.map (·.2))) (asg t)) cnd) (he : FBlk C scope fun C => ∀ t, FE C elt (setl (vwipe ρ (own.map (·.2))) (asg t)) (f t))
    (hc : C.X.calm = true := by rfl) (hv : ∀ i ∈ o, i ∈ own.map (·.2) := by decide) (hs : ∀ x, foldedSetIterable iter C.X.env x = pure x := by intro _; rfl) : FN C (.ListComp elt [⟨tg, iter, ifs, 0⟩] scope pos) ρ (mi >>= fun xs => comp mt cnd f xs) := by
  intro ps s S Q r w
  refine (ze_lcM hN wi_zi ok zg (ts_zts ht) web hc hv hs).we ?_
  refine hi ps s S _ r ((sat_bind w).mono (fun xs s1 w1 S1 r1 => ?_) fun _ _ h => h)
  obtain ⟨hz, ys, s', run, q⟩ := sat_comp w1
  exact ⟨comp_turns hg (zg C.X.s_0 C.X.H_0 0 [] []).mono ht he r1 hz run (P := fun acc S' => ∀ p, S' p = none → Q (.r p) (S'.put p (.lst acc))) fun S' r' p hp => q _ p (r'.new hp) (r'.fresh hp)⟩
end
end ZL

namespace V
open PySem PySem.Spec ZL L2
/-! how a def is handed what it is handed -/
inductive Md where
  | d | c | k
def unl : PyData → List PyData
  | .list xs => xs
  | _ => []
def encode : List Md → Nat → List PyData → List Vl
  | [], _, _ => []
  | .d :: ms, i, x :: ds => .d x :: encode ms i ds
  | .d :: _, _, [] => []
  | .c :: ms, i, ds => .c i :: encode ms (i + 1) ds
  | .k :: ms, i, x :: ds => .k (unl x) :: encode ms i ds
  | .k :: _, _, [] => []
def splitV : List Md → List Vl → Option (List Nat × List PyData)
  | [], [] => some ([], [])
  | .d :: ms, .d x :: vs => (splitV ms vs).map fun p => (p.1, x :: p.2)
  | .c :: ms, .c j :: vs => (splitV ms vs).map fun p => (j :: p.1, p.2)
  | .k :: ms, .k xs :: vs => (splitV ms vs).map fun p => (p.1, .list xs :: p.2)
  | _, _ => none
def nD : List Md → Nat
  | [] => 0
  | .c :: ms => nD ms
  | _ :: ms => nD ms + 1
def nC : List Md → Nat
  | [] => 0
  | .c :: ms => nC ms + 1
  | _ :: ms => nC ms
def nod : List Nat → Bool
  | [] => true
  | j :: r => !(r.contains j) && nod r
def callK (ms : List Md) (F : List PyData → M PyData) (vs : List Vl) : M PyData := match splitV ms vs with
  | some (js, ds) => bif nod js then sub js (F ds) else bad
  | none => bad
def callL (m : M PyData) : M (List PyData) := m >>= fun d => match d with
  | .list xs => pure xs
  | _ => bad
def callN (ms : List Md) (F : List PyData → M PyData) (vs : List Vl) : M (List PyData) := callL (callK ms F vs)
/-- a def's own cells behind those that it is handed -/
def frame (nl : Nat) (m : M PyData) : M PyData := fun s => match m (s ++ List.replicate nl none) with
  | .ok a s' => .ok a (s'.take s.length)
  | .ex x s' => .ex x (s'.take s.length)
  | .bad => .bad
def noC (j : Nat) : VEnv → Bool
  | [] => true
  | some (.c i) :: r => !(i == j) && noC j r
  | _ :: r => noC j r
def appC (j : Nat) (d : PyData) : M PyData := fun s => match s[j]? with
  | some (some (.lst xs)) => if xs.length < line then .ok .none (s.set j (some (.lst (xs ++ [d])))) else .bad
  | _ => .bad
def putC (j : Nat) (i d : PyData) : M Unit := fun s => match s[j]?, i with
  | some (some (.lst xs)), .int k => match ixN xs.length k with
    | some n => .ok () (s.set j (some (.lst (xs.set n d))))
    | none => .bad
  | _, _ => .bad
end V
namespace ZL
open PySem PySem.Spec PyProof.Rows L2 V
/-! ### a new list put to rest -/
def Sto.del (S : Sto) (a : Addr) : Sto := fun b => if b = a then none else S b
theorem del_same {S : Sto} {a : Addr} : S.del a a = none := by unfold Sto.del; rw [if_pos rfl]
theorem del_ne {S : Sto} {a b : Addr} (h : b ≠ a) : S.del a b = S b := by unfold Sto.del; rw [if_neg h]
theorem RS.lock {K : PySem.W.Frag} {B : Bs} {S : Sto} {H : Hp} {a : Addr} {xs : List V} {ds : List PyData} {o : Obj} (r : RS K B S H) (e : S a = some (.lst ds)) (h : H a = some (.lst xs)) :
    Le H (upd H a (.frz o (.lst xs))) ∧ Step S (S.del a) H (upd H a (.frz o (.lst xs))) ∧ RS K B (S.del a) (upd H a (.frz o (.lst xs))) := by
  have le : Le H (upd H a (.frz o (.lst xs))) := ⟨fun b zs q => by rw [upd_ne (ne_of q h fun z => nomatch z)]; exact q, fun b o u q => by rw [upd_ne (ne_of q h fun z => nomatch z)]; exact q⟩
  have st : Step S (S.del a) H (upd H a (.frz o (.lst xs))) := fun b u q n => by
    have ne : b ≠ a := fun z => by rw [z, e] at n; cases n
    exact ⟨by rw [upd_ne ne]; exact q, by rw [del_ne ne]; exact n⟩
  refine ⟨le, st, r.step (fun b c q => ?_) st⟩
  have ne : b ≠ a := fun z => by rw [z, del_same] at q; cases q
  rw [del_ne ne] at q
  cases c with
  | lst es =>
    obtain ⟨ys, h', f⟩ := r.1 b _ q
    exact ⟨ys, by rw [upd_ne ne]; exact h', f.le le⟩
theorem ze_rest {X : Cx} {B : Bs} {e : Expr} {t : ZT} (h : ZE X B e t) : ZE X B e (fun ρ S Q => t ρ S fun z S' => ∃ p xs, z = .r p ∧ S' p = some (.lst xs) ∧ Q (zl xs) (S'.del p)) := by
  refine ⟨fun q w => h.mono (fun z S' ⟨p, xs, e1, e2, w⟩ => ⟨p, xs, e1, e2, q _ _ w⟩) w, PE.imp (pe_rest h.pe) ?_⟩
  rintro σ H Q ⟨ρ, S, hE, hS, w⟩
  refine h.go hE hS w fun z S1 v H1 h1 st1 E1 R1 rz => ?_
  obtain ⟨p, xs, rfl, e2, w⟩ := h1
  cases rz
  obtain ⟨ws, hp, f⟩ := R1.1 p _ e2
  refine ⟨p, ws, rfl, hp, fun o => ?_⟩
  obtain ⟨le, st, rs⟩ := R1.lock (o := o) e2 hp
  exact w _ _ (st1.trans st) (.d (.lst ⟨o, upd_same⟩ (f.le le))) rs
theorem set_self {α : Type} {l : List α} {i : Nat} {a : α} (h : l[i]? = some a) : l.set i a = l := by
  apply List.ext_getElem?
  intro j
  by_cases q : i = j
  · subst q
    rw [List.getElem?_set_self (List.getElem?_eq_some_iff.mp h).1, h]
  · rw [List.getElem?_set_ne q]
theorem zss_lock {X : Cx} {B : Bs} {ss : List Stmt} {t : ZTS} (i : Nat) (h : ZSs X B ss t) : ZSs X B ss (fun D ρ S => ∃ p xs, ρ[i]? = some (some (.r p)) ∧ S p = some (.lst xs) ∧ t D (ρ.set i (some (zl xs))) (S.del p)) := by
  refine ⟨⟨fun pins s σ H E I ⟨ρ, S, D, hE, hS, l, p, xs, ei, e, w⟩ => ?_⟩⟩
  obtain ⟨ws, hp, f⟩ := hS.1 p _ e
  obtain ⟨o, I2⟩ := I.lock hp True.intro
  obtain ⟨le, st, rs⟩ := hS.lock (o := o) e hp
  obtain ⟨v, ev, rz⟩ := hE.get ei
  cases rz
  have E2 := (hE.le le).set i (v := .ref p) (z := zl xs) (.d (.lst ⟨o, upd_same⟩ (f.le le)))
  rw [set_self ev] at E2
  exact h.pss.run pins s σ _ E I2 ⟨_, _, D, E2, rs, l.step st, w⟩
theorem Rel.del {G : Gd} {ps : List Addr} {s : Cells} {S : Sto} {p : Addr} {xs : List PyData} (r : Rel G ps s S) (f : Fresh G ps s S p xs) : Rel G ps s (S.del p) := by
  refine ⟨r.len, fun j c a e1 e2 => ?_, r.inj, fun a c n e => ?_, r.loc, fun a ha => ?_, r.par⟩
  · rw [del_ne (fun z => f.2.1 j c e1 (by rw [← z]; exact e2))]; exact r.own j c a e1 e2
  · rw [del_ne (fun z => by rw [z, f.2.2.2] at e; cases e)]; exact r.fr a c n e
  · rw [del_ne (fun z : a = p => f.2.2.1 (by rw [← z]; exact ha))]; exact r.gp a ha
end ZL

namespace ZL
open PySem PySem.Spec PyProof.Rows L2 V
/-! ### what a def promises -/
/-- F: what is computed of the data handed in, over the cells handed in; rm: a new list is told, that may be changed -/
def VSp (mg : Str → Option Value) (ms : List Md) (rm : Bool) (F : List PyData → M PyData) : ZSp := fun zs S Q E => ∃ (ds : List PyData) (ps0 : List Addr) (s0 : Cells), zs = (encode ms 0 ds).map (Vl.den ps0) ∧ (encode ms 0 ds).length = ms.length ∧ ds.length = nD ms ∧ ps0.length = nC ms ∧ Rel ⟨ps0, S⟩ ps0 s0 S ∧
  sat (F ds s0) (fun d s' => (rm = false ∧ ∀ S', Rel ⟨ps0, S⟩ ps0 s' S' → Q (.d d) S') ∨ (rm = true ∧ ∃ xs, d = .list xs ∧ ∀ S' p, Rel ⟨ps0, S⟩ ps0 s' S' → Fresh ⟨ps0, S⟩ ps0 s' S' p xs → Q (.r p) S')) fun x s' => ∀ zx S', Rel ⟨ps0, S⟩ ps0 s' S' → XR mg x zx → E zx S'
theorem vsp_mono {mg : Str → Option Value} {ms : List Md} {rm : Bool} {F : List PyData → M PyData} {zs : List Z} {S : Sto} {Q Q' : ZQ} {E E' : ZX → Sto → Prop} (q : ∀ z S', Q z S' → Q' z S') (e : ∀ x S', E x S' → E' x S') (h : VSp mg ms rm F zs S Q E) : VSp mg ms rm F zs S Q' E' := by
  obtain ⟨ds, ps0, s0, e1, e0, e2, e3, r, w⟩ := h
  refine ⟨ds, ps0, s0, e1, e0, e2, e3, r, w.mono (fun d s' h => ?_) fun x s' h zx S' a b => e _ _ (h zx S' a b)⟩
  rcases h with ⟨h1, h⟩ | ⟨h1, xs, e, h⟩
  · exact .inl ⟨h1, fun S' a => q _ _ (h S' a)⟩
  · exact .inr ⟨h1, xs, e, fun S' p a b => q _ _ (h S' p a b)⟩
theorem vsp_len {mg : Str → Option Value} {ms : List Md} {rm : Bool} {F : List PyData → M PyData} {n : Nat} (hn : ms.length = n) : ∀ zs S Q E, VSp mg ms rm F zs S Q E → zs.length = n := by
  rintro zs S Q E ⟨ds, ps0, s0, e1, e0, _⟩
  rw [e1, List.length_map, e0, hn]
/-- the caller's arguments as the callee's -/
theorem split_den (ps : List Addr) : ∀ (ms : List Md) (vs : List Vl) (js : List Nat) (ds : List PyData) (pre : List Addr), splitV ms vs = some (js, ds) → vs.map (Vl.den ps) = (encode ms pre.length ds).map (Vl.den (pre ++ js.map (ps.getD · 0))) ∧ (encode ms pre.length ds).length = ms.length ∧ ds.length = nD ms ∧ js.length = nC ms
  | [], [], js, ds, pre, h => by cases h; exact ⟨rfl, rfl, rfl, rfl⟩
  | .d :: ms, .d x :: vs, js, ds, pre, h => by
    simp only [splitV, Option.map_eq_some_iff] at h
    obtain ⟨⟨js', ds'⟩, e, h⟩ := h
    cases h
    obtain ⟨h1, h2, h3, h4⟩ := split_den ps ms vs _ _ pre e
    exact ⟨by simp only [List.map_cons, encode, h1]; rfl, by simp only [encode, List.length_cons, h2], by simp only [nD, List.length_cons, h3], h4⟩
  | .c :: ms, .c j :: vs, js, ds, pre, h => by
    simp only [splitV, Option.map_eq_some_iff] at h
    obtain ⟨⟨js', ds'⟩, e, h⟩ := h
    cases h
    obtain ⟨h1, h2, h3, h4⟩ := split_den ps ms vs js' _ (pre ++ [ps.getD j 0]) e
    rw [List.length_append, List.append_assoc] at h1
    rw [List.length_append] at h2
    refine ⟨?_, congrArg (· + 1) h2, h3, by simp only [nC, List.length_cons, h4]⟩
    simp only [List.map_cons, encode, h1]
    congr 1
    simp [Vl.den]
  | .k :: ms, .k xs :: vs, js, ds, pre, h => by
    simp only [splitV, Option.map_eq_some_iff] at h
    obtain ⟨⟨js', ds'⟩, e, h⟩ := h
    cases h
    obtain ⟨h1, h2, h3, h4⟩ := split_den ps ms vs _ _ pre e
    exact ⟨by simp only [List.map_cons, encode, h1]; rfl, by simp only [encode, List.length_cons, h2], by simp only [nD, List.length_cons, h3], h4⟩
  | [], _ :: _, _, _, _, h => by simp [splitV] at h
  | .d :: _, [], _, _, _, h => by simp [splitV] at h
  | .d :: _, .c _ :: _, _, _, _, h => by simp [splitV] at h
  | .d :: _, .k _ :: _, _, _, _, h => by simp [splitV] at h
  | .c :: _, [], _, _, _, h => by simp [splitV] at h
  | .c :: _, .d _ :: _, _, _, _, h => by simp [splitV] at h
  | .c :: _, .k _ :: _, _, _, _, h => by simp [splitV] at h
  | .k :: _, [], _, _, _, h => by simp [splitV] at h
  | .k :: _, .d _ :: _, _, _, _, h => by simp [splitV] at h
  | .k :: _, .c _ :: _, _, _, _, h => by simp [splitV] at h
theorem pick_at (s : Cells) : ∀ (js : List Nat) (i : Nat) (c : Cell), (pick s js)[i]? = some (some c) → ∃ j, js[i]? = some j ∧ s[j]? = some (some c)
  | [], i, c, h => by simp [pick] at h
  | j :: r, 0, c, h => by
    refine ⟨j, rfl, ?_⟩
    simp only [pick, List.getElem?_cons_zero, Option.some.injEq, List.getD_eq_getElem?_getD] at h
    cases e : s[j]? with
    | none => rw [e] at h; cases h
    | some o => rw [e] at h; simpa using h
  | j :: r, i + 1, c, h => by
    obtain ⟨j', e1, e2⟩ := pick_at s r i c (by simpa [pick] using h)
    exact ⟨j', by simpa using e1, e2⟩
theorem pick_len (s : Cells) : ∀ js : List Nat, (pick s js).length = js.length
  | [] => rfl
  | j :: r => by simp [pick, pick_len s r]
theorem nod_nodup : ∀ {js : List Nat}, nod js = true → js.Nodup
  | [], _ => .nil
  | j :: r, h => by
    simp only [nod, Bool.and_eq_true, Bool.not_eq_true', List.contains_eq_mem, decide_eq_false_iff_not] at h
    exact List.nodup_cons.mpr ⟨h.1, nod_nodup h.2⟩
theorem put_len : ∀ (js : List Nat) (s s' : Cells), (V.put s js s').length = s.length
  | [], s, s' => by cases s' <;> rfl
  | j :: r, s, [] => rfl
  | j :: r, s, c :: cs => by simp [V.put, put_len r]
theorem put_get : ∀ (js : List Nat) (s s' : Cells) (k : Nat), js.Nodup → s'.length = js.length → (V.put s js s')[k]? = (if k ∈ js then (if k < s.length then s'[js.idxOf k]? else none) else s[k]?)
  | [], s, s', k, _, _ => by cases s' <;> simp [V.put]
  | j :: r, s, [], k, _, h => by simp at h
  | j :: r, s, c :: cs, k, nd, h => by
    have nd' := List.nodup_cons.mp nd
    simp only [V.put]
    rw [put_get r (s.set j c) cs k nd'.2 (by simpa using h)]
    by_cases q : k = j
    · subst q
      simp only [nd'.1, if_false, List.mem_cons, true_or, if_true, List.idxOf_cons_self, List.getElem?_cons_zero]
      rw [List.getElem?_set]
      simp
    · simp only [List.mem_cons, q, false_or, List.length_set]
      rw [List.getElem?_set_ne (Ne.symm q)]
      by_cases hk : k ∈ r
      · simp only [hk, if_true]
        have e2 : (j :: r).idxOf k = r.idxOf k + 1 := by
          rw [List.idxOf_cons]
          have : (j == k) = false := by simpa using (Ne.symm q)
          rw [this]; rfl
        rw [e2, List.getElem?_cons_succ]
      · simp only [hk, if_false]
theorem getD_at {ps : List Addr} {j : Nat} {a : Addr} (h : ps[j]? = some a) : ps.getD j 0 = a := by
  rw [List.getD_eq_getElem?_getD, h]; rfl
/-- into a callee .. -/
theorem Rel.into {G : Gd} {ps : List Addr} {s : Cells} {S : Sto} (r : Rel G ps s S) {js : List Nat} (nd : js.Nodup) (live : ∀ j ∈ js, ∃ c, s[j]? = some (some c)) : Rel ⟨js.map (ps.getD · 0), S⟩ (js.map (ps.getD · 0)) (pick s js) S := by
  have at' : ∀ {i : Nat} {c : Cell} {a : Addr}, (pick s js)[i]? = some (some c) → (js.map (ps.getD · 0))[i]? = some a → ∃ j, js[i]? = some j ∧ s[j]? = some (some c) ∧ ps[j]? = some a := by
    intro i c a e1 e2
    obtain ⟨j, h1, h2⟩ := pick_at s js i c e1
    rw [List.getElem?_map, h1] at e2
    cases e2
    exact ⟨j, h1, h2, (r.at h2).1⟩
  refine ⟨by rw [List.length_map, pick_len], fun i c a e1 e2 => ?_, fun i k ci ck a e1 e2 e3 e4 => ?_, fun a c _ e => e, fun i c a e1 e2 => ?_, fun a ha => ?_, List.take_length⟩
  · obtain ⟨j, h1, h2, h3⟩ := at' e1 e2
    exact r.own j c a h2 h3
  · obtain ⟨j, h1, h2, h3⟩ := at' e1 e3
    obtain ⟨j', h1', h2', h3'⟩ := at' e2 e4
    have := r.inj j j' ci ck a h2 h2' h3 h3'
    subst this
    exact (List.getElem?_inj (List.getElem?_eq_some_iff.mp h1).1 nd).mp (h1.trans h1'.symm)
  · refine .inl ⟨(List.getElem?_eq_some_iff.mp e2).1, List.mem_of_getElem? e2⟩
  · obtain ⟨j, hj, rfl⟩ := List.mem_map.mp ha
    obtain ⟨c, hc⟩ := live j hj
    rw [(r.at hc).2]
    exact fun z => nomatch z
/-- .. and back -/
theorem Rel.back {G : Gd} {ps : List Addr} {s s' : Cells} {S S' : Sto} (r : Rel G ps s S) {js : List Nat} (nd : js.Nodup) (live : ∀ j ∈ js, ∃ c, s[j]? = some (some c)) (r' : Rel ⟨js.map (ps.getD · 0), S⟩ (js.map (ps.getD · 0)) s' S') : Rel G ps (V.put s js s') S' := by
  have hl : s'.length = js.length := by rw [← r'.len, List.length_map]
  have get : ∀ {k : Nat} {c : Cell}, (V.put s js s')[k]? = some (some c) → (∃ i : Nat, js[i]? = some k ∧ s'[i]? = some (some c)) ∨ (k ∉ js ∧ s[k]? = some (some c)) := by
    intro k c e
    rw [put_get js s s' k nd hl] at e
    by_cases q : k ∈ js
    · simp only [q, if_true] at e
      split at e
      · refine .inl ⟨js.idxOf k, ?_, e⟩
        rw [List.getElem?_eq_getElem (List.idxOf_lt_length_of_mem q), List.getElem_idxOf]
      · cases e
    · simp only [q, if_false] at e
      exact .inr ⟨q, e⟩
  have was : ∀ {k : Nat} {c : Cell}, (V.put s js s')[k]? = some (some c) → ∃ c0, s[k]? = some (some c0) := by
    intro k c e
    rcases get e with ⟨i, h1, _⟩ | ⟨_, h⟩
    · exact live k (List.mem_of_getElem? h1)
    · exact ⟨_, h⟩
  have keep : ∀ {a : Addr} {c : Cell}, (∀ j ∈ js, ps[j]? ≠ some a) → S a = some c → S' a = some c := by
    intro a c n e
    refine r'.fr a c ?_ e
    intro z
    obtain ⟨j, hj, ej⟩ := List.mem_map.mp z
    obtain ⟨c', hc'⟩ := live j hj
    exact n j hj (by rw [(r.at hc').1]; exact congrArg some ej)
  refine ⟨by rw [put_len]; exact r.len, fun k c a e1 e2 => ?_, fun i k ci ck a e1 e2 e3 e4 => ?_, fun a c n e => ?_, fun k c a e1 e2 => ?_, fun a ha => ?_, r.par⟩
  · rcases get e1 with ⟨i, h1, h2⟩ | ⟨n, h⟩
    · exact r'.own i c a h2 (by rw [List.getElem?_map, h1]; exact congrArg some (getD_at e2))
    · refine keep (fun j hj z => ?_) (r.own k c a h e2)
      obtain ⟨c', hc'⟩ := live j hj
      have := r.inj k j c c' a h hc' e2 z
      exact n (this ▸ hj)
  · obtain ⟨c1, h1⟩ := was e1
    obtain ⟨c2, h2⟩ := was e2
    exact r.inj i k c1 c2 a h1 h2 e3 e4
  · refine keep (fun j hj z => ?_) (r.fr a c n e)
    obtain ⟨c', hc'⟩ := live j hj
    rcases r.loc j c' a hc' z with q | q
    · exact n q.2
    · rw [q.2.2] at e; cases e
  · obtain ⟨c1, h1⟩ := was e1
    exact r.loc k c1 a h1 e2
  · by_cases q : ∃ j ∈ js, ps[j]? = some a
    · obtain ⟨j, hj, e⟩ := q
      refine r'.gp a (List.mem_map.mpr ⟨j, hj, getD_at e⟩)
    · cases e : S a with
      | none => exact absurd e (r.gp a ha)
      | some c => rw [keep (fun j hj z => q ⟨j, hj, z⟩) e]; exact fun z => nomatch z
theorem Rel.back_fresh {G : Gd} {ps : List Addr} {s s' : Cells} {S S' : Sto} (r : Rel G ps s S) {js : List Nat} (nd : js.Nodup) (live : ∀ j ∈ js, ∃ c, s[j]? = some (some c)) (r' : Rel ⟨js.map (ps.getD · 0), S⟩ (js.map (ps.getD · 0)) s' S') {p : Addr} {xs : List PyData} (f : Fresh ⟨js.map (ps.getD · 0), S⟩ (js.map (ps.getD · 0)) s' S' p xs) : Fresh G ps (V.put s js s') S' p xs := by
  have hl : s'.length = js.length := by rw [← r'.len, List.length_map]
  have n0 : S p = none := f.2.2.2
  refine ⟨f.1, fun k c e1 e2 => ?_, fun z => r.gp p z n0, ?_⟩
  · rw [put_get js s s' k nd hl] at e1
    by_cases q : k ∈ js
    · obtain ⟨c', hc'⟩ := live k q
      rw [r.own k c' p hc' e2] at n0; cases n0
    · simp only [q, if_false] at e1
      rw [r.own k c p e1 e2] at n0; cases n0
  · cases e : G.S p with
    | none => rfl
    | some c =>
      by_cases q : p ∈ G.p
      · exact absurd n0 (r.gp p q)
      · rw [r.fr p c q e] at n0; cases n0
theorem live_of {s : Cells} {js : List Nat} (h : liveB s js = true) : ∀ j ∈ js, ∃ c, s[j]? = some (some c) := by
  intro j hj
  have := List.all_eq_true.mp h j hj
  rw [List.getD_eq_getElem?_getD] at this
  cases e : s[j]? with
  | none => rw [e] at this; simp at this
  | some o =>
    rw [e] at this
    cases o with
    | none => simp at this
    | some c => exact ⟨c, rfl⟩
end ZL

namespace ZL
open PySem PySem.Spec PyProof.Rows L2 V
section
variable {C : Ct} {e a b c tg : Expr} {es : List Expr} {ρ : VEnv} {pos p : Pos} {m : M PyData} {mN : M (List PyData)}
/-- a new list that is put to rest at once -/
theorem f_rest (h : FN C e ρ mN) : FE C e ρ (mN >>= fun xs => pure (.list xs)) := by
  intro ps s S Q r w
  refine (ze_rest we_ze).we ?_
  refine h ps s S _ r ((sat_bind w).mono (fun xs s' w' S' p r' f => ?_) fun _ _ h => h)
  exact ⟨p, xs, rfl, f.1, w' _ (r'.del f)⟩
theorem sat_sub {α : Type} {js : List Nat} {m : M α} {s : Cells} {Q : α → Cells → Prop} {E : Exn → Cells → Prop} (h : sat (sub js m s) Q E) : liveB s js = true ∧ sat (m (pick s js)) (fun a s' => Q a (V.put s js s')) (fun x s' => E x (V.put s js s')) := by
  unfold sub at h
  cases e : liveB s js with
  | false => rw [e] at h; exact h.elim
  | true =>
    rw [e] at h
    refine ⟨rfl, ?_⟩
    unfold sat at *
    cases e2 : m (pick s js) with
    | ok a s' => simp only [cond_true, e2] at h; exact h
    | ex x s' => simp only [cond_true, e2] at h; exact h
    | bad => simp only [cond_true, e2] at h
/-! calls of defs -/
variable {k : Nat} {f : Addr} {fd : FuncData} {ps' : List Str} {ms : List Md} {rm : Bool} {F : List PyData → M PyData} {x : Str}
theorem call_low {ps : List Addr} {s : Cells} {S : Sto} {vs : List Vl} {Q : ZQ} (r : Rel C.G ps s S) {js : List Nat} {ds : List PyData} (es : splitV ms vs = some (js, ds)) (nd : nod js = true) (w : sat (sub js (F ds) s) (fun d s' => (rm = false ∧ ∀ S', Rel C.G ps s' S' → Q (.d d) S') ∨ (rm = true ∧ ∃ xs, d = .list xs ∧ ∀ S' p, Rel C.G ps s' S' → Fresh C.G ps s' S' p xs → Q (.r p) S')) (XOk C.X.mg C.G C.EZ)) :
    VSp C.X.mg ms rm F (vs.map (Vl.den ps)) S Q (fun zx S' => C.EZ zx S') := by
  obtain ⟨h1, h2, h3, h4⟩ := split_den ps ms vs js ds [] es
  obtain ⟨lv, w⟩ := sat_sub w
  have nd := nod_nodup nd
  have live := live_of lv
  refine ⟨ds, js.map (ps.getD · 0), pick s js, h1, h2, h3, by rw [List.length_map]; exact h4, r.into nd live, w.mono (fun d s' h => ?_) fun x s' h zx S' r' xr => h zx ps S' (r.back nd live r') xr⟩
  rcases h with ⟨e, h⟩ | ⟨e, xs, ed, h⟩
  · exact .inl ⟨e, fun S' r' => h S' (r.back nd live r')⟩
  · exact .inr ⟨e, xs, ed, fun S' p r' fr => h S' p (r.back nd live r') (r.back_fresh nd live r' fr)⟩
theorem sat_callK {vs : List Vl} {s : Cells} {Q : PyData → Cells → Prop} {E : Exn → Cells → Prop} (h : sat (callK ms F vs s) Q E) : ∃ js ds, splitV ms vs = some (js, ds) ∧ nod js = true ∧ sat (sub js (F ds) s) Q E := by
  unfold callK at h
  cases e : splitV ms vs with
  | none => rw [e] at h; exact h.elim
  | some p =>
    obtain ⟨js, ds⟩ := p
    rw [e] at h
    cases e2 : nod js with
    | false => simp only [e2, cond_false] at h; exact h.elim
    | true => simp only [e2, cond_true] at h; exact ⟨js, ds, rfl, e2, h⟩
theorem f_call (Fn : ZFn C.X.prog C.X.w C.X.K C.X.mg C.X.base k f fd ps' (VSp C.X.mg ms false F)) (hG : C.X.A.guards = some []) (hr : Room k C.X.A) (hm : C.X.mg x = some (.ref f)) (hk : PySem.W.keepIn C.X.K (.ref f) = true) (hb : Binds C.X.K fd ps' []) (hx : Tk C.X C.B (fun _ zx S => C.EZ zx S))
    (ha : FA C (e :: es) ρ [] m (callK ms F)) (hg : Gl C.X x := by rfl) (hdb : (x == ("__debug__" : Str)) = false := by decide) (he : starEach (e :: es) C.X.env = (false, eval e C.X.env) :: starEach es C.X.env := by rfl) (hpl : (backTo pos (starEach es C.X.env)).any (·.1) = false := by rfl) : FE C (.Call (.Name x p) (e :: es) [] pos) ρ m := by
  intro ps s S Q r w
  refine (ze_call Fn hG hr hm hk hb hx wa_za hg hdb he hpl).we ?_
  refine ha ps s S _ _ r w fun vs s' S' r' w' => ?_
  rw [List.nil_append] at w'
  obtain ⟨js, ds, e1, nd, w2⟩ := sat_callK w'
  exact call_low r' e1 nd (w2.mono (fun d s2 h => .inl ⟨rfl, h⟩) fun _ _ h => h)
theorem n_call (Fn : ZFn C.X.prog C.X.w C.X.K C.X.mg C.X.base k f fd ps' (VSp C.X.mg ms true F)) (hG : C.X.A.guards = some []) (hr : Room k C.X.A) (hm : C.X.mg x = some (.ref f)) (hk : PySem.W.keepIn C.X.K (.ref f) = true) (hb : Binds C.X.K fd ps' []) (hx : Tk C.X C.B (fun _ zx S => C.EZ zx S))
    (ha : FA C (e :: es) ρ [] mN (callN ms F)) (hg : Gl C.X x := by rfl) (hdb : (x == ("__debug__" : Str)) = false := by decide) (he : starEach (e :: es) C.X.env = (false, eval e C.X.env) :: starEach es C.X.env := by rfl) (hpl : (backTo pos (starEach es C.X.env)).any (·.1) = false := by rfl) : FN C (.Call (.Name x p) (e :: es) [] pos) ρ mN := by
  intro ps s S Q r w
  refine (ze_call Fn hG hr hm hk hb hx wa_za hg hdb he hpl).we ?_
  refine ha ps s S _ _ r w fun vs s' S' r' w' => ?_
  rw [List.nil_append] at w'
  obtain ⟨js, ds, e1, nd, w2⟩ := sat_callK (sat_bind w')
  refine call_low r' e1 nd (w2.mono (fun d s2 h => ?_) fun _ _ h => h)
  cases d with
  | list xs => exact .inr ⟨rfl, xs, rfl, h⟩
  | _ => exact h.elim
end

/-! ### statements -/
def FlOk (C : Ct) (rm : Bool) (D : ZEnds) {L T : Type} (emb : T → VEnv) (embL : L → VEnv) : Fl L T → Cells → Prop
  | .nx t, s => ∀ ps S ρ, Rel C.G ps s S → Fg (emb t) ρ → D.nx (VEnv.den ps ρ) S
  | .bk l, s => ∀ ps S ρ, Rel C.G ps s S → Fg (embL l) ρ → D.bk (VEnv.den ps ρ) S
  | .ct l, s => ∀ ps S ρ, Rel C.G ps s S → Fg (embL l) ρ → D.ct (VEnv.den ps ρ) S
  | .rt v, s => (rm = false ∧ ∀ ps S, Rel C.G ps s S → D.rt (.d v) S) ∨ (rm = true ∧ ∃ xs, v = .list xs ∧ ∀ ps S p, Rel C.G ps s S → Fresh C.G ps s S p xs → D.rt (.r p) S)
def WSK (X : Cx) (B : Bs) : List (List Stmt) → List Stmt → ZTS
  | [], ss => WSs X B ss
  | r :: K, ss => fun D ρ S => WSs X B ss { D with nx := fun ρ S => WSK X B K r D ρ S } ρ S
theorem wsk_cons {X : Cx} {B : Bs} {K : List (List Stmt)} {st : Stmt} {rest : List Stmt} {t : ZTS} (h : ZS X B st t) {D : ZEnds} {ρ : ZEnv} {S : Sto} (w : t { D with nx := fun ρ S => WSK X B K rest D ρ S } ρ S) : WSK X B K (st :: rest) D ρ S := by
  cases K with
  | nil => exact (zss_cons h wss_zss).we w
  | cons r K => exact (zss_cons h wss_zss).we w
theorem WSK.forget {X : Cx} {B : Bs} {K : List (List Stmt)} {ss : List Stmt} {D : ZEnds} {ρ ρ' : ZEnv} {S : Sto} (f : Fgz ρ' ρ) (w : WSK X B K ss D ρ' S) : WSK X B K ss D ρ S := by
  cases K with
  | nil => exact WSs.forget f w
  | cons r K => exact WSs.forget f w
/-- a block computes what m does -/
def FS (C : Ct) (rm : Bool) (K : List (List Stmt)) (ss : List Stmt) (ρ : VEnv) {L T : Type} (emb : T → VEnv) (embL : L → VEnv) (m : M (Fl L T)) : Prop := ∀ ps s S (D : ZEnds), Rel C.G ps s S → sat (m s) (FlOk C rm D emb embL) (XOk C.X.mg C.G C.EZ) → WSK C.X C.B K ss D (VEnv.den ps ρ) S
section
variable {C : Ct} {rm : Bool} {e a b c tg : Expr} {es : List Expr} {ρ : VEnv} {pos p : Pos} {K : List (List Stmt)} {rest body orelse : List Stmt} {L T T1 : Type} {emb : T → VEnv} {embL : L → VEnv} {m : M (Fl L T)} {me mi : M PyData} {mN : M (List PyData)}
theorem s_pop (h : FS C rm K rest ρ emb embL m) : FS C rm (rest :: K) [] ρ emb embL m := fun ps s S D r w => zss_nil.we (h ps s S D r w)
theorem s_end {t : T} (h : Fg (emb t) ρ) : FS C rm [] [] ρ emb embL (pure (.nx t)) := fun ps s S D r w => zss_nil.we (w ps S ρ r h)
theorem s_end0 {n : Nat} (h : ρ.length = n := by rfl) : FS C rm [] [] ρ (fun _ : Unit => List.replicate n none) embL (pure (.nx ())) := by
  subst h
  exact s_end (Fg.none ρ)
theorem s_set (i : Nat) {x : Str} {pos' : Pos} {k : PyData → M (Fl L T)} (hN : C.X.N.Nodup) (he : FE C e ρ me) (hr : ∀ v, FS C rm K rest (ρ.set i (some (.d v))) emb embL (k v)) (hi : C.X.N[i]? = some x := by rfl) (hx : Loc C.X.env.scope x := by first | exact Or.inl rfl | exact Or.inr rfl) (hs : swapsWith e (some (.Name x pos')) pos.line C.X.env = pure false := by rfl) (hf : C.X.fn x = true ∨ C.X.env.scope.names.lookup x = some .local := by first | exact .inl rfl | exact .inr rfl | assumption) :
    FS C rm K (.Assign [.Name x pos'] e pos :: rest) ρ emb embL (me >>= k) := by
  intro ps s S D r w
  refine wsk_cons (zs_set i hN we_ze hi hx hs hf) ?_
  refine he ps s S _ r ((sat_bind w).mono (fun v s' w' S' r' => ?_) fun _ _ h => h)
  have := hr v ps s' S' D r' w'
  rw [den_set] at this
  exact this
theorem fgz_lay {ps : List Addr} {p : Addr} {j : Nat} : ∀ {ρ : VEnv}, noC j ρ = true → VEnv.den (ps.set j p) ρ = VEnv.den ps ρ
  | [], _ => rfl
  | o :: r, h => by
    have hd : noC j r = true := by
      cases o with
      | none => exact h
      | some v =>
        cases v with
        | c i => simp only [noC, Bool.and_eq_true] at h; exact h.2
        | d x => exact h
        | k x => exact h
    show Option.map (Vl.den (ps.set j p)) o :: VEnv.den (ps.set j p) r = Option.map (Vl.den ps) o :: VEnv.den ps r
    rw [fgz_lay hd]
    congr 1
    cases o with
    | none => rfl
    | some v =>
      cases v with
      | d x => rfl
      | k x => rfl
      | c i =>
        simp only [noC, Bool.and_eq_true, Bool.not_eq_true', beq_eq_false_iff_ne] at h
        show some (Z.r _) = some (Z.r _)
        congr 2
        rw [List.getD_eq_getElem?_getD, List.getD_eq_getElem?_getD, List.getElem?_set_ne (Ne.symm h.1)]
theorem den_lay {ps : List Addr} {p : Addr} {j i : Nat} {ρ : VEnv} (hj : j < ps.length) (h : noC j (ρ.set i none) = true) : VEnv.den (ps.set j p) (ρ.set i (some (.c j))) = (VEnv.den ps ρ).set i (some (.r p)) := by
  have e1 : ρ.set i (some (.c j)) = (ρ.set i none).set i (some (.c j)) := by rw [List.set_set]
  rw [e1, den_set, fgz_lay h, den_set, List.set_set]
  congr 1
  show some (Z.r _) = some (Z.r p)
  rw [List.getD_eq_getElem?_getD, List.getElem?_set_self hj]
  rfl
theorem sat_setC {j : Nat} {xs : List PyData} {s : Cells} {Q : Unit → Cells → Prop} {E : Exn → Cells → Prop} (h : sat (setC j xs s) Q E) : j < s.length ∧ Q () (s.set j (some (.lst xs))) := by
  unfold setC at h
  split at h
  · rename_i hj; exact ⟨hj, h⟩
  · exact h.elim
/-- a new list into a cell -/
theorem s_setC (i j : Nat) {x : Str} {pos' : Pos} {k : Unit → M (Fl L T)} (hl : C.G.p.length ≤ j) (hN : C.X.N.Nodup) (he : FN C e ρ mN) (hr : FS C rm K rest (ρ.set i (some (.c j))) emb embL (k ())) (hno : noC j (ρ.set i none) = true := by rfl) (hi : C.X.N[i]? = some x := by rfl) (hx : Loc C.X.env.scope x := by first | exact Or.inl rfl | exact Or.inr rfl) (hs : swapsWith e (some (.Name x pos')) pos.line C.X.env = pure false := by rfl) (hf : C.X.fn x = true ∨ C.X.env.scope.names.lookup x = some .local := by first | exact .inl rfl | exact .inr rfl | assumption) :
    FS C rm K (.Assign [.Name x pos'] e pos :: rest) ρ emb embL (mN >>= fun xs => setC j xs >>= k) := by
  intro ps s S D r w
  refine wsk_cons (zs_set i hN we_ze hi hx hs hf) ?_
  refine he ps s S _ r ((sat_bind w).mono (fun xs s' w' S' p r' f => ?_) fun _ _ h => h)
  obtain ⟨hj, w2⟩ := sat_setC (sat_bind w')
  have := hr (ps.set j p) _ S' D (r'.lay f j hj hl) w2
  rw [den_lay (by rw [r'.len]; exact hj) hno] at this
  exact this
theorem s_expr {k : PyData → M (Fl L T)} (he : FE C e ρ me) (hr : ∀ v, FS C rm K rest ρ emb embL (k v)) (hs : swapsWith e none pos.line C.X.env = pure false := by rfl) : FS C rm K (.Expr e pos :: rest) ρ emb embL (me >>= k) := by
  intro ps s S D r w
  refine wsk_cons (zs_expr we_ze hs) ?_
  exact he ps s S _ r ((sat_bind w).mono (fun v s' w' S' r' => hr v ps s' S' D r' w') fun _ _ h => h)
theorem s_pass (hr : FS C rm K rest ρ emb embL m) : FS C rm K (.Pass pos :: rest) ρ emb embL m := fun ps s S D r w => wsk_cons zs_pass (hr ps s S D r w)
theorem s_ret (he : FE C e ρ me) : FS C false K (.Return (some e) pos :: rest) ρ emb embL (me >>= fun v => pure (.rt v)) := by
  intro ps s S D r w
  refine wsk_cons (zs_ret we_ze) ?_
  refine he ps s S _ r ((sat_bind w).mono (fun v s' w' S' r' => ?_) fun _ _ h => h)
  rcases w' with ⟨_, h⟩ | ⟨h, _⟩
  · exact h ps S' r'
  · cases h
theorem s_retN : FS C false K (.Return none pos :: rest) ρ emb embL (pure (.rt .none)) := by
  intro ps s S D r w
  refine wsk_cons zs_retN ?_
  rcases w with ⟨_, h⟩ | ⟨h, _⟩
  · exact h ps S r
  · cases h
/-- a new list told -/
theorem s_retL (he : FN C e ρ mN) : FS C true K (.Return (some e) pos :: rest) ρ emb embL (mN >>= fun xs => pure (.rt (.list xs))) := by
  intro ps s S D r w
  refine wsk_cons (zs_ret we_ze) ?_
  refine he ps s S _ r ((sat_bind w).mono (fun v s' w' S' p r' f => ?_) fun _ _ h => h)
  rcases w' with ⟨h, _⟩ | ⟨_, xs, e, h⟩
  · cases h
  · cases e; exact h ps S' p r' f
/-- an own list told -/
theorem s_retC (i j : Nat) {x : Str} {p2 : Pos} (hl : C.G.p.length ≤ j) (hρ : ρ[i]? = some (some (.c j)) := by rfl) (hN : C.X.N[i]? = some x := by rfl) (hv : Vis C.X.env.scope x := by first | exact Or.inl rfl | exact Or.inr (Or.inl rfl) | exact Or.inr (Or.inr rfl)) (hd : (x == ("__debug__" : Str)) = false := by decide)
    (hcd : (x == ("__classdict__" : Str)) = false := by decide) : FS C true K (.Return (some (.Name x p2)) pos :: rest) ρ emb embL (getC j >>= fun xs => delC j >>= fun _ => pure (.rt (.list xs))) := by
  intro ps s S D r w
  refine wsk_cons (zs_ret (zv i hN hv hd hcd)) ?_
  show zVar i _ _ _
  unfold zVar
  rw [den_get ps ρ i hρ]
  obtain ⟨xs, ex, w⟩ := sat_getC (sat_bind w)
  have w := sat_bind w
  rcases w with ⟨h, _⟩ | ⟨_, ys, e, h⟩
  · cases h
  · cases e
    obtain ⟨e1, o1⟩ := r.at ex
    have hj : j < s.length := (List.getElem?_eq_some_iff.mp ex).1
    refine h ps S _ (r.drop j) ⟨o1, fun k c e2 e3 => ?_, ?_⟩
    · by_cases q : k = j
      · subst q
        rw [List.getElem?_set_self hj] at e2
        cases e2
      · rw [List.getElem?_set_ne (Ne.symm q)] at e2
        exact q (r.inj k j c _ _ e2 ex e3 e1)
    · rcases r.loc j _ _ ex e1 with q | q
      · omega
      · exact ⟨q.2.1, q.2.2⟩
/-- a cell at rest from here on -/
def lockC (j : Nat) : M (List PyData) := getC j >>= fun xs => delC j >>= fun _ => pure xs
theorem s_lock (i j : Nat) {k : List PyData → M (Fl L T)} (hl : C.G.p.length ≤ j) (hr : ∀ xs, FS C rm K rest (ρ.set i (some (.d (.list xs)))) emb embL (k xs)) (hρ : ρ[i]? = some (some (.c j)) := by rfl) : FS C rm K rest ρ emb embL (lockC j >>= k) := by
  intro ps s S D r w
  obtain ⟨xs, ex, w1⟩ := sat_getC (sat_bind (sat_bind w))
  have w2 := sat_bind w1
  have hj : j < s.length := (List.getElem?_eq_some_iff.mp ex).1
  obtain ⟨e1, o1⟩ := r.at ex
  have f : Fresh C.G ps (s.set j none) S (ps.getD j 0) xs := by
    refine ⟨o1, fun k c e2 e3 => ?_, ?_⟩
    · by_cases q : k = j
      · subst q
        rw [List.getElem?_set_self hj] at e2
        cases e2
      · rw [List.getElem?_set_ne (Ne.symm q)] at e2
        exact q (r.inj k j c _ _ e2 ex e3 e1)
    · rcases r.loc j _ _ ex e1 with q | q
      · omega
      · exact ⟨q.2.1, q.2.2⟩
  have go := hr xs ps (s.set j none) (S.del (ps.getD j 0)) D ((r.drop j).del f) w2
  rw [den_set] at go
  have lk : ∀ {D : ZEnds}, WSs C.X C.B rest D ((VEnv.den ps ρ).set i (some (zl xs))) (S.del (ps.getD j 0)) → WSs C.X C.B rest D (VEnv.den ps ρ) S := fun h => (zss_lock i wss_zss).we ⟨_, xs, den_get ps ρ i hρ, o1, h⟩
  cases K with
  | nil => exact lk go
  | cons r K => exact lk go
/-! branches -/
variable {mt : M Bool} {ma mb : M (Fl L T)} {m1 m2 : M (Fl L T1)} {emb1 : T1 → VEnv}
theorem s_if (hc : FT C c ρ mt) (h1 : FS C rm (rest :: K) body ρ emb embL ma) (h2 : FS C rm (rest :: K) orelse ρ emb embL mb) : FS C rm K (.If c body orelse pos :: rest) ρ emb embL (mt >>= fun t => bif t then ma else mb) := by
  intro ps s S D r w
  refine wsk_cons (zs_if wt_zt wss_zss wss_zss) ?_
  refine hc ps s S _ r ((sat_bind w).mono (fun t s' w' S' r' => ?_) fun _ _ h => h)
  cases t with
  | true => exact h1 ps s' S' D r' w'
  | false => exact h2 ps s' S' D r' w'
/-- both ways come together -/
theorem s_join {k : T1 → M (Fl L T)} (hc : FT C c ρ mt) (h1 : FS C rm [] body ρ emb1 embL m1) (h2 : FS C rm [] orelse ρ emb1 embL m2) (hr : ∀ t, FS C rm K rest (emb1 t) emb embL (k t)) : FS C rm K (.If c body orelse pos :: rest) ρ emb embL (mt >>= fun t => (bif t then m1 else m2) >>= flk k) := by
  intro ps s S D r w
  refine wsk_cons (zs_if wt_zt wss_zss wss_zss) ?_
  refine hc ps s S _ r ((sat_bind w).mono (fun t s' w' S' r' => ?_) fun _ _ h => h)
  have flow : ∀ (fl : Fl L T1) s2, sat (flk k fl s2) (FlOk C rm D emb embL) (XOk C.X.mg C.G C.EZ) → FlOk C rm { D with nx := fun ρ S => WSK C.X C.B K rest D ρ S } emb1 embL fl s2 := by
    intro fl s2 w2
    cases fl with
    | nx t => exact fun ps2 S2 ρ2 r2 f2 => WSK.forget (Fg.den ps2 f2) (hr t ps2 s2 S2 D r2 w2)
    | bk l => exact w2
    | ct l => exact w2
    | rt v => exact w2
  cases t with
  | true => exact h1 ps s' S' { D with nx := fun ρ S => WSK C.X C.B K rest D ρ S } r' ((sat_bind w').mono flow fun _ _ h => h)
  | false => exact h2 ps s' S' { D with nx := fun ρ S => WSK C.X C.B K rest D ρ S } r' ((sat_bind w').mono flow fun _ _ h => h)
theorem s_break {l : L} (h : Fg (embL l) ρ) : FS C rm K (.Break pos :: rest) ρ emb embL (pure (.bk l)) := fun ps s S D r w => wsk_cons zs_break (w ps S ρ r h)
theorem s_cont {l : L} (h : Fg (embL l) ρ) : FS C rm K (.Continue pos :: rest) ρ emb embL (pure (.ct l)) := fun ps s S D r w => wsk_cons zs_continue (w ps S ρ r h)
/-! targets -/
variable {α : Type} {pt : PyData → Option α} {g : ZG} {asg : α → List (Nat × PyData)} {own : List Nat}
theorem s_asg {k : α → M (Fl L T)} (he : FE C e ρ me) (zg : ZGt C.X C.B tg own g) (hg : GOk g pt asg) (hr : ∀ t, FS C rm K rest (setl ρ (asg t)) emb embL (k t)) (hs : swapsWithSole [tg] e pos.line C.X.env = pure false := by rfl) (hw : swappedStores [tg] e C.X.env = pure none := by rfl)
    (h1 : (assignEach [tg] C.X.env).map (·.2) = [assign tg C.X.env] := by rfl) : FS C rm K (.Assign [tg] e pos :: rest) ρ emb embL (me >>= fun v => ofO (pt v) >>= k) := by
  intro ps s S D r w
  refine wsk_cons (zs_asg we_ze zg hs hw h1) ?_
  refine he ps s S _ r ((sat_bind w).mono (fun v s' w' S' r' => ?_) fun _ _ h => h)
  obtain ⟨t, e, w2⟩ := sat_ofO (sat_bind w')
  refine hg v t _ S' _ e ?_
  have := hr t ps s' S' D r' w2
  rw [den_setl] at this
  exact this
theorem sat_putC {j : Nat} {i d : PyData} {s : Cells} {Q : Unit → Cells → Prop} {E : Exn → Cells → Prop} (h : sat (putC j i d s) Q E) : ∃ xs k n, s[j]? = some (some (.lst xs)) ∧ i = .int k ∧ ixN xs.length k = some n ∧ Q () (s.set j (some (.lst (xs.set n d)))) := by
  unfold putC at h
  split at h
  · rename_i xs k e
    split at h
    · rename_i n en; exact ⟨xs, k, n, e, rfl, en, h⟩
    · exact h.elim
  · exact h.elim
/-- x[i] = e -/
theorem s_sub (i0 j : Nat) {x : Str} {px pt' : Pos} {ix : Expr} {k : Unit → M (Fl L T)} (he : FE C e ρ me) (hi : FE C ix ρ mi) (hr : FS C rm K rest ρ emb embL (k ())) (hρ : ρ[i0]? = some (some (.c j)) := by rfl) (hN : C.X.N[i0]? = some x := by rfl) (hv : Vis C.X.env.scope x := by first | exact Or.inl rfl | exact Or.inr (Or.inl rfl) | exact Or.inr (Or.inr rfl)) (hd : (x == ("__debug__" : Str)) = false := by decide)
    (hcd : (x == ("__classdict__" : Str)) = false := by decide) (hs : swapsWithSole [.Subscript (.Name x px) ix pt'] e pos.line C.X.env = pure false := by rfl) (hw : swappedStores [.Subscript (.Name x px) ix pt'] e C.X.env = pure none := by rfl)
    (h1 : (assignEach [.Subscript (.Name x px) ix pt'] C.X.env).map (·.2) = [assign (.Subscript (.Name x px) ix pt') C.X.env] := by rfl)
    (has : ∀ v, assign (.Subscript (.Name x px) ix pt') C.X.env v = (do
      let ov ← holding [v] (eval (.Name x px) C.X.env)
      let iv ← holding [v, ov] (eval ix C.X.env)
      standAt pt'
      holding [v, ov, iv] (setItem ov iv v)
      release [v, ov, iv] []) := by intro _; rfl) :
    FS C rm K (.Assign [.Subscript (.Name x px) ix pt'] e pos :: rest) ρ emb embL (me >>= fun v => mi >>= fun i => putC j i v >>= k) := by
  intro ps s S D r w
  refine wsk_cons (zs_asg we_ze (zg_sub (zv i0 hN hv hd hcd) we_ze has) hs hw h1) ?_
  refine he ps s S _ r ((sat_bind w).mono (fun v s' w' S' r' => ?_) fun _ _ h => h)
  show zgSub _ _ _ _ _ _
  unfold zgSub
  show zVar i0 _ _ _
  unfold zVar
  rw [den_get ps ρ i0 hρ]
  refine hi ps s' S' _ r' ((sat_bind w').mono (fun i s2 w2 S2 r2 => ?_) fun _ _ h => h)
  obtain ⟨xs, kk, n, ex, rfl, en, w3⟩ := sat_putC (sat_bind w2)
  have o := (r2.at ex).2
  show (match S2 (ps.getD j 0) with
    | some (.lst xs) => match ixN xs.length kk with
      | some n => WSK C.X C.B K rest D (VEnv.den ps ρ) (S2.put (ps.getD j 0) (.lst (xs.set n v)))
      | none => False
    | none => False)
  rw [o]
  show (match ixN xs.length kk with
      | some n => WSK C.X C.B K rest D (VEnv.den ps ρ) (S2.put (ps.getD j 0) (.lst (xs.set n v)))
      | none => False)
  rw [en]
  exact hr ps _ _ D (r2.upd ex) w3
/-- x.append(e) -/
theorem f_app (i0 j : Nat) {x : Str} {px apos : Pos} (he : FE C e ρ me) (hρ : ρ[i0]? = some (some (.c j)) := by rfl) (hN : C.X.N[i0]? = some x := by rfl) (hv : Vis C.X.env.scope x := by first | exact Or.inl rfl | exact Or.inr (Or.inl rfl) | exact Or.inr (Or.inr rfl)) (hd : (x == ("__debug__" : Str)) = false := by decide)
    (hcd : (x == ("__classdict__" : Str)) = false := by decide)
    (pe : ∀ {ta : TE} {tb : TE}, PE C.X (.Name x px) ta → PE C.X e tb → PE C.X (.Call (.Attribute (.Name x px) "append" apos) [e] [] pos) (tBM C.X.K "list" rAppend ta (tCons tb tNil)) := by intro ta tb h1 h2; exact pe_bm PySem.F.plainAttrs_list PySem.F.slot_list_append PySem.F.type_list_append mt_append h1 (pa_cons h2 pa_nil)) :
    FE C (.Call (.Attribute (.Name x px) "append" apos) [e] [] pos) ρ (getC j >>= fun _ => me >>= fun d => appC j d) := by
  intro ps s S Q r w
  refine (ze_app (zv i0 hN hv hd hcd) we_ze pe).we ?_
  show zVar i0 _ _ _
  unfold zVar
  rw [den_get ps ρ i0 hρ]
  obtain ⟨xs, ex, w⟩ := sat_getC (sat_bind w)
  refine ⟨⟨xs, (r.at ex).2⟩, he ps s S _ r ((sat_bind w).mono (fun d s' w' S' r' => ?_) fun _ _ h => h)⟩
  unfold appC at w'
  cases e2 : s'[j]? with
  | none => simp only [e2] at w'; exact w'.elim
  | some o =>
    cases o with
    | none => simp only [e2] at w'; exact w'.elim
    | some cl =>
      cases cl with
      | lst ys =>
        simp only [e2] at w'
        split at w'
        · rename_i hz
          rw [line_eq] at hz
          show (match S' (ps.getD j 0) with
            | some (.lst xs) => xs.length < sizeLine ∧ Q (.d .none) (S'.put (ps.getD j 0) (.lst (xs ++ [d])))
            | none => False)
          rw [(r'.at e2).2]
          exact ⟨hz, w' _ (r'.upd e2)⟩
        · exact w'.elim
end
end ZL

namespace V
/-- turns enough -/
def fuel : Nat := 1000000000
end V
namespace ZL
open PySem PySem.Spec PyProof.Rows L2 V
section
variable {C : Ct} {rm : Bool} {e a b c tg iter : Expr} {es : List Expr} {ρ : VEnv} {pos p : Pos} {K : List (List Stmt)} {rest body orelse : List Stmt} {L T T1 α : Type} {emb : T → VEnv} {embL : L → VEnv} {emb1 : T1 → VEnv} {m : M (Fl L T)} {me : M PyData} {mi mN : M (List PyData)} {mt : M Bool}
  {pt : PyData → Option α} {g : ZG} {asg : α → List (Nat × PyData)} {own : List Nat}
theorem s_for {bodyM : α → T1 → M (Fl T1 T1)} {t0 : T1} {k : T1 → M (Fl L T)} (hp : PassesOwn (model C.X.prog C.X.w) C.X.A C.X.env C.X.xe) (hi : FI C tg iter ρ mi) (zg : ZGt C.X C.B tg own g) (hg : GOk g pt asg) (hb : ∀ u t, FS C rm [] body (setl (emb1 t) (asg u)) emb1 emb1 (bodyM u t)) (h0 : Fg (emb1 t0) ρ) (hr : ∀ t, FS C rm K rest (emb1 t) emb embL (k t)) (hc : C.X.calm = true := by rfl)
    (hs : ∀ x, foldedSetIterable iter C.X.env x = pure x := by intro _; rfl) : FS C rm K (.For tg iter body [] pos :: rest) ρ emb embL (mi >>= fun xs => V.forM pt bodyM xs t0 >>= flk k) := by
  intro ps s S D r w
  refine wsk_cons (zs_for hp wi_zi zg wss_zss hc hs) ?_
  refine hi ps s S _ r ((sat_bind w).mono (fun xs s' w' S' r' => ?_) fun _ _ h => h)
  -- what is wanted of the whole walk
  have W : ∃ W : Fl L T1 → Cells → Prop, W = FlOk C rm { D with nx := fun ρ S => WSK C.X C.B K rest D ρ S } emb1 embL := ⟨_, rfl⟩
  obtain ⟨W, eW⟩ := W
  have run : sat (V.forM (L := L) pt bodyM xs t0 s') W (XOk C.X.mg C.G C.EZ) := (sat_bind w').mono (fun fl s2 w2 => by
    subst eW
    cases fl with
    | nx t => exact fun ps2 S2 ρ2 r2 f2 => WSK.forget (Fg.den ps2 f2) (hr t ps2 s2 S2 D r2 w2)
    | bk l => exact w2
    | ct l => exact w2
    | rt v => exact w2) fun _ _ h => h
  refine ⟨⟨fun i ρz S' => ∃ t ps' s', Fgz (VEnv.den ps' (emb1 t)) ρz ∧ Rel C.G ps' s' S' ∧ sat (V.forM (L := L) pt bodyM (xs.drop i) t s') W (XOk C.X.mg C.G C.EZ), ⟨t0, ps, s', Fg.den ps h0, r', by rw [List.drop_zero]; exact run⟩, fun _ _ _ _ _ => need_nil, ?_, ?_⟩⟩
  · rintro i x ρz S' ex ⟨t, ps', s', fz, r', run⟩
    have hi : i < xs.length := (List.getElem?_eq_some_iff.mp ex).1
    have ed : xs.drop i = x :: xs.drop (i + 1) := by rw [← (List.getElem?_eq_some_iff.mp ex).2]; exact List.drop_eq_getElem_cons hi
    rw [ed] at run
    unfold V.forM at run
    obtain ⟨u, eu, run1⟩ := sat_ofO (sat_bind run)
    refine hg x u ρz S' _ eu ?_
    have go := hb u t ps' s' S' { D with nx := fun ρz S' => ∃ t ps' s', Fgz (VEnv.den ps' (emb1 t)) ρz ∧ Rel C.G ps' s' S' ∧ sat (V.forM (L := L) pt bodyM (xs.drop (i + 1)) t s') W (XOk C.X.mg C.G C.EZ), ct := fun ρz S' => ∃ t ps' s', Fgz (VEnv.den ps' (emb1 t)) ρz ∧ Rel C.G ps' s' S' ∧ sat (V.forM (L := L) pt bodyM (xs.drop (i + 1)) t s') W (XOk C.X.mg C.G C.EZ), bk := fun ρ S => WSK C.X C.B K rest D ρ S } r' ((sat_bind run1).mono (fun fl s2 w2 => by
      cases fl with
      | nx t' => exact fun ps2 S2 ρ2 r2 f2 => ⟨t', ps2, s2, Fg.den ps2 f2, r2, w2⟩
      | ct t' => exact fun ps2 S2 ρ2 r2 f2 => ⟨t', ps2, s2, Fg.den ps2 f2, r2, w2⟩
      | bk t' => subst eW; exact w2
      | rt v => subst eW; exact w2) fun _ _ h => h)
    rw [den_setl] at go
    exact WSs.forget (fg_setz _ fz) go
  · rintro ρz S' ⟨t, ps', s', fz, r', run⟩
    rw [List.drop_length] at run
    subst eW
    exact WSK.forget fz (run ps' S' _ r' (Fg.refl _))
theorem s_while {cM : T1 → M Bool} {bodyM : T1 → M (Fl T1 T1)} {t0 : T1} {n : Nat} {k : T1 → M (Fl L T)} (hp : PassesOwn (model C.X.prog C.X.w) C.X.A C.X.env C.X.xe) (hc : ∀ t, FT C c (emb1 t) (cM t)) (hb : ∀ t, FS C rm [] body (emb1 t) emb1 emb1 (bodyM t)) (h0 : Fg (emb1 t0) ρ) (hr : ∀ t, FS C rm K rest (emb1 t) emb embL (k t)) : FS C rm K (.While c body [] pos :: rest) ρ emb embL (V.whileM cM bodyM n t0 >>= flk k) := by
  intro ps s S D r w
  refine wsk_cons (zs_while hp wt_zt wss_zss) ?_
  have W : ∃ W : Fl L T1 → Cells → Prop, W = FlOk C rm { D with nx := fun ρ S => WSK C.X C.B K rest D ρ S } emb1 embL := ⟨_, rfl⟩
  obtain ⟨W, eW⟩ := W
  have run : sat (V.whileM (L := L) cM bodyM n t0 s) W (XOk C.X.mg C.G C.EZ) := (sat_bind w).mono (fun fl s2 w2 => by
    subst eW
    cases fl with
    | nx t => exact fun ps2 S2 ρ2 r2 f2 => WSK.forget (Fg.den ps2 f2) (hr t ps2 s2 S2 D r2 w2)
    | bk l => exact w2
    | ct l => exact w2
    | rt v => exact w2) fun _ _ h => h
  refine ⟨⟨fun m ρz S' => ∃ t ps' s', Fgz (VEnv.den ps' (emb1 t)) ρz ∧ Rel C.G ps' s' S' ∧ sat (V.whileM (L := L) cM bodyM m t s') W (XOk C.X.mg C.G C.EZ), ⟨n, t0, ps, s, Fg.den ps h0, r, run⟩, ?_⟩⟩
  rintro m ρz S' ⟨t, ps', s', fz, r', run⟩
  cases m with
  | zero => exact run.elim
  | succ m =>
    rw [V.whileM_succ] at run
    refine WT.forget fz (hc t ps' s' S' _ r' ((sat_bind run).mono (fun b s2 w2 S2 r2 => ?_) fun _ _ h => h))
    cases b with
    | true =>
      have go := hb t ps' s2 S2 { D with nx := fun ρz S' => ∃ m', m' < m + 1 ∧ ∃ t ps' s', Fgz (VEnv.den ps' (emb1 t)) ρz ∧ Rel C.G ps' s' S' ∧ sat (V.whileM (L := L) cM bodyM m' t s') W (XOk C.X.mg C.G C.EZ), ct := fun ρz S' => ∃ m', m' < m + 1 ∧ ∃ t ps' s', Fgz (VEnv.den ps' (emb1 t)) ρz ∧ Rel C.G ps' s' S' ∧ sat (V.whileM (L := L) cM bodyM m' t s') W (XOk C.X.mg C.G C.EZ), bk := fun ρ S => WSK C.X C.B K rest D ρ S } r2 ((sat_bind w2).mono (fun fl s3 w3 => by
        cases fl with
        | nx t' => exact fun ps3 S3 ρ3 r3 f3 => ⟨m, Nat.lt_succ_self _, t', ps3, s3, Fg.den ps3 f3, r3, w3⟩
        | ct t' => exact fun ps3 S3 ρ3 r3 f3 => ⟨m, Nat.lt_succ_self _, t', ps3, s3, Fg.den ps3 f3, r3, w3⟩
        | bk t' => subst eW; exact w3
        | rt v => subst eW; exact w3) fun _ _ h => h)
      exact WSs.forget fz go
    | false =>
      subst eW
      exact WSK.forget fz (w2 ps' S2 _ r2 (Fg.refl _))
variable {iter2 elt : Expr} {ifs : List Expr} {scope : Scope} {own2 : List (Str × Nat)} {o : List Nat} {cnd : α → M Bool} {f : α → M PyData}
theorem s_setLc (i : Nat) {y : Str} {py lpos : Pos} {k : PyData → M (Fl L T)} (hN : C.X.N.Nodup) (hi : FI C tg iter ρ mi) (ok : BlkOk C.X.N C.X.env.scope scope own2) (zg : Blk C.X scope fun X => ZGt X C.B tg o g) (hg : GOk g pt asg) (ht : FTs C scope ifs (fun t => setl (vwipe ρ (own2.map (·.2))) (asg t)) cnd) (he : FBlk C scope fun C => ∀ t, FE C elt (setl (vwipe ρ (own2.map (·.2))) (asg t)) (f t))
    (hr : ∀ v, FS C rm K rest (ρ.set i (some (.d v))) emb embL (k v)) (hc : C.X.calm = true := by rfl) (hy : C.X.N[i]? = some y := by rfl) (hyl : C.X.env.scope.names.lookup y = some .local := by rfl) (hsw : swapsWith (.ListComp elt [⟨tg, iter, ifs, 0⟩] scope lpos) (some (.Name y py)) pos.line C.X.env = pure true := by exact sw_true rfl rfl rfl (by decide +kernel))
    (hv : ∀ i ∈ o, i ∈ own2.map (·.2) := by decide) (hs : ∀ x, foldedSetIterable iter C.X.env x = pure x := by intro _; rfl) : FS C rm K (.Assign [.Name y py] (.ListComp elt [⟨tg, iter, ifs, 0⟩] scope lpos) pos :: rest) ρ emb embL ((mi >>= fun xs => comp pt cnd f xs >>= fun ys => pure (.list ys)) >>= k) := by
  intro ps s S D r w
  refine wsk_cons (zs_setLc i hN wi_zi ok zg (ts_zts ht) web hc hy hyl hsw hv hs) ?_
  refine hi ps s S _ r ((sat_bind (sat_bind w)).mono (fun xs s1 w1 S1 r1 => ?_) fun _ _ h => h)
  obtain ⟨hz, ys, s', run, q⟩ := sat_comp (sat_bind w1)
  exact ⟨comp_turns hg (zg C.X.s_0 C.X.H_0 0 [] []).mono ht he r1 hz run (P := fun acc S' => WSK C.X C.B K rest D ((VEnv.den ps ρ).set i (some (zl acc))) S') fun S' r' => by
    have := hr (.list ys) ps s' S' D r' q
    rw [den_set] at this
    exact this⟩
theorem s_setLcC (i j : Nat) {y : Str} {py lpos : Pos} {k : Unit → M (Fl L T)} (hl : C.G.p.length ≤ j) (hN : C.X.N.Nodup) (hi : FI C tg iter ρ mi) (ok : BlkOk C.X.N C.X.env.scope scope own2) (zg : Blk C.X scope fun X => ZGt X C.B tg o g) (hg : GOk g pt asg) (ht : FTs C scope ifs (fun t => setl (vwipe ρ (own2.map (·.2))) (asg t)) cnd) (he : FBlk C scope fun C => ∀ t, FE C elt (setl (vwipe ρ (own2.map (·.2))) (asg t)) (f t))
    (hr : FS C rm K rest (ρ.set i (some (.c j))) emb embL (k ())) (hno : noC j (ρ.set i none) = true := by rfl) (hc : C.X.calm = true := by rfl) (hy : C.X.N[i]? = some y := by rfl) (hyl : C.X.env.scope.names.lookup y = some .local := by rfl) (hsw : swapsWith (.ListComp elt [⟨tg, iter, ifs, 0⟩] scope lpos) (some (.Name y py)) pos.line C.X.env = pure true := by exact sw_true rfl rfl rfl (by decide +kernel))
    (hv : ∀ i ∈ o, i ∈ own2.map (·.2) := by decide) (hs : ∀ x, foldedSetIterable iter C.X.env x = pure x := by intro _; rfl) : FS C rm K (.Assign [.Name y py] (.ListComp elt [⟨tg, iter, ifs, 0⟩] scope lpos) pos :: rest) ρ emb embL ((mi >>= fun xs => comp pt cnd f xs) >>= fun ys => setC j ys >>= k) := by
  intro ps s S D r w
  refine wsk_cons (zs_setLcM i hN wi_zi ok zg (ts_zts ht) web hc hy hyl hsw hv hs) ?_
  refine hi ps s S _ r ((sat_bind (sat_bind w)).mono (fun xs s1 w1 S1 r1 => ?_) fun _ _ h => h)
  obtain ⟨hz, ys, s', run, q⟩ := sat_comp w1
  obtain ⟨hj, w2⟩ := sat_setC (sat_bind q)
  exact ⟨comp_turns hg (zg C.X.s_0 C.X.H_0 0 [] []).mono ht he r1 hz run (P := fun acc S' => ∀ p, S' p = none → WSK C.X C.B K rest D ((VEnv.den ps ρ).set i (some (.r p))) (S'.put p (.lst acc))) fun S' r' p hp => by
    have := hr (ps.set j p) _ _ D ((r'.new hp).lay (r'.fresh hp) j hj hl) w2
    rw [den_lay (by rw [r'.len]; exact hj) hno] at this
    exact this⟩
theorem s_raise {x : Str} {Ca : Addr} {bmB : List Value} {Bn newId initId : String} {msg : Str} {j : Nat} {p2 pos' : Pos} (hx : Tk C.X C.B (fun _ zx S => C.EZ zx S)) (Fx : ExcBaseFacts Bn newId initId bmB) (q : PySem.W.excIn C.X.K Ca bmB newId = true) (gC : C.X.mg x = some (.ref Ca)) (kC : PySem.W.keepIn C.X.K (.ref Ca) = true) (rr : Raises C.X (.ref Ca)) (hc : C.X.calm = true := by rfl) (hg : Gl C.X x := by rfl)
    (hdb : (x == ("__debug__" : Str)) = false := by decide) : FS C rm K (.Raise (some (.Call (.Name x p) [.Constant (.str msg) j p2] [] pos)) none pos' :: rest) ρ emb embL (V.raise x) := by
  intro ps s S D r w
  exact wsk_cons (zs_raise hx Fx q gC kC rr hc hg hdb) (w ⟨Ca, []⟩ ps S r ⟨gC, rfl⟩)
/-! a, b = x, y -/
theorem s_par {i j : Nat} {x y : Str} {px py pt' : Pos} {kt k2 pt2} {mp : M (PyData × PyData)} {k : PyData × PyData → M (Fl L T)} (hN : C.X.N.Nodup) (ha : FA C [a, b] ρ [] mp (bi2 fun u v => pure (u, v))) (hr : ∀ u, FS C rm K rest ((ρ.set i (some (.d u.1))).set j (some (.d u.2))) emb embL (k u)) (hc : C.X.calm = true := by rfl) (hi : C.X.N[i]? = some x := by rfl) (hj : C.X.N[j]? = some y := by rfl) (hij : i ≠ j := by decide)
    (hx : C.X.env.scope.names.lookup x = some .local := by rfl) (hy : C.X.env.scope.names.lookup y = some .local := by rfl)
    (hw : swappedStores [.Tuple [.Name x px, .Name y py] kt pt'] (.Tuple [a, b] k2 pt2) C.X.env = pure (some [x, y]) := by rfl)
    (hs : swapsWithSole [.Tuple [.Name x px, .Name y py] kt pt'] (.Tuple [a, b] k2 pt2) pos.line C.X.env = pure false := by rfl) :
    FS C rm K (.Assign [.Tuple [.Name x px, .Name y py] kt pt'] (.Tuple [a, b] k2 pt2) pos :: rest) ρ emb embL (mp >>= k) := by
  intro ps s S D r w
  refine wsk_cons (zs_par hN wa_za hc hi hj hij hx hy hw hs) ?_
  refine ha ps s S _ _ r (sat_bind w) fun vs s' S' r' w' => ?_
  rw [List.nil_append] at w'
  unfold bi2 at w'
  split at w'
  · rename_i u v
    have := hr (u, v) ps s' S' D r' w'
    rw [den_set, den_set] at this
    exact this
  · exact w'.elim
variable {maN mbN : M (List PyData)} {ma mb : M PyData}
/-- .. both new lists, that will be changed -/
theorem s_parCC {i j ci cj : Nat} {x y : Str} {px py pt' : Pos} {kt k2 pt2} {k : Unit → M (Fl L T)} (hl : C.G.p.length ≤ ci) (hl2 : C.G.p.length ≤ cj) (hN : C.X.N.Nodup) (ha : FN C a ρ maN) (hb : FN C b ρ mbN) (hr : FS C rm K rest ((ρ.set i (some (.c ci))).set j (some (.c cj))) emb embL (k ())) (hno : noC ci ρ = true := by rfl) (hno2 : noC cj ((ρ.set i (some (.c ci))).set j none) = true := by rfl) (hc : C.X.calm = true := by rfl) (hi : C.X.N[i]? = some x := by rfl) (hj : C.X.N[j]? = some y := by rfl) (hij : i ≠ j := by decide)
    (hx : C.X.env.scope.names.lookup x = some .local := by rfl) (hy : C.X.env.scope.names.lookup y = some .local := by rfl)
    (hw : swappedStores [.Tuple [.Name x px, .Name y py] kt pt'] (.Tuple [a, b] k2 pt2) C.X.env = pure (some [x, y]) := by rfl)
    (hs : swapsWithSole [.Tuple [.Name x px, .Name y py] kt pt'] (.Tuple [a, b] k2 pt2) pos.line C.X.env = pure false := by rfl)
    (hs1 : starEach (a :: [b]) C.X.env = (false, eval a C.X.env) :: starEach [b] C.X.env := by rfl) (hs2 : starEach (b :: []) C.X.env = (false, eval b C.X.env) :: starEach [] C.X.env := by rfl) (hnn : noC ci (ρ.set i none) = true := by rfl) :
    FS C rm K (.Assign [.Tuple [.Name x px, .Name y py] kt pt'] (.Tuple [a, b] k2 pt2) pos :: rest) ρ emb embL (maN >>= fun xs => setC ci xs >>= fun _ => mbN >>= fun ys => setC cj ys >>= k) := by
  intro ps s S D r w
  refine wsk_cons (zs_par hN (za_cons we_ze (za_cons we_ze za_nil hs2) hs1) hc hi hj hij hx hy hw hs) ?_
  refine ha ps s S _ r ((sat_bind w).mono (fun xs s1 w1 S1 p1 r1 f1 => ?_) fun _ _ h => h)
  obtain ⟨hj1, w2⟩ := sat_setC (sat_bind w1)
  have r1' := r1.lay f1 ci hj1 hl
  have hb' := hb (ps.set ci p1) _ S1 (fun z S2 => WSK C.X C.B K rest D (((VEnv.den ps ρ).set i (some (.r p1))).set j (some z)) S2) r1' ((sat_bind w2).mono (fun ys s2 w3 S2 p2 r2 f2 => by
    obtain ⟨hj2, w4⟩ := sat_setC (sat_bind w3)
    have go := hr _ _ S2 D (r2.lay f2 cj hj2 hl2) w4
    rw [den_lay (by rw [r2.len]; exact hj2) hno2, den_lay (by rw [r1.len]; exact hj1) hnn] at go
    exact go) fun _ _ h => h)
  rw [fgz_lay hno] at hb'
  exact hb'
/-- .. the first a new list, that will be changed -/
theorem s_parCD {i j ci : Nat} {x y : Str} {px py pt' : Pos} {kt k2 pt2} {k : PyData → M (Fl L T)} (hl : C.G.p.length ≤ ci) (hN : C.X.N.Nodup) (ha : FN C a ρ maN) (hb : FE C b ρ mb) (hr : ∀ v, FS C rm K rest ((ρ.set i (some (.c ci))).set j (some (.d v))) emb embL (k v)) (hno : noC ci ρ = true := by rfl) (hc : C.X.calm = true := by rfl) (hi : C.X.N[i]? = some x := by rfl) (hj : C.X.N[j]? = some y := by rfl) (hij : i ≠ j := by decide)
    (hx : C.X.env.scope.names.lookup x = some .local := by rfl) (hy : C.X.env.scope.names.lookup y = some .local := by rfl)
    (hw : swappedStores [.Tuple [.Name x px, .Name y py] kt pt'] (.Tuple [a, b] k2 pt2) C.X.env = pure (some [x, y]) := by rfl)
    (hs : swapsWithSole [.Tuple [.Name x px, .Name y py] kt pt'] (.Tuple [a, b] k2 pt2) pos.line C.X.env = pure false := by rfl)
    (hs1 : starEach (a :: [b]) C.X.env = (false, eval a C.X.env) :: starEach [b] C.X.env := by rfl) (hs2 : starEach (b :: []) C.X.env = (false, eval b C.X.env) :: starEach [] C.X.env := by rfl) (hnn : noC ci (ρ.set i none) = true := by rfl) :
    FS C rm K (.Assign [.Tuple [.Name x px, .Name y py] kt pt'] (.Tuple [a, b] k2 pt2) pos :: rest) ρ emb embL (maN >>= fun xs => setC ci xs >>= fun _ => mb >>= k) := by
  intro ps s S D r w
  refine wsk_cons (zs_par hN (za_cons we_ze (za_cons we_ze za_nil hs2) hs1) hc hi hj hij hx hy hw hs) ?_
  refine ha ps s S _ r ((sat_bind w).mono (fun xs s1 w1 S1 p1 r1 f1 => ?_) fun _ _ h => h)
  obtain ⟨hj1, w2⟩ := sat_setC (sat_bind w1)
  have r1' := r1.lay f1 ci hj1 hl
  have hb' := hb (ps.set ci p1) _ S1 (fun z S2 => WSK C.X C.B K rest D (((VEnv.den ps ρ).set i (some (.r p1))).set j (some z)) S2) r1' ((sat_bind w2).mono (fun v s2 w3 S2 r2 => by
    have go := hr v _ _ S2 D r2 w3
    rw [den_set, den_lay (by rw [r1.len]; exact hj1) hnn] at go
    exact go) fun _ _ h => h)
  rw [fgz_lay hno] at hb'
  exact hb'
/-- .. the second -/
theorem s_parDC {i j cj : Nat} {x y : Str} {px py pt' : Pos} {kt k2 pt2} {k : PyData → Unit → M (Fl L T)} (hl : C.G.p.length ≤ cj) (hN : C.X.N.Nodup) (ha : FE C a ρ ma) (hb : FN C b ρ mbN) (hr : ∀ v, FS C rm K rest ((ρ.set i (some (.d v))).set j (some (.c cj))) emb embL (k v ())) (hno : ∀ v, noC cj ((ρ.set i (some (.d v))).set j none) = true := by intro _; rfl) (hc : C.X.calm = true := by rfl) (hi : C.X.N[i]? = some x := by rfl) (hj : C.X.N[j]? = some y := by rfl) (hij : i ≠ j := by decide)
    (hx : C.X.env.scope.names.lookup x = some .local := by rfl) (hy : C.X.env.scope.names.lookup y = some .local := by rfl)
    (hw : swappedStores [.Tuple [.Name x px, .Name y py] kt pt'] (.Tuple [a, b] k2 pt2) C.X.env = pure (some [x, y]) := by rfl)
    (hs : swapsWithSole [.Tuple [.Name x px, .Name y py] kt pt'] (.Tuple [a, b] k2 pt2) pos.line C.X.env = pure false := by rfl)
    (hs1 : starEach (a :: [b]) C.X.env = (false, eval a C.X.env) :: starEach [b] C.X.env := by rfl) (hs2 : starEach (b :: []) C.X.env = (false, eval b C.X.env) :: starEach [] C.X.env := by rfl) :
    FS C rm K (.Assign [.Tuple [.Name x px, .Name y py] kt pt'] (.Tuple [a, b] k2 pt2) pos :: rest) ρ emb embL (ma >>= fun v => mbN >>= fun ys => setC cj ys >>= k v) := by
  intro ps s S D r w
  refine wsk_cons (zs_par hN (za_cons we_ze (za_cons we_ze za_nil hs2) hs1) hc hi hj hij hx hy hw hs) ?_
  refine ha ps s S _ r ((sat_bind w).mono (fun v s1 w1 S1 r1 => ?_) fun _ _ h => h)
  refine hb ps s1 S1 _ r1 ((sat_bind w1).mono (fun ys s2 w3 S2 p2 r2 f2 => ?_) fun _ _ h => h)
  obtain ⟨hj2, w4⟩ := sat_setC (sat_bind w3)
  have go := hr v _ _ S2 D (r2.lay f2 cj hj2 hl) w4
  rw [den_lay (by rw [r2.len]; exact hj2) (hno v), den_set] at go
  exact go
end

/-! ### a def -/
def startE (N : List Str) (vs : List Vl) : VEnv := vs.map some ++ List.replicate (N.length - vs.length) none
theorem den_start (ps : List Addr) (N : List Str) (vs : List Vl) : VEnv.den ps (startE N vs) = zstart N (vs.map (Vl.den ps)) := by
  unfold startE zstart VEnv.den
  rw [List.map_append, List.map_map, List.map_replicate, List.map_map, List.length_map]
  rfl
theorem enc_den (ps q : List Addr) : ∀ (ms : List Md) (i : Nat) (ds : List PyData), i + nC ms ≤ ps.length → (encode ms i ds).map (Vl.den (ps ++ q)) = (encode ms i ds).map (Vl.den ps)
  | [], _, _, _ => rfl
  | .d :: ms, i, [], h => rfl
  | .d :: ms, i, x :: ds, h => by simp only [encode, List.map_cons]; rw [enc_den ps q ms i ds h]; rfl
  | .k :: ms, i, [], h => rfl
  | .k :: ms, i, x :: ds, h => by simp only [encode, List.map_cons]; rw [enc_den ps q ms i ds h]; rfl
  | .c :: ms, i, ds, h => by
    simp only [nC] at h
    simp only [encode, List.map_cons]
    rw [enc_den ps q ms (i + 1) ds (by omega)]
    congr 1
    show Z.r _ = Z.r _
    congr 1
    rw [List.getD_eq_getElem?_getD, List.getD_eq_getElem?_getD, List.getElem?_append_left (by omega)]
theorem Rel.more {ps0 : List Addr} {s0 : Cells} {S : Sto} (r : Rel ⟨ps0, S⟩ ps0 s0 S) (nl : Nat) : Rel ⟨ps0, S⟩ (ps0 ++ List.replicate nl 0) (s0 ++ List.replicate nl none) S := by
  have get : ∀ {i : Nat} {c : Cell}, (s0 ++ List.replicate nl none)[i]? = some (some c) → s0[i]? = some (some c) ∧ i < s0.length := by
    intro i c e
    by_cases h : i < s0.length
    · rw [List.getElem?_append_left h] at e; exact ⟨e, h⟩
    · rw [List.getElem?_append_right (by omega), List.getElem?_replicate] at e
      split at e <;> cases e
  have gp : ∀ {i : Nat} {a : Addr}, i < s0.length → (ps0 ++ List.replicate nl 0)[i]? = some a → ps0[i]? = some a := fun h e => by
    rw [List.getElem?_append_left (by rw [r.len]; exact h)] at e; exact e
  refine ⟨by simp [r.len], fun i c a e1 e2 => ?_, fun i k ci ck a e1 e2 e3 e4 => ?_, r.fr, fun i c a e1 e2 => ?_, r.gp, by simp⟩
  · obtain ⟨h1, h2⟩ := get e1; exact r.own i c a h1 (gp h2 e2)
  · obtain ⟨h1, h2⟩ := get e1; obtain ⟨h3, h4⟩ := get e2; exact r.inj i k ci ck a h1 h3 (gp h2 e3) (gp h4 e4)
  · obtain ⟨h1, h2⟩ := get e1; exact r.loc i c a h1 (gp h2 e2)
theorem Rel.less {G : Gd} {ps : List Addr} {s : Cells} {S : Sto} (r : Rel G ps s S) {n : Nat} (hn : G.p.length = n) : Rel G G.p (s.take n) S := by
  subst hn
  have hl : G.p.length ≤ ps.length := by rw [← r.par, List.length_take]; omega
  have get : ∀ {i : Nat} {c : Cell}, (s.take G.p.length)[i]? = some (some c) → s[i]? = some (some c) := by
    intro i c e
    rw [List.getElem?_take] at e
    split at e
    · exact e
    · cases e
  have gp : ∀ {i : Nat} {a : Addr}, G.p[i]? = some a → ps[i]? = some a := by
    intro i a e
    rw [← r.par, List.getElem?_take] at e
    split at e
    · exact e
    · cases e
  refine ⟨?_, fun i c a e1 e2 => r.own i c a (get e1) (gp e2), fun i k ci ck a e1 e2 e3 e4 => r.inj i k ci ck a (get e1) (get e2) (gp e3) (gp e4), r.fr, fun i c a e1 e2 => r.loc i c a (get e1) (gp e2), r.gp, List.take_length⟩
  rw [List.length_take, ← r.len]
  omega
section
variable {P : Program} {w : World} {K : PySem.W.Frag} {mg : Str → Option Value} {base : Heap} {k : Nat} {f : Addr} {fd : FuncData} {x qual : Str} {st : Stmt} {N ps : List Str} {ms : List Md} {rm : Bool} {Fm : List PyData → M PyData}
abbrev EzOf (Ez : ZX → Sto → Prop) : XW := fun zx S' => ∃ S2, Sub S2 S' ∧ Ez zx S2
theorem sat_frame {nl : Nat} {m : M PyData} {s : Cells} {Q : PyData → Cells → Prop} {E : Exn → Cells → Prop} (h : sat (V.frame nl m s) Q E) : sat (m (s ++ List.replicate nl none)) (fun a s' => Q a (s'.take s.length)) fun x s' => E x (s'.take s.length) := by
  unfold V.frame at h
  unfold sat at *
  cases e : m (s ++ List.replicate nl none) with
  | ok a s' => rw [e] at h; exact h
  | ex x s' => rw [e] at h; exact h
  | bad => rw [e] at h; exact h
theorem vbody {X : Cx} {zs : List Z} {S : Sto} {H : Hp} {Qz : ZQ} {Ez : ZX → Sto → Prop} {body : List Stmt} (hmg : X.mg = mg) (hN : X.N = N) (h : VSp mg ms rm Fm zs S Qz Ez)
    (hb : ∀ ps0 : List Addr, ps0.length = nC ms → ∀ ds : List PyData, ds.length = nD ms → ∃ nl bodyM, Fm ds = V.frame nl (fin bodyM) ∧ FS ⟨X, ⟨S, H⟩, ⟨ps0, S⟩, EzOf Ez⟩ rm [] body (startE N (encode ms 0 ds)) (fun _ : Unit => List.replicate N.length none) (fun _ : Unit => []) bodyM) :
    ∃ t, ZSs X ⟨S, H⟩ body t ∧ t { nx := fun _ S' => ∃ S2, Sub S2 S' ∧ Qz (.d .none) S2, rt := fun z S' => ∃ S2, Sub S2 S' ∧ Qz z S2 } (zstart N zs) S := by
  subst hmg
  obtain ⟨ds, ps0, s0, e1, e0, e2, e3, r, w⟩ := h
  obtain ⟨nl, bodyM, eF, fs⟩ := hb ps0 e3 ds e2
  refine ⟨_, wss_zss, ?_⟩
  rw [eF] at w
  have w1 := sat_frame w
  have ls : s0.length = ps0.length := r.len.symm
  have go := fs (ps0 ++ List.replicate nl 0) (s0 ++ List.replicate nl none) S { nx := fun _ S' => ∃ S2, Sub S2 S' ∧ Qz (.d .none) S2, rt := fun z S' => ∃ S2, Sub S2 S' ∧ Qz z S2 } (r.more nl) ((sat_bind w1).mono (fun fl s' w2 => ?_) fun x s' w2 zx ps S' r' xr => ⟨S', .refl _, w2 zx S' (r'.less (by exact ls.symm)) xr⟩)
  · rw [den_start, enc_den ps0 _ ms 0 ds (by omega), ← e1] at go
    exact go
  · cases fl with
    | nx t =>
      intro ps S' ρ r' _
      rcases w2 with ⟨_, w2⟩ | ⟨_, xs, e, _⟩
      · exact ⟨S', .refl _, w2 S' (r'.less (by exact ls.symm))⟩
      · cases e
    | bk l => exact w2.elim
    | ct l => exact w2.elim
    | rt v =>
      rcases w2 with ⟨hrm, w2⟩ | ⟨hrm, xs, e, w2⟩
      · exact .inl ⟨hrm, fun ps S' r' => ⟨S', .refl _, w2 S' (r'.less (by exact ls.symm))⟩⟩
      · refine .inr ⟨hrm, xs, e, fun ps S' p r' fr => ⟨S', .refl _, w2 S' p (r'.less (by exact ls.symm)) ⟨fr.1, fun j c ea eb => ?_, fr.2.2⟩⟩⟩
        rw [List.getElem?_take] at ea
        split at ea
        · refine fr.2.1 j c ea ?_
          have := r'.par
          have h2 : (ps.take ps0.length)[j]? = some p := by rw [show ps.take ps0.length = ps0 from this]; exact eb
          rw [List.getElem?_take] at h2
          split at h2
          · exact h2
          · cases h2
        · cases ea
/-- a def without defaults -/
theorem vfn (F : Fun K x qual st f fd) (Sc : FnScope N ps (defScope st)) (hn : ms.length = ps.length)
    (hb : ∀ (cdv : Value) (A : Around) (outer : List PySem.Env) (s : Shared) (H : Hp) (E : XK) (S : Sto) (Ez : ZX → Sto → Prop), (A.deeper (envOfC qual (defScope st) s.heap.objs.size f cdv)).guards = some [] → Room k (A.deeper (envOfC qual (defScope st) s.heap.objs.size f cdv)) →
      Tk (cxOf (L2.CX P w) P w K mg base N qual (defScope st) f cdv A outer s H E) ⟨S, H⟩ (fun _ x S' => EzOf Ez x S') → ∀ ps0 : List Addr, ps0.length = nC ms → ∀ ds : List PyData, ds.length = nD ms →
      ∃ nl bodyM, Fm ds = V.frame nl (fin bodyM) ∧ FS ⟨cxOf (L2.CX P w) P w K mg base N qual (defScope st) f cdv A outer s H E, ⟨S, H⟩, ⟨ps0, S⟩, EzOf Ez⟩ rm [] (defBody st) (startE N (encode ms 0 ds)) (fun _ : Unit => List.replicate N.length none) (fun _ : Unit => []) bodyM) :
    ZFn P w K mg base (k + 1) f fd ps (VSp mg ms rm Fm) :=
  zfn F Sc (fun zs S Q E h => vsp_len hn zs S Q E h) vsp_mono fun cdv A outer s H E zs S Qz Ez hG hr tk h =>
    vbody (X := cxOf (L2.CX P w) P w K mg base N qual (defScope st) f cdv A outer s H E) rfl rfl h fun ps0 h0 ds hd => hb cdv A outer s H E S Ez hG hr tk ps0 h0 ds hd
theorem vfnD {params : Arguments} {body : List Stmt} {scope : Scope} {dvs : List V} {kws : List (Str × V)} (F : FunD K x qual params body scope dvs kws f fd) (Sc : FnScope N ps scope) (hn : ms.length = ps.length)
    (hb : ∀ (cdv : Value) (A : Around) (outer : List PySem.Env) (s : Shared) (H : Hp) (E : XK) (S : Sto) (Ez : ZX → Sto → Prop), (A.deeper (envOfC qual scope s.heap.objs.size f cdv)).guards = some [] → Room k (A.deeper (envOfC qual scope s.heap.objs.size f cdv)) →
      Tk (cxOf (L2.CX P w) P w K mg base N qual scope f cdv A outer s H E) ⟨S, H⟩ (fun _ x S' => EzOf Ez x S') → ∀ ps0 : List Addr, ps0.length = nC ms → ∀ ds : List PyData, ds.length = nD ms →
      ∃ nl bodyM, Fm ds = V.frame nl (fin bodyM) ∧ FS ⟨cxOf (L2.CX P w) P w K mg base N qual scope f cdv A outer s H E, ⟨S, H⟩, ⟨ps0, S⟩, EzOf Ez⟩ rm [] body (startE N (encode ms 0 ds)) (fun _ : Unit => List.replicate N.length none) (fun _ : Unit => []) bodyM) :
    ZFn P w K mg base (k + 1) f fd ps (VSp mg ms rm Fm) :=
  zfnD F Sc (fun zs S Q E h => vsp_len hn zs S Q E h) vsp_mono fun cdv A outer s H E zs S Qz Ez hG hr tk h =>
    vbody (X := cxOf (L2.CX P w) P w K mg base N qual scope f cdv A outer s H E) rfl rfl h fun ps0 h0 ds hd => hb cdv A outer s H E S Ez hG hr tk ps0 h0 ds hd
end
end ZL

namespace V
def selL {α : Type} (sel : List Nat) (l : List α) : List α := sel.filterMap fun i => l[i]?
end V
namespace ZL
open PySem PySem.Spec PyProof.Rows L2 V
/-! ### keywords and defaults: the parameters' values are picked from the given ones, the defaults, the keywords' ones -/
theorem vals_get : ∀ {vs : List L2.V} {us : List Value} (i : Nat), Vals vs us → (vs[i]? = none ∧ us[i]? = none) ∨ ∃ v u, vs[i]? = some v ∧ us[i]? = some u ∧ RelV v u
  | _, _, i, .nil => .inl ⟨by simp, by simp⟩
  | _, _, 0, .cons h t => .inr ⟨_, _, rfl, rfl, h⟩
  | _, _, i + 1, .cons h t => by simpa using vals_get i t
theorem vals_sel {vs : List L2.V} {us : List Value} (h : Vals vs us) : ∀ sel : List Nat, Vals (selL sel vs) (selL sel us)
  | [] => .nil
  | i :: r => by
    unfold selL
    rw [List.filterMap_cons, List.filterMap_cons]
    rcases vals_get i h with ⟨e1, e2⟩ | ⟨v, u, e1, e2, q⟩
    · rw [e1, e2]; exact vals_sel h r
    · rw [e1, e2]; exact .cons q (vals_sel h r)
theorem rzs_get {K : PySem.W.Frag} {H : Hp} : ∀ {vs : List L2.V} {zs : List Z} (i : Nat), RZs K H vs zs → (vs[i]? = none ∧ zs[i]? = none) ∨ ∃ v u, vs[i]? = some v ∧ zs[i]? = some u ∧ RZ K H v u
  | _, _, i, .nil => .inl ⟨by simp, by simp⟩
  | _, _, 0, .cons h t => .inr ⟨_, _, rfl, rfl, h⟩
  | _, _, i + 1, .cons h t => by simpa using rzs_get i t
theorem rzs_sel {K : PySem.W.Frag} {H : Hp} {vs : List L2.V} {zs : List Z} (h : RZs K H vs zs) : ∀ sel : List Nat, RZs K H (selL sel vs) (selL sel zs)
  | [] => .nil
  | i :: r => by
    unfold selL
    rw [List.filterMap_cons, List.filterMap_cons]
    rcases rzs_get i h with ⟨e1, e2⟩ | ⟨v, u, e1, e2, q⟩
    · rw [e1, e2]; exact rzs_sel h r
    · rw [e1, e2]; exact .cons q (rzs_sel h r)
theorem rzs_app {K : PySem.W.Frag} {H : Hp} : ∀ {vs ws : List L2.V} {zs ys : List Z}, RZs K H vs zs → RZs K H ws ys → RZs K H (vs ++ ws) (zs ++ ys)
  | _, _, _, _, .nil, h => h
  | _, _, _, _, .cons q t, h => .cons q (rzs_app t h)
theorem vals_app : ∀ {vs ws : List L2.V} {zs ys : List Value}, Vals vs zs → Vals ws ys → Vals (vs ++ ws) (zs ++ ys)
  | _, _, _, _, .nil, h => h
  | _, _, _, _, .cons q t, h => .cons q (vals_app t h)
abbrev gSel (sel : List Nat) {α : Type} (ds : List α) : List α → List α → List α := fun xs ys => selL sel (xs ++ (ds ++ ys))
section
variable {K : PySem.W.Frag} {x qual : Str} {params : Arguments} {body : List Stmt} {scope : Scope} {dvs : List L2.V} {kws : List (Str × L2.V)} {f : Addr} {fd : FuncData} {ps : List Str}
/-- no defaults are asked -/
theorem FunD.zbn0 (F : FunD K x qual params body scope [] [] f fd) (n : Nat) (ks : List Str) (sel : List Nat)
    (h : ∀ (kV doc pm : Value) (an : Option Addr) (cdv ct : Value) (us ws : List Value), us.length = n → ws.length = ks.length → bindArgs (PySem.W.fnOf x qual params body scope .none kV doc pm an cdv ct) ⟨us, ks.zip ws⟩ = pure (ps.zip (selL sel (us ++ ws)))) : ZBn K fd ps n ks (gSel sel []) := by
  obtain ⟨oc, od, dV, kV, doc, pm, an, cdv, ct, osl, rfl, lk, hcd, hD, hK⟩ := F.ex
  rcases hD with ⟨_, rfl⟩ | ⟨e, _⟩
  · exact ⟨⟨gSel sel [], gSel sel [], ⟨fun s us ws X l1 l2 => .of_eq (h kV doc pm an cdv ct us ws l1 l2), fun r1 r2 => vals_sel (vals_app r1 r2) sel⟩, fun r1 r2 => rzs_sel (rzs_app r1 r2) sel⟩⟩
  · exact absurd rfl e
/-- with defaults, data of one's own -/
theorem FunD.zbn1 (F : FunD K x qual params body scope dvs [] f fd) (n : Nat) (ks : List Str) (sel : List Nat) (dz : List Z) (hd : dvs ≠ []) (hz : ∀ H, RZs K H dvs dz)
    (h : ∀ (T : Addr) (kV doc pm : Value) (an : Option Addr) (cdv ct : Value) (us its ws : List Value), us.length = n → its.length = dvs.length → ws.length = ks.length →
      ∃ k, bindArgs (PySem.W.fnOf x qual params body scope (.ref T) kV doc pm an cdv ct) ⟨us, ks.zip ws⟩ = seqItems? (.ref T) >>= k ∧ k (some its.toArray) = pure (ps.zip (selL sel (us ++ (its ++ ws))))) : ZBn K fd ps n ks (gSel sel dz) := by
  obtain ⟨oc, od, dV, kV, doc, pm, an, cdv, ct, osl, rfl, lk, hcd, hD, hK⟩ := F.ex
  rcases hD with ⟨e, _⟩ | ⟨_, T, o, its, m, rfl, lT, oT, rT⟩
  · exact absurd e hd
  · refine ⟨⟨gSel sel its, gSel sel dvs, ⟨fun s us ws X l1 l2 => ?_, fun r1 r2 => vals_sel (vals_app r1 (vals_app rT r2)) sel⟩, fun r1 r2 => rzs_sel (rzs_app r1 (rzs_app (hz _) r2)) sel⟩⟩
    obtain ⟨k, e1, e2⟩ := h T kV doc pm an cdv ct us its ws l1 rT.length.symm l2
    refine BindsTo.of_looks fun M => ?_
    rw [e1]
    exact looks_items X lT oT (.of_pure e2)
end
def FKw (C : Ct) (kws : List Keyword) (ρ : VEnv) (acc : List Vl) {β : Type} (m : M β) (k : List Vl → M β) : Prop :=
  ∀ ps s S (Q : List Z → Sto → Prop) (R : β → Cells → Prop), Rel C.G ps s S → sat (m s) R (XOk C.X.mg C.G C.EZ) → (∀ ds s' S', Rel C.G ps s' S' → sat (k (acc ++ ds) s') R (XOk C.X.mg C.G C.EZ) → Q (ds.map (Vl.den ps)) S') → WKw C.X C.B kws (VEnv.den ps ρ) S Q
def FAK (C : Ct) (es : List Expr) (kws : List Keyword) (ρ : VEnv) (acc : List Vl) {β : Type} (m : M β) (k : List Vl → List Vl → M β) : Prop :=
  ∀ ps s S (Q : List Z → List Z → Sto → Prop) (R : β → Cells → Prop), Rel C.G ps s S → sat (m s) R (XOk C.X.mg C.G C.EZ) → (∀ ds ys s' S', Rel C.G ps s' S' → sat (k (acc ++ ds) ys s') R (XOk C.X.mg C.G C.EZ) → Q (ds.map (Vl.den ps)) (ys.map (Vl.den ps)) S') → WAs C.X C.B es (VEnv.den ps ρ) S fun zs S1 => WKw C.X C.B kws (VEnv.den ps ρ) S1 fun ys S2 => Q zs ys S2
section
variable {C : Ct} {e a b c : Expr} {es : List Expr} {kws : List Keyword} {ρ : VEnv} {pos p kpos : Pos} {m : M PyData} {nm : Option Str}
theorem kw_nil {β : Type} {acc : List Vl} {m : M β} {k : List Vl → M β} (h : m = k acc := by rfl) : FKw C [] ρ acc m k := by
  subst h
  exact fun ps s S Q R r w q => zk_nil.we (q [] s S r (by rw [List.append_nil]; exact w))
theorem kw_cons {β : Type} {acc : List Vl} {me : M PyData} {m : PyData → M β} {k : List Vl → M β} (he : FE C e ρ me) (hr : ∀ x, FKw C kws ρ (acc ++ [.d x]) (m x) k) : FKw C (⟨nm, e, kpos⟩ :: kws) ρ acc (me >>= m) k := by
  intro ps s S Q R r w q
  refine (zk_cons we_ze wk_zk).we ?_
  refine he ps s S _ r ((sat_bind w).mono (fun x s1 h S1 r1 => ?_) fun _ _ h => h)
  exact hr x ps s1 S1 _ R r1 h fun ds s' S' r' h' => q (.d x :: ds) s' S' r' (by rw [List.append_assoc] at h'; exact h')
theorem kw_at {β : Type} {acc : List Vl} {x : PyData} {m : M β} {k : List Vl → M β} (he : FE C e ρ (pure x)) (hr : FKw C kws ρ (acc ++ [.d x]) m k) : FKw C (⟨nm, e, kpos⟩ :: kws) ρ acc m k := by
  intro ps s S Q R r w q
  refine (zk_cons we_ze wk_zk).we ?_
  refine he ps s S _ r ?_
  intro S1 r1
  exact hr ps s S1 _ R r1 w fun ds s' S' r' h' => q (.d x :: ds) s' S' r' (by rw [List.append_assoc] at h'; exact h')
theorem fk_kw {β : Type} {acc : List Vl} {m : M β} {k : List Vl → List Vl → M β} (h : FKw C kws ρ [] m (k acc)) : FAK C [] kws ρ acc m k := fun ps s S Q R r w q => za_nil.we (h ps s S _ R r w fun ds s' S' r' h' => q [] ds s' S' r' (by rw [List.append_nil]; exact h'))
theorem fk_cons {β : Type} {acc : List Vl} {me : M PyData} {m : PyData → M β} {k : List Vl → List Vl → M β} (he : FE C e ρ me) (hr : ∀ x, FAK C es kws ρ (acc ++ [.d x]) (m x) k) (hs : starEach (e :: es) C.X.env = (false, eval e C.X.env) :: starEach es C.X.env := by rfl) : FAK C (e :: es) kws ρ acc (me >>= m) k := by
  intro ps s S Q R r w q
  refine (za_cons we_ze wa_za hs).we ?_
  refine he ps s S _ r ((sat_bind w).mono (fun x s1 h S1 r1 => ?_) fun _ _ h => h)
  exact hr x ps s1 S1 (fun zs ys S' => Q (.d x :: zs) ys S') R r1 h fun ds ys s' S' r' h' => q (.d x :: ds) ys s' S' r' (by rw [List.append_assoc] at h'; exact h')
theorem fk_at {β : Type} {acc : List Vl} {x : PyData} {m : M β} {k : List Vl → List Vl → M β} (he : FE C e ρ (pure x)) (hr : FAK C es kws ρ (acc ++ [.d x]) m k) (hs : starEach (e :: es) C.X.env = (false, eval e C.X.env) :: starEach es C.X.env := by rfl) : FAK C (e :: es) kws ρ acc m k := by
  intro ps s S Q R r w q
  refine (za_cons we_ze wa_za hs).we ?_
  refine he ps s S _ r ?_
  intro S1 r1
  exact hr ps s S1 (fun zs ys S' => Q (.d x :: zs) ys S') R r1 w fun ds ys s' S' r' h' => q (.d x :: ds) ys s' S' r' (by rw [List.append_assoc] at h'; exact h')
theorem selL_map {α β : Type} (g : α → β) (sel : List Nat) (l : List α) : selL sel (l.map g) = (selL sel l).map g := by
  unfold selL
  induction sel with
  | nil => rfl
  | cons i r ih =>
    rw [List.filterMap_cons, List.filterMap_cons, List.getElem?_map]
    cases l[i]? with
    | none => exact ih
    | some a =>
      show g a :: _ = g a :: _
      rw [ih]
/-- n given values, the keywords' ones: a call -/
def callKw (ms : List Md) (F : List PyData → M PyData) (sel : List Nat) (dv : List PyData) (n mm : Nat) (vs ys : List Vl) : M PyData := bif (vs.length == n) && (ys.length == mm) then callK ms F (selL sel (vs ++ (dv.map Vl.d ++ ys))) else bad
variable {k : Nat} {f : Addr} {fd : FuncData} {ps' ks : List Str} {ms : List Md} {F : List PyData → M PyData} {x : Str} {n : Nat} {sel : List Nat} {dv : List PyData}
theorem callKw_low {ps : List Addr} {s : Cells} {S : Sto} {vs ys : List Vl} {Q : ZQ} (r : Rel C.G ps s S) (w : sat (callKw ms F sel dv n ks.length vs ys s) (fun d s' => ∀ S', Rel C.G ps s' S' → Q (.d d) S') (XOk C.X.mg C.G C.EZ)) :
    (vs.map (Vl.den ps)).length = n ∧ (ys.map (Vl.den ps)).length = ks.length ∧ VSp C.X.mg ms false F (gSel sel (dv.map Z.d) (vs.map (Vl.den ps)) (ys.map (Vl.den ps))) S Q (fun zx S' => C.EZ zx S') := by
  unfold callKw at w
  cases e : (vs.length == n) && (ys.length == ks.length) with
  | false => simp only [e, cond_false] at w; exact w.elim
  | true =>
    simp only [e, cond_true] at w
    simp only [Bool.and_eq_true, beq_iff_eq] at e
    obtain ⟨js, ds, e1, nd, w2⟩ := sat_callK w
    refine ⟨by rw [List.length_map]; exact e.1, by rw [List.length_map]; exact e.2, ?_⟩
    have := call_low (rm := false) r e1 nd (w2.mono (fun d s2 h => .inl ⟨rfl, h⟩) fun _ _ h => h)
    rw [← selL_map, List.map_append, List.map_append, List.map_map] at this
    exact this
theorem f_callK (Fn : ZFn C.X.prog C.X.w C.X.K C.X.mg C.X.base k f fd ps' (VSp C.X.mg ms false F)) (hG : C.X.A.guards = some []) (hr : Room k C.X.A) (hm : C.X.mg x = some (.ref f)) (hk : PySem.W.keepIn C.X.K (.ref f) = true) (hb : ZBn C.X.K fd ps' n ks (gSel sel (dv.map Z.d))) (hx : Tk C.X C.B (fun _ zx S => C.EZ zx S))
    (ha : FAK C (e :: es) kws ρ [] m (callKw ms F sel dv n ks.length)) (hg : Gl C.X x := by rfl) (hall : (backToKw pos (keywordEach kws C.X.env)).all (·.1.isSome) = true := by rfl) (hks : (backToKw pos (keywordEach kws C.X.env)).filterMap (·.1) = ks := by rfl)
    (hdb : (x == ("__debug__" : Str)) = false := by decide) (he : starEach (e :: es) C.X.env = (false, eval e C.X.env) :: starEach es C.X.env := by rfl)
    (hpl : ((backTo pos (starEach (e :: es) C.X.env)).any (·.1) || (backToKw pos (keywordEach kws C.X.env)).any (·.1.isNone)) = false := by rfl) : FE C (.Call (.Name x p) (e :: es) kws pos) ρ m := by
  intro ps s S Q r w
  refine (ze_callK Fn hG hr hm hk hb hx wa_za wk_zk hg hall hks hdb he hpl).we ?_
  exact ha ps s S (fun zs ys S' => zs.length = n ∧ ys.length = ks.length ∧ VSp C.X.mg ms false F (gSel sel (dv.map Z.d) zs ys) S' Q (fun zx S' => C.EZ zx S')) _ r w fun vs ys s' S' r' w' => callKw_low r' (by rw [List.nil_append] at w'; exact w')
theorem f_callK0 (Fn : ZFn C.X.prog C.X.w C.X.K C.X.mg C.X.base k f fd ps' (VSp C.X.mg ms false F)) (hG : C.X.A.guards = some []) (hr : Room k C.X.A) (hm : C.X.mg x = some (.ref f)) (hk : PySem.W.keepIn C.X.K (.ref f) = true) (hb : ZBn C.X.K fd ps' 0 ks (gSel sel (dv.map Z.d))) (hx : Tk C.X C.B (fun _ zx S => C.EZ zx S))
    (ha : FKw C kws ρ [] m (callKw ms F sel dv 0 ks.length [])) (hg : Gl C.X x := by rfl) (hall : (backToKw pos (keywordEach kws C.X.env)).all (·.1.isSome) = true := by rfl) (hks : (backToKw pos (keywordEach kws C.X.env)).filterMap (·.1) = ks := by rfl)
    (hdb : (x == ("__debug__" : Str)) = false := by decide)
    (hpl : ((backTo pos (starEach [] C.X.env)).any (·.1) || (backToKw pos (keywordEach kws C.X.env)).any (·.1.isNone)) = false := by rfl) : FE C (.Call (.Name x p) [] kws pos) ρ m := by
  intro ps s S Q r w
  refine (ze_callK0 Fn hG hr hm hk hb hx wk_zk hg hall hks hdb hpl).we ?_
  exact ha ps s S (fun ys S' => (0 : Nat) = 0 ∧ ys.length = ks.length ∧ VSp C.X.mg ms false F (gSel sel (dv.map Z.d) [] ys) S' Q (fun zx S' => C.EZ zx S')) _ r w fun ys s' S' r' w' => callKw_low (vs := []) r' (by rw [List.nil_append] at w'; exact w')
theorem f_dict0 {pos : Pos} : FE C (.Dict [] [] pos) ρ (pure (.dict [])) := fun ps s S Q r w => (ze_dict0 pe_dnewK).we (w S r)
/-! a def without end: what it computes within no turns -/
theorem vbad {P : Program} {w : World} {K : PySem.W.Frag} {mg : Str → Option Value} {base : Heap} {k : Nat} {qual : Str} {N ps : List Str} {ms : List Md} {rm : Bool} {params : Arguments} {body : List Stmt} {scope : Scope} {dvs : List L2.V} {kws : List (Str × L2.V)} (F : FunD K x qual params body scope dvs kws f fd) (Sc : FnScope N ps scope) (hn : ms.length = ps.length) {Fm : List PyData → M PyData} (h : ∀ ds, Fm ds = bad) : ZFn P w K mg base (k + 1) f fd ps (VSp mg ms rm Fm) := by
  refine zfnD F Sc (fun zs S Q E h => vsp_len hn zs S Q E h) vsp_mono fun cdv A outer s H E zs S Qz Ez hG hr tk h' => ?_
  obtain ⟨ds, ps0, s0, _, _, _, _, _, w⟩ := h'
  rw [h ds] at w
  exact w.elim
end
end ZL

namespace V
open PySem PySem.Spec ZL L2
def catO : PyData → PyData → Option (List PyData)
  | .list i, .list j => if i.length + j.length ≤ line then some (i ++ j) else none
  | _, _ => none
abbrev catN (x y : PyData) : M (List PyData) := ofO (catO x y)
def catK {β : Type} (g : PyData → PyData → M β) : List Vl → M β
  | [.d x, .d y] => g x y
  | [.c j, .d y] => getC j >>= fun xs => g (.list xs) y
  | [.d x, .c j] => getC j >>= fun ys => g x (.list ys)
  | _ => bad
abbrev catL (x y : PyData) : M PyData := ofO ((catO x y).map .list)
end V
namespace ZL
open PySem PySem.Spec PyProof.Rows L2 V
section
variable {C : Ct} {e a b c : Expr} {es : List Expr} {ρ : VEnv} {pos p : Pos} {m : M PyData} {mN : M (List PyData)}
theorem catO_inv {x y : PyData} {zs : List PyData} (h : catO x y = some zs) : ∃ i j, x = .list i ∧ y = .list j ∧ i.length + j.length ≤ sizeLine ∧ zs = i ++ j := by
  unfold catO at h
  split at h
  · split at h
    · rename_i h1; cases h; rw [line_eq] at h1; exact ⟨_, _, rfl, rfl, h1, rfl⟩
    · cases h
  · cases h
theorem n_cat (h : FL C [a, b] ρ [] mN (catK catN)) : FN C (.BinOp a .Add b pos) ρ mN := by
  intro ps s S Q r w
  refine (ze_op zcatM we_ze we_ze).we ?_
  have := h ps s S (fun zs S' => match zs with | [x, y] => rZCatM x y S' Q | _ => True) _ r w fun ds s' S' r' w' => by
    rw [List.nil_append] at w'
    unfold catK at w'
    split at w'
    · obtain ⟨zs, e, q⟩ := sat_ofO w'
      obtain ⟨i, j, rfl, rfl, hz, rfl⟩ := catO_inv e
      exact ⟨hz, fun p hp => q _ p (r'.new hp) (r'.fresh hp)⟩
    · obtain ⟨xs, ex, w'⟩ := sat_getC (sat_bind w')
      obtain ⟨zs, e, q⟩ := sat_ofO w'
      obtain ⟨i, j, e1, rfl, hz, rfl⟩ := catO_inv e
      cases e1
      have o := (r'.at ex).2
      show rZCatM (.r _) _ _ _
      unfold rZCatM
      simp only [listZ, Vl.den]
      rw [o]
      exact ⟨hz, fun p hp => q _ p (r'.new hp) (r'.fresh hp)⟩
    · obtain ⟨xs, ex, w'⟩ := sat_getC (sat_bind w')
      obtain ⟨zs, e, q⟩ := sat_ofO w'
      obtain ⟨i, j, rfl, e1, hz, rfl⟩ := catO_inv e
      cases e1
      have o := (r'.at ex).2
      show rZCatM _ (.r _) _ _
      unfold rZCatM
      simp only [listZ, Vl.den]
      rw [o]
      exact ⟨hz, fun p hp => q _ p (r'.new hp) (r'.fresh hp)⟩
    · exact w'.elim
  exact this
theorem f_cat (h : FL C [a, b] ρ [] m (catK catL)) : FE C (.BinOp a .Add b pos) ρ m := by
  intro ps s S Q r w
  refine (ze_op zcat we_ze we_ze).we ?_
  have := h ps s S (fun zs S' => match zs with | [x, y] => rZCat x y S' Q | _ => True) _ r w fun ds s' S' r' w' => by
    rw [List.nil_append] at w'
    unfold catK at w'
    split at w'
    · obtain ⟨zs, e, q⟩ := sat_ofO w'
      obtain ⟨ws, e1, rfl⟩ := Option.map_eq_some_iff.mp e
      obtain ⟨i, j, rfl, rfl, hz, rfl⟩ := catO_inv e1
      exact ⟨hz, q S' r'⟩
    · obtain ⟨xs, ex, w'⟩ := sat_getC (sat_bind w')
      obtain ⟨zs, e, q⟩ := sat_ofO w'
      obtain ⟨ws, e1, rfl⟩ := Option.map_eq_some_iff.mp e
      obtain ⟨i, j, e2, rfl, hz, rfl⟩ := catO_inv e1
      cases e2
      have o := (r'.at ex).2
      show rZCat (.r _) _ _ _
      unfold rZCat
      simp only [listZ, Vl.den]
      rw [o]
      exact ⟨hz, q S' r'⟩
    · obtain ⟨xs, ex, w'⟩ := sat_getC (sat_bind w')
      obtain ⟨zs, e, q⟩ := sat_ofO w'
      obtain ⟨ws, e1, rfl⟩ := Option.map_eq_some_iff.mp e
      obtain ⟨i, j, rfl, e2, hz, rfl⟩ := catO_inv e1
      cases e2
      have o := (r'.at ex).2
      show rZCat _ (.r _) _ _
      unfold rZCat
      simp only [listZ, Vl.den]
      rw [o]
      exact ⟨hz, q S' r'⟩
    · exact w'.elim
  exact this
end
end ZL

namespace ZL
open PySem PySem.Spec PyProof.Rows L2 V
/-! ### constants of the module -/
mutual
def dataB (K : PySem.W.Frag) : Nat → Value → PyData → Bool
  | _, .none, .none => true
  | _, .bool b, .bool c => b == c
  | _, .int i _, .int j => decide (i = j)
  | _, .str x _, .str y => decide (x = y)
  | n + 1, .ref a, .tuple ds => match K.lookup a with
    | some ⟨.type c, _, .seq its _, _⟩ => decide (c = "tuple") && (decide (its.size ≤ sizeLine) && dataAll K n its.toList ds)
    | _ => false
  | _, _, _ => false
def dataAll (K : PySem.W.Frag) : Nat → List Value → List PyData → Bool
  | _, [], [] => true
  | n + 1, u :: us, d :: ds => dataB K n u d && dataAll K n us ds
  | _, _, _ => false
end
theorem data_ok {K : PySem.W.Frag} : ∀ n : Nat, (∀ (u : Value) (d : PyData), dataB K n u d = true → ∃ v, RelV v u ∧ ∀ H, Fz K H v d) ∧ ∀ (us : List Value) (ds : List PyData), dataAll K n us ds = true → ∃ vs, Vals vs us ∧ ∀ H, FzAll K H vs ds := by
  intro n
  induction n with
  | zero =>
    constructor
    · intro u d h
      unfold dataB at h
      split at h
      · exact ⟨.non, rfl, fun _ => .non⟩
      · obtain rfl := beq_iff_eq.mp h; exact ⟨.bl _, rfl, fun _ => .bl _⟩
      · obtain rfl := of_decide_eq_true h; exact ⟨.int _, ⟨_, rfl⟩, fun _ => .int _⟩
      · obtain rfl := of_decide_eq_true h; exact ⟨.str _, ⟨_, rfl⟩, fun _ => .str _⟩
      · rename_i e; cases e
      · cases h
    · intro us ds h
      unfold dataAll at h
      split at h
      · exact ⟨[], .nil, fun _ => .nil⟩
      · rename_i e; cases e
      · cases h
  | succ n ih =>
    constructor
    · intro u d h
      unfold dataB at h
      split at h
      · exact ⟨.non, rfl, fun _ => .non⟩
      · obtain rfl := beq_iff_eq.mp h; exact ⟨.bl _, rfl, fun _ => .bl _⟩
      · obtain rfl := of_decide_eq_true h; exact ⟨.int _, ⟨_, rfl⟩, fun _ => .int _⟩
      · obtain rfl := of_decide_eq_true h; exact ⟨.str _, ⟨_, rfl⟩, fun _ => .str _⟩
      · rename_i m a ds e
        cases e
        split at h
        · rename_i c od its k osl el
          simp only [Bool.and_eq_true, decide_eq_true_eq] at h
          obtain ⟨vs, rv, f⟩ := ih.2 _ _ h.2.2
          exact ⟨.ref a, rfl, fun H => .tup (.inr ⟨_, its, k, el, congrArg Value.type h.1, rfl, h.2.1, rv⟩) (f H)⟩
        · cases h
      · cases h
    · intro us ds h
      unfold dataAll at h
      split at h
      · exact ⟨[], .nil, fun _ => .nil⟩
      · rename_i m u us d ds e
        cases e
        simp only [Bool.and_eq_true] at h
        obtain ⟨v, r, f⟩ := ih.1 _ _ h.1
        obtain ⟨vs, rv, fs⟩ := ih.2 _ _ h.2
        exact ⟨v :: vs, .cons r rv, fun H => .cons (f H) (fs H)⟩
      · cases h
def constB (x : Str) (d : PyData) (K : PySem.W.Frag) : Bool := match PySem.W.nsIn K mainGlobals x with
  | some (some u) => dataB K 40 u d
  | _ => false
theorem const_ok {K : PySem.W.Frag} {h : Heap} {mg : Str → Option Value} {x : Str} {d : PyData} (X : K.In h) (G : h.Ns mainGlobals mg) (c : constB x d K = true) {X' : Cx} {B : Bs} {p : Pos} (hK : X'.K = K) (hM : X'.mg = mg) (hg : Gl X' x) (hd : (x == ("__debug__" : Str)) = false) : ZE X' B (.Name x p) (zC (.d d)) := by
  unfold constB at c
  split at c
  · rename_i u e
    obtain ⟨v, r, f⟩ := (data_ok 40).1 u d c
    refine ze_glob hg (by rw [hM]; exact PySem.W.mg_of X G e) r (fun H => .d (by rw [hK]; exact f H)) hd
  · cases c
/-! ### the head's facts -/
abbrev AlV : Type := He.AlD × Bool
def obsV (fa : List He.Fa) (fn : List He.DefD) (ex : List (PySem.W.Frag → Bool)) (K : PySem.W.Frag) : AlV := (He.obsD fa fn K, ex.all fun b => b K)
def SaysV (fa : List He.Fa) (fn : List He.DefD) (ex : List (PySem.W.Frag → Bool)) (K : PySem.W.Frag) : Prop := obsV fa fn ex K = (He.valD fn, true)
def obsVG (n : Nat) (fa : List He.Fa) (fn : List He.DefD) (ex : List (PySem.W.Frag → Bool)) (g : Addr → Option Obj) : AlV := obsV fa fn ex (He.frG g (He.asD g n))
def hookV (n : Nat) (fa : List He.Fa) (fn : List He.DefD) (ex : List (PySem.W.Frag → Bool)) : PySem.W.Hook where
  α := AlV
  obs := fun s => obsVG n fa fn ex s.heap.get?
  val := fun _ => (He.valD fn, true)
  says := fun _ h => ∃ K : PySem.W.Frag, K.In h ∧ SaysV fa fn ex K
  of := fun _ _ e => ⟨_, He.frG_in, e⟩
  keeps := fun _ _ _ ⟨K, hK, c⟩ k => ⟨K, PySem.W.Frag.In.keeps hK k, c⟩
theorem obsVG_eq {n : Nat} {fa : List He.Fa} {fn : List He.DefD} {ex : List (PySem.W.Frag → Bool)} {g : Addr → Option Obj} {s : Shared} (h : ∀ a, g a = s.heap.get? a) : obsVG n fa fn ex g = (hookV n fa fn ex).obs s := by
  have e : g = s.heap.get? := funext h
  rw [e] <;> rfl
theorem SaysV.d {fa : List He.Fa} {fn : List He.DefD} {ex : List (PySem.W.Frag → Bool)} {K : PySem.W.Frag} (c : SaysV fa fn ex K) : He.SaysD fa fn K := congrArg (fun z : AlV => z.1) c
theorem SaysV.x {fa : List He.Fa} {fn : List He.DefD} {ex : List (PySem.W.Frag → Bool)} {K : PySem.W.Frag} (c : SaysV fa fn ex K) (i : Nat) {f : PySem.W.Frag → Bool} (h : ex[i]? = some f := by rfl) : f K = true := by
  have c1 : (ex.all fun b => b K) = true := congrArg (fun z : AlV => z.2) c
  exact List.all_eq_true.mp c1 f (List.mem_of_getElem? h)
/-! ### the law -/
theorem vdue {mg : Str → Option Value} {F : List PyData → M PyData} {ns : List Int} (h : ∃ s', F [.list (ns.map PyData.int)] [] = .ok (.bool true) s') : VSp mg [.k] false F [.k (ns.map PyData.int)] (fun _ => none) (fun z _ => z = zb true) fun _ _ => False := by
  obtain ⟨s', e⟩ := h
  refine ⟨[.list (ns.map PyData.int)], [], [], rfl, rfl, rfl, rfl, ⟨rfl, fun j c a e => by simp at e, fun i j ci cj a e => by simp at e, fun a c _ e => e, fun j c a e => by simp at e, fun a h => by simp at h, rfl⟩, ?_⟩
  rw [e]
  exact .inl ⟨rfl, fun _ _ => rfl⟩
theorem zwalkE {l : PySem.W.OpenLaw} {n k : Nat} {q : Program} {loose : List Str} {XP : (Str → Option Value) → Heap → Prop} {YP : World → Heap → Prop} {d : DefRec} {x : Str}
    (hn : l.most = some n) (hn2 : n ≤ sizeLine) (hdf : d.params.defaults = []) (room : Room k callerA)
    (F : ∀ (w : World) (mg : Str → Option Value) (fa : Addr) (h : Heap), YP w h → h.Ns mainGlobals mg → mg d.name = some (.ref fa) →
      ∃ (K : PySem.W.Frag) (fd : FuncData) (zsp : ZSp), K.In h ∧ (∀ (s : Shared) (u : Value), BindsTo s fd ⟨[u], []⟩ [(x, u)]) ∧
        (∀ ns : List Int, ns.length ≤ n → zsp [.k (ns.map PyData.int)] (fun _ => none) (fun z _ => z = zb true) fun _ _ => False) ∧ ∀ base : Heap, K.In base → base.Ns mainGlobals mg → ZFn l.prog w K mg base k fa fd [x] zsp) :
    PySem.W.WalkO q loose XP YP l.row.toRowW d [] (fun f vs => PySem.call f vs) := by
  refine Att.attach_call hn hdf ?_
  intro w s₀ s₁ mg mb fa o pm cd doc a vs ns G Y ho hd hcd hmg hobj hints hlen hg
  obtain ⟨K, fd, zsp, KX, bind, due, FF⟩ := F w mg fa _ Y G.T.g hmg
  have small : ns.length ≤ sizeLine := Nat.le_trans hlen hn2
  have rv := vals_ints hints
  cases hk : K.lookup a with
  | some u =>
    have e := KX a u hk
    rw [hobj] at e
    cases e
    exact law_from (H := fun _ => none) KX G.T.g G.T.b G.T.builtins G.T.nolimit hg hobj room FF bind (due ns hlen) (fun _ => .inl rfl) (.inr ⟨_, vs.toArray, _, hk, rfl, rfl, rfl, by rw [List.size_toArray, hints.length]; exact small, by simpa using rv⟩) (fun _ _ z => nomatch z) (fun _ z => absurd rfl z) (fun z => absurd rfl z)
  | none =>
    have here : ∀ {b : Addr}, (fun c => if c = a then some (HO.frz { cls := .type "list", data := .seq vs.toArray } (.lst (ns.map V.int))) else none : Hp) b ≠ none → b = a := by
      intro b z
      by_cases e : b = a
      · exact e
      · exact absurd (if_neg e) z
    refine law_from (H := fun c => if c = a then some (HO.frz { cls := .type "list", data := .seq vs.toArray } (.lst (ns.map V.int))) else none) KX G.T.g G.T.b G.T.builtins G.T.nolimit hg hobj room FF bind (due ns hlen) ?_ (.inl (.inr ⟨_, if_pos rfl⟩)) ?_ (fun b z => here z) (fun _ => hk)
    · intro b
      by_cases e : b = a
      · exact .inr ⟨_, _, if_pos e⟩
      · exact .inl (if_neg e)
    · intro b u z
      have e : b = a := here (by rw [z]; exact fun y => nomatch y)
      subst e
      have z2 := (if_pos rfl).symm.trans z
      cases z2
      exact ⟨hobj, by rw [List.length_map]; exact small, vs, _, rv, hobj⟩
end ZL

namespace V
open PySem PySem.Spec ZL L2
def inO (neg : Bool) : PyData → PyData → Option Bool
  | a, .list ds => if SeqAt.shaped a && SeqAt.shaped (.list ds) then some (inB neg ds a) else none
  | a, .tuple ds => if SeqAt.shaped a && SeqAt.shaped (.tuple ds) then some (inB neg ds a) else none
  | _, _ => none
abbrev inM (neg : Bool) (x y : PyData) : M Bool := ofO (inO neg x y)
def inK (neg : Bool) : List Vl → M Bool
  | [.d x, .d y] => inM neg x y
  | [.d x, .c j] => getC j >>= fun xs => inM neg x (.list xs)
  | _ => bad
def chK (g : PyData → PyData → M Bool) (mc : PyData → M Bool) : List Vl → M Bool := bi2 fun x y => g x y >>= fun k => bif k then mc y else pure false
def dats {β : Type} (k : List PyData → M β) (l : List Vl) : M β := match datV l with
  | some ds => k ds
  | none => bad
def tyM (T : String) (d : PyData) : M Unit := if tyD T d then pure () else bad
end V
namespace ZL
open PySem PySem.Spec PyProof.Rows L2 V
section
variable {C : Ct} {e a b c o : Expr} {es : List Expr} {ρ : VEnv} {pos : Pos}
theorem fl_twoV {β : Type} {m : M β} {k : List Vl → M β} (h : FL C [a, b] ρ [] m k) {ps : List Addr} {s : Cells} {S : Sto} {Q : Z → Z → Sto → Prop} {R : β → Cells → Prop} (r : Rel C.G ps s S) (w : sat (m s) R (XOk C.X.mg C.G C.EZ))
    (q : ∀ u v s' S', Rel C.G ps s' S' → sat (k [u, v] s') R (XOk C.X.mg C.G C.EZ) → Q (u.den ps) (v.den ps) S') : WE C.X C.B a (VEnv.den ps ρ) S fun x S1 => WE C.X C.B b (VEnv.den ps ρ) S1 fun y S2 => Q x y S2 := by
  have := h ps s S (fun zs S' => match zs with | [x, y] => Q x y S' | _ => True) R r w fun ds s' S' r' w' => by
    rw [List.nil_append] at w'
    match ds, w' with
    | [u, v], w' => exact q u v s' S' r' w'
    | [], _ => trivial
    | [_], _ => trivial
    | _ :: _ :: _ :: _, _ => trivial
  exact this
theorem fl_one {β : Type} {m : M β} {g : PyData → M β} (h : FL C [a] ρ [] m (un g)) {ps : List Addr} {s : Cells} {S : Sto} {Q : Z → Sto → Prop} {R : β → Cells → Prop} (r : Rel C.G ps s S) (w : sat (m s) R (XOk C.X.mg C.G C.EZ))
    (q : ∀ x s' S', Rel C.G ps s' S' → sat (g x s') R (XOk C.X.mg C.G C.EZ) → Q (.d x) S') : WE C.X C.B a (VEnv.den ps ρ) S fun x S1 => Q x S1 := by
  have := h ps s S (fun zs S' => match zs with | [x] => Q x S' | _ => True) R r w fun ds s' S' r' w' => by
    rw [List.nil_append] at w'
    unfold un at w'
    split at w'
    · exact q _ s' S' r' w'
    · exact w'.elim
  exact this
def Op2k (r : ZR2) (k : List Vl → M Bool) : Prop := ∀ (C : Ct) ps s S u v (Q : ZQ), Rel C.G ps s S → sat (k [u, v] s) (fun b s' => ∀ S', Rel C.G ps s' S' → Q (zb b) S') (XOk C.X.mg C.G C.EZ) → r (u.den ps) (v.den ps) S Q
theorem t_cmpK {op : CmpOp} {rr : ZR2} {k : List Vl → M Bool} {m : M Bool} (ho : ZOp C.X (compareOp op) rr) (hg : Op2k rr k) (h : FL C [a, b] ρ [] m k) (hm : behindInMarks op b = false := by first | rfl | exact nomark _) : FT C (.Compare a [op] [b] pos) ρ m := by
  intro ps s S Q r w
  refine (zt_cmp ho we_ze we_ze hm).we ?_
  refine fl_twoV h r w fun x y s' S' r' w' => ?_
  exact hg C ps s' S' x y _ r' w'
theorem f_cmpK {op : CmpOp} {rr : ZR2} {k : List Vl → M Bool} {m : M Bool} (ho : ZOp C.X (compareOp op) rr) (hg : Op2k rr k) (h : FL C [a, b] ρ [] m k) (hm : behindInMarks op b = false := by first | rfl | exact nomark _) : FE C (.Compare a [op] [b] pos) ρ (ofB m) := by
  intro ps s S Q r w
  refine (ze_cmp ho we_ze we_ze hm).we ?_
  refine fl_twoV h r (sat_bind w) fun x y s' S' r' w' => ?_
  exact hg C ps s' S' x y _ r' w'
theorem o_in (neg : Bool) : Op2k (rZIn neg) (inK neg) := by
  intro C ps s S u v Q r w
  cases u with
  | c j => exact w.elim
  | k j => exact w.elim
  | d x =>
    cases v with
    | k j => exact w.elim
    | d y =>
      obtain ⟨bb, e, q⟩ := sat_ofO (show sat (ofO (inO neg x y) s) _ _ from w)
      cases y with
      | list ds =>
        simp only [inO] at e
        split at e
        · rename_i hc
          cases e
          rw [Bool.and_eq_true] at hc
          exact ⟨hc, q S r⟩
        · cases e
      | tuple ds =>
        simp only [inO] at e
        split at e
        · rename_i hc
          cases e
          rw [Bool.and_eq_true] at hc
          exact ⟨hc, q S r⟩
        · cases e
      | _ => simp [inO] at e
    | c j =>
      obtain ⟨xs, ex, w⟩ := sat_getC (sat_bind (show sat ((getC j >>= fun xs => inM neg x (.list xs)) s) _ _ from w))
      obtain ⟨bb, e, q⟩ := sat_ofO w
      simp only [inO] at e
      split at e
      · rename_i hc
        cases e
        rw [Bool.and_eq_true] at hc
        show rZIn neg (.d x) (.r (ps.getD j 0)) S Q
        unfold rZIn
        simp only
        rw [(r.at ex).2]
        exact ⟨hc, q S r⟩
      · cases e
/-! a < b < c -/
theorem low_chk {rr rr' : ZR2} {g g' : PyData → PyData → Option Bool} {m : M Bool} {mc : PyData → M Bool} (hg : Op2b rr g) (hg' : Op2b rr' g') (h : FL C [a, b] ρ [] m (chK (fun x y => ofO (g x y)) mc)) (hc : ∀ y, FL C [c] ρ [] (mc y) (un fun w => ofO (g' y w)))
    {ps : List Addr} {s : Cells} {S : Sto} {Q : ZQ} (r : Rel C.G ps s S) (w : sat (m s) (fun b s' => ∀ S', Rel C.G ps s' S' → Q (zb b) S') (XOk C.X.mg C.G C.EZ)) : zChain rr rr' (WE C.X C.B a) (WE C.X C.B b) (WE C.X C.B c) (VEnv.den ps ρ) S Q := by
  refine fl_two h r w fun x y s' S' r' w' => ?_
  obtain ⟨k, e, w2⟩ := sat_ofO (sat_bind w')
  refine hg x y k S' _ e ?_
  cases k with
  | false => exact w2 S' r'
  | true =>
    refine fl_one (hc y) r' w2 fun z s2 S2 r2 w3 => ?_
    obtain ⟨k2, e2, q⟩ := sat_ofO w3
    exact hg' y z k2 S2 Q e2 (q S2 r2)
theorem t_chain {op op' : CmpOp} {rr rr' : ZR2} {g g' : PyData → PyData → Option Bool} {m : M Bool} (mc : PyData → M Bool) (ho : ZOp C.X (compareOp op) rr) (hg : Op2b rr g) (ho' : ZOp C.X (compareOp op') rr') (hg' : Op2b rr' g') (h : FL C [a, b] ρ [] m (chK (fun x y => ofO (g x y)) mc)) (hc : ∀ y, FL C [c] ρ [] (mc y) (un fun w => ofO (g' y w)))
    (hm : lastMarks [op, op'] [b, c] = false := by with_unfolding_all rfl) : FT C (.Compare a [op, op'] [b, c] pos) ρ m := by
  intro ps s S Q r w
  refine (zt_chain ho ho' we_ze we_ze we_ze hm).we ?_
  exact low_chk hg hg' h hc r w
theorem f_chain {op op' : CmpOp} {rr rr' : ZR2} {g g' : PyData → PyData → Option Bool} {m : M Bool} (mc : PyData → M Bool) (ho : ZOp C.X (compareOp op) rr) (hg : Op2b rr g) (ho' : ZOp C.X (compareOp op') rr') (hg' : Op2b rr' g') (h : FL C [a, b] ρ [] m (chK (fun x y => ofO (g x y)) mc)) (hc : ∀ y, FL C [c] ρ [] (mc y) (un fun w => ofO (g' y w)))
    (hm : lastMarks [op, op'] [b, c] = false := by with_unfolding_all rfl) : FE C (.Compare a [op, op'] [b, c] pos) ρ (ofB m) := by
  intro ps s S Q r w
  refine (ze_chain ho ho' we_ze we_ze we_ze hm).we ?_
  exact low_chk hg hg' h hc r (sat_bind w)
/-! methods of data -/
variable {name : Str} {apos cpos : Pos} {T id : String} {g : PyData → List PyData → Option PyData} {mo : M PyData} {ma : PyData → M PyData}
theorem f_meth (pa : PlainAttrs T) (slot : Slot T name id) (hty : typeOf (.builtin id) = pure (.type "method_descriptor")) (hm : MtD C.X id g) (ho : FE C o ρ mo) (ha : ∀ d, FA C (e :: es) ρ [] (ma d) (dats fun ds => ofO (g d ds)))
    (hbase : attributeBase o name C.X.env (eval o C.X.env) = eval o C.X.env := by rfl)
    (hfew : ((backTo cpos (starEach (e :: es) C.X.env)).all (fun x => !x.1) && (backToKw cpos (keywordEach [] C.X.env)).all (fun x => x.1.isSome)
      && decide ((e :: es).length + ([] : List Keyword).length + (if ([] : List Keyword).isEmpty then 0 else 1) < 30)) = true := by rfl)
    (hline : (apos.endLine == cpos.line) = true := by rfl) (hs : starEach (e :: es) C.X.env = (false, eval e C.X.env) :: starEach es C.X.env := by rfl) (hplain : (backTo cpos (starEach es C.X.env)).any (·.1) = false := by rfl) :
    FE C (.Call (.Attribute o name apos) (e :: es) [] cpos) ρ (mo >>= fun d => tyM T d >>= fun _ => ma d) := by
  intro ps s S Q r w
  refine (ze_meth pa slot hty hm we_ze wa_za hbase hfew hline hs hplain).we ?_
  refine ho ps s S _ r ((sat_bind w).mono (fun d s' w' S' r' => ?_) fun _ _ h => h)
  unfold tyM at w'
  have w' := sat_bind w'
  split at w'
  · rename_i ht
    refine ⟨ht, ha d ps s' S' _ _ r' w' fun vs s2 S2 r2 w2 => ?_⟩
    rw [List.nil_append] at w2
    unfold dats at w2
    cases ev : datV vs with
    | none => rw [ev] at w2; exact w2.elim
    | some ds =>
      rw [ev] at w2
      obtain ⟨y, ey, q⟩ := sat_ofO w2
      rw [datas_map ev]
      simp only
      rw [ey]
      exact q S2 r2
  · exact w'.elim
/-! a, b, c = x, y, z -/
variable {L T2 : Type} {rm : Bool} {K : List (List Stmt)} {rest : List Stmt} {emb : T2 → VEnv} {embL : L → VEnv}
def tri {β : Type} (g : PyData → PyData → PyData → M β) : List Vl → M β
  | [.d x, .d y, .d z] => g x y z
  | _ => bad
theorem s_par3 {i j l : Nat} {x y z : Str} {px py pz pt' : Pos} {kt k2 pt2} {mp : M (PyData × PyData × PyData)} {k : PyData × PyData × PyData → M (Fl L T2)} (hN : C.X.N.Nodup) (ha : FA C [a, b, c] ρ [] mp (tri fun u v w => pure (u, v, w))) (hr : ∀ u, FS C rm K rest (((ρ.set i (some (.d u.1))).set j (some (.d u.2.1))).set l (some (.d u.2.2))) emb embL (k u)) (hc : C.X.calm = true := by rfl) (hi : C.X.N[i]? = some x := by rfl) (hj : C.X.N[j]? = some y := by rfl) (hl : C.X.N[l]? = some z := by rfl) (hij : i ≠ j := by decide) (hil : i ≠ l := by decide) (hjl : j ≠ l := by decide)
    (hx : C.X.env.scope.names.lookup x = some .local := by rfl) (hy : C.X.env.scope.names.lookup y = some .local := by rfl) (hz : C.X.env.scope.names.lookup z = some .local := by rfl)
    (hw : swappedStores [.Tuple [.Name x px, .Name y py, .Name z pz] kt pt'] (.Tuple [a, b, c] k2 pt2) C.X.env = pure (some [x, y, z]) := by rfl)
    (hs : swapsWithSole [.Tuple [.Name x px, .Name y py, .Name z pz] kt pt'] (.Tuple [a, b, c] k2 pt2) pos.line C.X.env = pure false := by rfl) :
    FS C rm K (.Assign [.Tuple [.Name x px, .Name y py, .Name z pz] kt pt'] (.Tuple [a, b, c] k2 pt2) pos :: rest) ρ emb embL (mp >>= k) := by
  intro ps s S D r w
  refine wsk_cons (zs_par3 hN wa_za hc hi hj hl hij hil hjl hx hy hz hw hs) ?_
  refine ha ps s S _ _ r (sat_bind w) fun vs s' S' r' w' => ?_
  rw [List.nil_append] at w'
  unfold tri at w'
  split at w'
  · rename_i u v t
    have := hr (u, v, t) ps s' S' D r' w'
    rw [den_set, den_set, den_set] at this
    exact this
  · exact w'.elim
end
end ZL

namespace L
open PySem V ZL
def is_whole (a0 : PyData) : M PyData := V.frame 0 (fin ((andV (pure (isO .int a0)) (notV (pure (isO .bool a0)))) >>= fun x1 => pure (.rt x1)))
def divisor (a0 a1 : PyData) : M PyData := V.frame 0 (fin (((absM a0) >>= fun x8 => (absM a1) >>= fun x9 => (pure (x8, x9))) >>= fun u1 => (V.whileM (fun (t2 : PyData × PyData) => (gtM t2.2 (.int 0))) (fun (t2 : PyData × PyData) => (((((fdivM t2.1 t2.2) >>= fun x4 => (mulM x4 t2.2)) >>= fun x5 => (subM t2.1 x5)) >>= fun x6 => (pure (t2.2, x6))) >>= fun u3 => (pure (.nx (u3.1, u3.2))))) fuel (u1.1, u1.2) >>= flk (fun (t2 : PyData × PyData) => ((pure t2.1) >>= fun x7 => pure (.rt x7))))))
def is_fraction (a0 : PyData) : M PyData := V.frame 0 (fin ((tOr (tNot ((pure (isO .tuple a0)) >>= toB)) (tOr ((lenM a0) >>= fun x6 => (neM x6 (.int 2))) (tNot (((((pure a0) >>= rowM) >>= fun xs2 => (comp pN yep (fun t1 => (sub [] (L.is_whole t1))) xs2) >>= fun ys4 => pure (.list ys4)) >>= fun x5 => (allM x5)) >>= toB)))) >>= fun b7 => bif b7 then ((pure (.bool false)) >>= fun x8 => pure (.rt x8)) else ((andV (ofB ((ixM a0 (.int 1)) >>= fun x12 => (gtM x12 (.int 0)))) (ofB (((ixM a0 (.int 0)) >>= fun x9 => (ixM a0 (.int 1)) >>= fun x10 => (sub [] (L.divisor x9 x10))) >>= fun x11 => (eqM x11 (.int 1))))) >>= fun x13 => pure (.rt x13))))
def need_whole (a0 : PyData) : M PyData := V.frame 0 (fin ((tNot ((sub [] (L.is_whole a0)) >>= toB)) >>= fun b1 => bif b1 then (raise "NoWhole") else (pure (.nx ()))))
def made_by (a0 a1 : PyData) : M PyData := V.frame 0 (fin ((sub [] (L.divisor a0 a1)) >>= fun v1 => ((ltM a1 (.int 0)) >>= fun b2 => (bif b2 then ((negM v1) >>= fun v4 => (pure (.nx v4))) else (pure (.nx v1))) >>= flk (fun (t3 : PyData) => (((fdivM a0 t3) >>= fun x5 => (fdivM a1 t3) >>= fun x6 => (tupK [.d x5, .d x6])) >>= fun x7 => pure (.rt x7))))))
def made (a0 a1 : PyData) : M PyData := V.frame 0 (fin ((sub [] (L.need_whole a0)) >>= fun _u4 => ((sub [] (L.need_whole a1)) >>= fun _u3 => ((eqM a1 (.int 0)) >>= fun b1 => bif b1 then (raise "NoWhole") else ((sub [] (L.made_by a0 a1)) >>= fun x2 => pure (.rt x2))))))
def law_cell_at (a0 a1 : PyData) : M PyData := V.frame 0 (fin (((lenM (.list (unl a0))) >>= fun x1 => (ltM a1 x1)) >>= fun b2 => bif b2 then ((ixM (.list (unl a0)) a1) >>= fun x3 => pure (.rt x3)) else ((pure (.int 0)) >>= fun x4 => pure (.rt x4))))
def law_state (a0 a1 : PyData) : M PyData := V.frame 0 (fin ((sub [] (L.law_cell_at (.list (unl a0)) a1)) >>= fun v1 => (((((powM (.int 10) (.int 18)) >>= fun x2 => (subM v1 x2)) >>= fun x3 => (maxM (.int 0) x3)) >>= fun x4 => ((modM v1 (.int 2147483629)) >>= fun x5 => (addM x5 (.int 1))) >>= fun x6 => (lstN [.d x4, .d x6, .d (.int 0)])) >>= fun xs7 => pure (.rt (.list xs7)))))
def law_choice (a0 : PyData) : M PyData := V.frame 0 (fin (((getC 0 >>= fun xs1 => (ixM (.list xs1) (.int 0))) >>= fun x2 => (gtM x2 (.int 0))) >>= fun b3 => bif b3 then (((getC 0 >>= fun xs5 => (ixM (.list xs5) (.int 0))) >>= fun x6 => (modM x6 a0)) >>= fun v4 => (((getC 0 >>= fun xs7 => (ixM (.list xs7) (.int 0))) >>= fun x8 => (fdivM x8 a0)) >>= fun v10 => (pure (.int 0)) >>= fun x11 => putC 0 x11 v10 >>= fun _ => ((pure v4) >>= fun x9 => pure (.rt x9)))) else (((getC 0 >>= fun xs12 => (ixM (.list xs12) (.int 2))) >>= fun x13 => (addM x13 (.int 1))) >>= fun v40 => (pure (.int 2)) >>= fun x41 => putC 0 x41 v40 >>= fun _ => ((((((getC 0 >>= fun xs14 => (ixM (.list xs14) (.int 1))) >>= fun x15 => (mulM x15 (.int 48271))) >>= fun x16 => (addM x16 (.int 29))) >>= fun x17 => (getC 0 >>= fun xs18 => (ixM (.list xs18) (.int 2))) >>= fun x19 => (addM x17 x19)) >>= fun x20 => (modM x20 (.int 2147483647))) >>= fun v38 => (pure (.int 1)) >>= fun x39 => putC 0 x39 v38 >>= fun _ => ((((((getC 0 >>= fun xs22 => (ixM (.list xs22) (.int 1))) >>= fun x23 => (getC 0 >>= fun xs24 => (ixM (.list xs24) (.int 1))) >>= fun x25 => (mulM x23 x25)) >>= fun x26 => ((getC 0 >>= fun xs27 => (ixM (.list xs27) (.int 1))) >>= fun x28 => (mulM (.int 39373) x28)) >>= fun x29 => (addM x26 x29)) >>= fun x30 => (addM x30 (.int 7))) >>= fun x31 => (modM x31 (.int 2147483629))) >>= fun v21 => ((((mulM v21 v21) >>= fun x33 => (mulM (.int 50021) v21) >>= fun x34 => (addM x33 x34)) >>= fun x35 => (modM x35 (.int 2147483587))) >>= fun v32 => (((fdivM v32 (.int 8)) >>= fun x36 => (modM x36 a0)) >>= fun x37 => pure (.rt x37))))))))
def law_low (a0 a1 : PyData) : M PyData := V.frame 0 (fin (((absM a0) >>= fun x11 => (absM a1) >>= fun x12 => (pure (x11, x12))) >>= fun u1 => (V.whileM (fun (t2 : PyData × PyData) => (gtM t2.2 (.int 0))) (fun (t2 : PyData × PyData) => (((modM t2.1 t2.2) >>= fun x4 => (pure (t2.2, x4))) >>= fun u3 => (pure (.nx (u3.1, u3.2))))) fuel (u1.1, u1.2) >>= flk (fun (t2 : PyData × PyData) => ((((gtM a1 (.int 0)) >>= fun b6 => bif b6 then (fdivM a0 t2.1) else ((fdivM a0 t2.1) >>= fun x5 => (subM (.int 0) x5))) >>= fun x7 => ((absM a1) >>= fun x8 => (fdivM x8 t2.1)) >>= fun x9 => (tupK [.d x7, .d x9])) >>= fun x10 => pure (.rt x10))))))
def law_fraction : M PyData := V.frame 0 (fin (((sub [0] (L.law_choice (.int 19))) >>= fun x2 => (subM x2 (.int 9))) >>= fun v1 => ((sub [0] (L.law_choice (.int 5))) >>= fun v3 => ((ltM v3 (.int 3)) >>= fun b4 => bif b4 then ((((tupK [.d (.int 0), .d (.int 1)]) >>= fun x5 => (tupK [.d (.int 1), .d (.int 1)]) >>= fun x6 => (tupK [.d v1, .d (.int 1)]) >>= fun x7 => (lstK [.d x5, .d x6, .d x7])) >>= fun x8 => (ixM x8 v3)) >>= fun x9 => pure (.rt x9)) else (((((((powM (.int 10) (.int 12)) >>= fun x10 => (addM x10 (.int 7))) >>= fun x11 => (lstK [.d (.int 1), .d x11])) >>= fun x12 => ((ofB ((sub [0] (L.law_choice (.int 9))) >>= fun x13 => (eqM x13 (.int 0)))) >>= fun x14 => (intM x14)) >>= fun x15 => (ixM x12 x15)) >>= fun x16 => (mulM v1 x16)) >>= fun x17 => ((sub [0] (L.law_choice (.int 6))) >>= fun x18 => (addM (.int 1) x18)) >>= fun x19 => (sub [] (L.law_low x17 x19))) >>= fun x20 => pure (.rt x20))))))
def law_same (a0 a1 : PyData) : M PyData := V.frame 0 (fin ((ofB ((reprM a0) >>= fun x1 => (reprM a1) >>= fun x2 => (eqM x1 x2))) >>= fun x3 => pure (.rt x3)))
def law_odd : M PyData := V.frame 0 (fin (((negM (.int 1)) >>= fun x2 => (powM (.int 10) (.int 29)) >>= fun x3 => (tupK []) >>= fun x4 => (lstK []) >>= fun x5 => (pure (.dict [])) >>= fun x6 => (tupK [.d (.int 0), .d (.int 1)]) >>= fun x7 => (tupK [.d (.int 1), .d (.int 1)]) >>= fun x8 => (lstK [.d (.int 0), .d (.int 1)]) >>= fun x9 => (lstK [.d .none, .d (.bool true), .d (.bool false), .d (.int 0), .d (.int 1), .d x2, .d x3, .d (.str ""), .d (.str "a"), .d x4, .d x5, .d x6, .d x7, .d x8, .d x9])) >>= fun v1 => ((((((tupK [.d (.int 0), .d (.int 1)]) >>= fun x10 => (tupK [.d x10])) >>= fun x11 => (tupK [.d (.int 2), .d (.int 4)]) >>= fun x12 => (tupK [.d (.int 1), .d (.int 0)]) >>= fun x13 => (tupK [.d (.int 0), .d (.int 2)]) >>= fun x14 => (tupK [.d (.bool true), .d (.int 1)]) >>= fun x15 => (lstK [.d x11, .d x12, .d x13, .d x14, .d x15])) >>= fun x16 => (addM v1 x16)) >>= fun x17 => (sub [0] (L.law_choice (.int 20))) >>= fun x18 => (ixM x17 x18)) >>= fun x19 => pure (.rt x19))))
def law_whole (a0 : PyData) : M PyData := V.frame 0 (fin ((andV (pure (isO .int a0)) (notV (pure (isO .bool a0)))) >>= fun x1 => pure (.rt x1)))
def law_is_fraction (a0 : PyData) : M PyData := V.frame 0 (fin ((tOr (tNot ((pure (isO .tuple a0)) >>= toB)) (tOr ((lenM a0) >>= fun x6 => (neM x6 (.int 2))) (tNot (((((pure a0) >>= rowM) >>= fun xs2 => (comp pN yep (fun t1 => (sub [] (L.law_whole t1))) xs2) >>= fun ys4 => pure (.list ys4)) >>= fun x5 => (allM x5)) >>= toB)))) >>= fun b7 => bif b7 then ((pure (.bool false)) >>= fun x8 => pure (.rt x8)) else ((andV (ofB ((ixM a0 (.int 1)) >>= fun x12 => (gtM x12 (.int 0)))) (ofB (((ixM a0 (.int 0)) >>= fun x9 => (ixM a0 (.int 1)) >>= fun x10 => (sub [] (L.law_low x9 x10))) >>= fun x11 => (eqM x11 a0)))) >>= fun x13 => pure (.rt x13))))
def law_bent : Nat → PyData → M PyData
  | 0, _ => bad
  | n + 1, a0 => V.frame 1 (fin ((tAnd ((pure (isO .tuple a0)) >>= toB) (tAnd ((tupK []) >>= fun x2 => (neM a0 x2)) ((sub [0] (L.law_choice (.int 5))) >>= fun x1 => (gtM x1 (.int 0))))) >>= fun b3 => bif b3 then (((lenM a0) >>= fun x5 => (sub [0] (L.law_choice x5))) >>= fun v4 => ((((slH a0 v4) >>= fun x6 => (((ixM a0 v4) >>= fun x7 => (sub [0] (law_bent n x7))) >>= fun x8 => (tupK [.d x8])) >>= fun x9 => (addM x6 x9)) >>= fun x10 => ((addM v4 (.int 1)) >>= fun x11 => (slL a0 x11)) >>= fun x12 => (addM x10 x12)) >>= fun x13 => pure (.rt x13))) else ((sub [0] (L.law_choice (.int 9))) >>= fun v14 => ((tAnd ((pure (isO .tuple a0)) >>= toB) (ltM v14 (.int 7))) >>= fun b15 => bif b15 then (((((negM (.int 1)) >>= fun x16 => (slL a0 x16)) >>= fun x17 => (addM a0 x17)) >>= fun x18 => ((negM (.int 1)) >>= fun x19 => (slH a0 x19)) >>= fun x20 => (slL a0 (.int 1)) >>= fun x21 => (revM a0) >>= fun x22 => (listM a0) >>= fun x23 => ((tupK [.d (.int 0)]) >>= fun x24 => (addM a0 x24)) >>= fun x25 => (lstN [.d x18, .d x20, .d x21, .d x22, .d x23, .d x25])) >>= fun xs32 => setC 1 xs32 >>= fun _ => ((getC 1 >>= fun _ => ((tupK [.d a0]) >>= fun x26 => (addM a0 x26)) >>= fun x27 => appC 1 x27) >>= fun _u31 => ((getC 1 >>= fun xs29 => (ixM (.list xs29) v14)) >>= fun x30 => pure (.rt x30)))) else ((tAnd ((sub [] (L.law_whole a0)) >>= toB) (ltM v14 (.int 6))) >>= fun b33 => bif b33 then (((((negM (.int 1)) >>= fun x34 => (negM (.int 101)) >>= fun x35 => (lstK [.d (.int 1), .d x34, .d (.int 2), .d (.int 30), .d x35, .d (.int 5)])) >>= fun x36 => (ixM x36 v14)) >>= fun x37 => (addM a0 x37)) >>= fun x38 => pure (.rt x38)) else ((sub [0] (L.law_odd)) >>= fun x39 => pure (.rt x39)))))))
def law_number : M PyData := V.frame 0 (fin (((negM (.int 1)) >>= fun x2 => (negM (.int 6)) >>= fun x3 => (powM (.int 10) (.int 25)) >>= fun x4 => ((powM (.int 10) (.int 25)) >>= fun x5 => (mulM (.int 7) x5)) >>= fun x6 => (powM (.int 3) (.int 40)) >>= fun x7 => ((sub [0] (L.law_choice (.int 2001))) >>= fun x8 => (subM x8 (.int 1000))) >>= fun x9 => (lstK [.d (.int 0), .d (.int 1), .d x2, .d (.int 2), .d (.int 6), .d x3, .d x4, .d x6, .d x7, .d x9])) >>= fun v1 => (((sub [0] (L.law_choice (.int 10))) >>= fun x10 => (ixM v1 x10)) >>= fun x11 => pure (.rt x11))))
def need_fraction (a0 : PyData) : M PyData := V.frame 0 (fin ((tNot ((sub [] (L.is_fraction a0)) >>= toB)) >>= fun b1 => bif b1 then (raise "NoFraction") else (pure (.nx ()))))
def plus_by (a0 a1 : PyData) : M PyData := V.frame 0 (fin (((((ixM a0 (.int 0)) >>= fun x1 => (ixM a1 (.int 1)) >>= fun x2 => (mulM x1 x2)) >>= fun x3 => ((ixM a1 (.int 0)) >>= fun x4 => (ixM a0 (.int 1)) >>= fun x5 => (mulM x4 x5)) >>= fun x6 => (addM x3 x6)) >>= fun x7 => ((ixM a0 (.int 1)) >>= fun x8 => (ixM a1 (.int 1)) >>= fun x9 => (mulM x8 x9)) >>= fun x10 => (sub [] (L.made_by x7 x10))) >>= fun x11 => pure (.rt x11)))
def minus_by (a0 a1 : PyData) : M PyData := V.frame 0 (fin (((((ixM a0 (.int 0)) >>= fun x1 => (ixM a1 (.int 1)) >>= fun x2 => (mulM x1 x2)) >>= fun x3 => ((ixM a1 (.int 0)) >>= fun x4 => (ixM a0 (.int 1)) >>= fun x5 => (mulM x4 x5)) >>= fun x6 => (subM x3 x6)) >>= fun x7 => ((ixM a0 (.int 1)) >>= fun x8 => (ixM a1 (.int 1)) >>= fun x9 => (mulM x8 x9)) >>= fun x10 => (sub [] (L.made_by x7 x10))) >>= fun x11 => pure (.rt x11)))
def times_by (a0 a1 : PyData) : M PyData := V.frame 0 (fin ((((ixM a0 (.int 0)) >>= fun x1 => (ixM a1 (.int 0)) >>= fun x2 => (mulM x1 x2)) >>= fun x3 => ((ixM a0 (.int 1)) >>= fun x4 => (ixM a1 (.int 1)) >>= fun x5 => (mulM x4 x5)) >>= fun x6 => (sub [] (L.made_by x3 x6))) >>= fun x7 => pure (.rt x7)))
def over_by (a0 a1 : PyData) : M PyData := V.frame 0 (fin ((((ixM a0 (.int 0)) >>= fun x1 => (ixM a1 (.int 1)) >>= fun x2 => (mulM x1 x2)) >>= fun x3 => ((ixM a0 (.int 1)) >>= fun x4 => (ixM a1 (.int 0)) >>= fun x5 => (mulM x4 x5)) >>= fun x6 => (sub [] (L.made_by x3 x6))) >>= fun x7 => pure (.rt x7)))
def less_by (a0 a1 : PyData) : M PyData := V.frame 0 (fin ((ofB (((ixM a0 (.int 0)) >>= fun x1 => (ixM a1 (.int 1)) >>= fun x2 => (mulM x1 x2)) >>= fun x3 => ((ixM a1 (.int 0)) >>= fun x4 => (ixM a0 (.int 1)) >>= fun x5 => (mulM x4 x5)) >>= fun x6 => (ltM x3 x6))) >>= fun x7 => pure (.rt x7)))
def need_two (a0 a1 : PyData) : M PyData := V.frame 0 (fin ((sub [] (L.need_fraction a0)) >>= fun _u2 => ((sub [] (L.need_fraction a1)) >>= fun _u1 => (pure (.nx ())))))
def plus (a0 a1 : PyData) : M PyData := V.frame 0 (fin ((sub [] (L.need_two a0 a1)) >>= fun _u2 => ((sub [] (L.plus_by a0 a1)) >>= fun x1 => pure (.rt x1))))
def minus (a0 a1 : PyData) : M PyData := V.frame 0 (fin ((sub [] (L.need_two a0 a1)) >>= fun _u2 => ((sub [] (L.minus_by a0 a1)) >>= fun x1 => pure (.rt x1))))
def times (a0 a1 : PyData) : M PyData := V.frame 0 (fin ((sub [] (L.need_two a0 a1)) >>= fun _u2 => ((sub [] (L.times_by a0 a1)) >>= fun x1 => pure (.rt x1))))
def over (a0 a1 : PyData) : M PyData := V.frame 0 (fin ((sub [] (L.need_two a0 a1)) >>= fun _u3 => ((eqM a1 (.tuple [(.int 0), (.int 1)])) >>= fun b1 => bif b1 then (raise "NoFraction") else ((sub [] (L.over_by a0 a1)) >>= fun x2 => pure (.rt x2)))))
def less (a0 a1 : PyData) : M PyData := V.frame 0 (fin ((sub [] (L.need_two a0 a1)) >>= fun _u2 => ((sub [] (L.less_by a0 a1)) >>= fun x1 => pure (.rt x1))))
def law_add (a0 a1 : PyData) : M PyData := V.frame 0 (fin (((((ixM a0 (.int 0)) >>= fun x1 => (ixM a1 (.int 1)) >>= fun x2 => (mulM x1 x2)) >>= fun x3 => ((ixM a1 (.int 0)) >>= fun x4 => (ixM a0 (.int 1)) >>= fun x5 => (mulM x4 x5)) >>= fun x6 => (addM x3 x6)) >>= fun x7 => ((ixM a0 (.int 1)) >>= fun x8 => (ixM a1 (.int 1)) >>= fun x9 => (mulM x8 x9)) >>= fun x10 => (sub [] (L.law_low x7 x10))) >>= fun x11 => pure (.rt x11)))
def law_neg (a0 : PyData) : M PyData := V.frame 0 (fin ((((ixM a0 (.int 0)) >>= fun x1 => (subM (.int 0) x1)) >>= fun x2 => (ixM a0 (.int 1)) >>= fun x3 => (tupK [.d x2, .d x3])) >>= fun x4 => pure (.rt x4)))
def law_mul (a0 a1 : PyData) : M PyData := V.frame 0 (fin ((((ixM a0 (.int 0)) >>= fun x1 => (ixM a1 (.int 0)) >>= fun x2 => (mulM x1 x2)) >>= fun x3 => ((ixM a0 (.int 1)) >>= fun x4 => (ixM a1 (.int 1)) >>= fun x5 => (mulM x4 x5)) >>= fun x6 => (sub [] (L.law_low x3 x6))) >>= fun x7 => pure (.rt x7)))
def law_div (a0 a1 : PyData) : M PyData := V.frame 0 (fin ((((ixM a0 (.int 0)) >>= fun x1 => (ixM a1 (.int 1)) >>= fun x2 => (mulM x1 x2)) >>= fun x3 => ((ixM a0 (.int 1)) >>= fun x4 => (ixM a1 (.int 0)) >>= fun x5 => (mulM x4 x5)) >>= fun x6 => (sub [] (L.law_low x3 x6))) >>= fun x7 => pure (.rt x7)))
def law_great2 : M PyData := V.frame 0 (fin ((((((powM (.int 10) (.int 12)) >>= fun x1 => (mulM (.int 2) x1)) >>= fun x2 => (sub [0] (L.law_choice x2))) >>= fun x3 => (powM (.int 10) (.int 12)) >>= fun x4 => (subM x3 x4)) >>= fun x5 => (((powM (.int 10) (.int 7)) >>= fun x6 => (sub [0] (L.law_choice x6))) >>= fun x7 => (addM (.int 1) x7)) >>= fun x8 => (sub [] (L.law_low x5 x8))) >>= fun x9 => pure (.rt x9)))
def law_ring_right (a0 a1 a2 : PyData) : M PyData := V.frame 0 (fin ((tOr ((sub [] (L.plus a0 a1)) >>= fun x3 => (sub [] (L.plus a1 a0)) >>= fun x4 => (neM x3 x4)) ((sub [] (L.times a0 a1)) >>= fun x1 => (sub [] (L.times a1 a0)) >>= fun x2 => (neM x1 x2))) >>= fun b5 => bif b5 then ((pure (.bool false)) >>= fun x6 => pure (.rt x6)) else ((tOr (((sub [] (L.plus a0 a1)) >>= fun x11 => (sub [] (L.plus x11 a2))) >>= fun x12 => ((sub [] (L.plus a1 a2)) >>= fun x13 => (sub [] (L.plus a0 x13))) >>= fun x14 => (neM x12 x14)) (((sub [] (L.times a0 a1)) >>= fun x7 => (sub [] (L.times x7 a2))) >>= fun x8 => ((sub [] (L.times a1 a2)) >>= fun x9 => (sub [] (L.times a0 x9))) >>= fun x10 => (neM x8 x10))) >>= fun b15 => bif b15 then ((pure (.bool false)) >>= fun x16 => pure (.rt x16)) else ((tOr (((sub [] (L.plus a1 a2)) >>= fun x19 => (sub [] (L.times a0 x19))) >>= fun x20 => ((sub [] (L.times a0 a1)) >>= fun x21 => (sub [] (L.times a0 a2)) >>= fun x22 => (sub [] (L.plus x21 x22))) >>= fun x23 => (neM x20 x23)) (((sub [] (L.plus a0 a1)) >>= fun x17 => (sub [] (L.minus x17 a1))) >>= fun x18 => (neM x18 a0))) >>= fun b24 => bif b24 then ((pure (.bool false)) >>= fun x25 => pure (.rt x25)) else ((tOr ((sub [] (L.minus a0 a0)) >>= fun x30 => ((sub [] (L.made (.int 0) (.int 1)))) >>= fun x31 => (neM x30 x31)) (tOr ((((sub [] (L.made (.int 0) (.int 1)))) >>= fun x28 => (sub [] (L.plus a0 x28))) >>= fun x29 => (neM x29 a0)) ((((sub [] (L.made (.int 1) (.int 1)))) >>= fun x26 => (sub [] (L.times a0 x26))) >>= fun x27 => (neM x27 a0)))) >>= fun b32 => bif b32 then ((pure (.bool false)) >>= fun x33 => pure (.rt x33)) else ((tAnd (((sub [] (L.made (.int 0) (.int 1)))) >>= fun x38 => (neM a1 x38)) (tOr (((sub [] (L.over a0 a1)) >>= fun x36 => (sub [] (L.times x36 a1))) >>= fun x37 => (neM x37 a0)) ((sub [] (L.over a1 a1)) >>= fun x34 => ((sub [] (L.made (.int 1) (.int 1)))) >>= fun x35 => (neM x34 x35)))) >>= fun b39 => bif b39 then ((pure (.bool false)) >>= fun x40 => pure (.rt x40)) else ((((((sub [] (L.plus a0 a1)) >>= fun x41 => (sub [] (L.minus a1 a2)) >>= fun x42 => (sub [] (L.times a0 a2)) >>= fun x43 => (lstK [.d x41, .d x42, .d x43])) >>= rowM) >>= fun xs45 => (comp pN yep (fun t44 => (sub [] (L.is_fraction t44))) xs45) >>= fun ys47 => pure (.list ys47)) >>= fun x48 => (allM x48)) >>= fun x49 => pure (.rt x49))))))))
def law_order_right (a0 a1 a2 : PyData) : M PyData := V.frame 0 (fin (((((sub [] (L.less a0 a1)) >>= fun x1 => (sub [] (L.less a1 a0)) >>= fun x2 => (ofB (eqM a0 a1)) >>= fun x3 => (lstK [.d x1, .d x2, .d x3])) >>= fun x4 => tyM "list" x4 >>= fun _ => (ofO (countO x4 [(.bool true)]))) >>= fun x5 => (neM x5 (.int 1))) >>= fun b6 => bif b6 then ((pure (.bool false)) >>= fun x7 => pure (.rt x7)) else ((tAnd ((sub [] (L.less a0 a1)) >>= toB) (tAnd ((sub [] (L.less a1 a2)) >>= toB) (tNot ((sub [] (L.less a0 a2)) >>= toB)))) >>= fun b8 => bif b8 then ((pure (.bool false)) >>= fun x9 => pure (.rt x9)) else ((tOr ((sub [] (L.less a0 a1)) >>= fun x14 => ((sub [] (L.plus a0 a2)) >>= fun x15 => (sub [] (L.plus a1 a2)) >>= fun x16 => (sub [] (L.less x15 x16))) >>= fun x17 => (neM x14 x17)) ((sub [] (L.less a0 a1)) >>= fun x10 => (((sub [] (L.made (.int 0) (.int 1)))) >>= fun x11 => (sub [] (L.minus a1 a0)) >>= fun x12 => (sub [] (L.less x11 x12))) >>= fun x13 => (neM x10 x13))) >>= fun b18 => bif b18 then ((pure (.bool false)) >>= fun x19 => pure (.rt x19)) else ((orV (notV (((sub [] (L.made (.int 0) (.int 1)))) >>= fun x24 => (sub [] (L.less x24 a2)))) (ofB ((sub [] (L.less a0 a1)) >>= fun x20 => ((sub [] (L.times a0 a2)) >>= fun x21 => (sub [] (L.times a1 a2)) >>= fun x22 => (sub [] (L.less x21 x22))) >>= fun x23 => (eqM x20 x23)))) >>= fun x25 => pure (.rt x25))))))
def law3 (a0 : PyData) : M PyData := V.frame 1 (fin (((((lenM (.list (unl a0))) >>= fun x2 => (minM x2 (.int 8))) >>= fun x3 => (maxM (.int 1) x3)) >>= fun x4 => (rangeM (.int 0) x4)) >>= fun xs6 => V.forM pN (fun u5 (t1 : Unit) => ((callL (sub [] (L.law_state (.list (unl a0)) u5))) >>= fun xs26 => setC 0 xs26 >>= fun _ => ((rangeM (.int 0) (.int 4)) >>= fun xs9 => V.forM pN (fun u8 (t7 : Unit) => (((sub [0] (L.law_fraction)) >>= fun x11 => (sub [0] (L.law_fraction)) >>= fun x12 => (sub [0] (L.law_great2)) >>= fun x13 => (sub [0] (L.law_great2)) >>= fun x14 => (lstK [.d x11, .d x12, .d x13, .d x14])) >>= fun v10 => ((sub [0] (L.law_choice (.int 4))) >>= fun v15 => (((ixM v10 v15) >>= fun x17 => (((addM v15 (.int 1)) >>= fun x18 => (modM x18 (.int 4))) >>= fun x19 => (ixM v10 x19)) >>= fun x20 => (((addM v15 (.int 2)) >>= fun x21 => (modM x21 (.int 4))) >>= fun x22 => (ixM v10 x22)) >>= fun x23 => (pure (x17, x20, x23))) >>= fun u16 => ((tOr (tNot ((sub [] (L.law_ring_right u16.1 u16.2.1 u16.2.2)) >>= toB)) (tOr (tNot ((sub [] (L.law_order_right u16.1 u16.2.1 u16.2.2)) >>= toB)) (tNot ((sub [] (L.law_order_right u16.1 u16.1 u16.2.2)) >>= toB)))) >>= fun b24 => bif b24 then ((pure (.bool false)) >>= fun x25 => pure (.rt x25)) else (pure (.nx ()))))))) xs9 () >>= flk (fun (t7 : Unit) => (pure (.nx ())))))) xs6 () >>= flk (fun (t1 : Unit) => ((pure (.bool true)) >>= fun x27 => pure (.rt x27)))))
end L
set_option exponentiation.threshold 20000
namespace V
open PySem PySem.Spec ZL L2
/-! ### how the plain functions run -/
section
variable {α β : Type}
@[simp] theorem frame_pure (nl : Nat) (a : PyData) : V.frame nl (pure a) = pure a := by
  funext s; show (match (Res.ok a (s ++ List.replicate nl none) : Res PyData) with | .ok a s' => Res.ok a (s'.take s.length) | .ex x s' => .ex x (s'.take s.length) | .bad => .bad) = _
  simp
@[simp] theorem frame_raise (nl : Nat) (n : Str) : V.frame nl (raise n) = raise n := by
  funext s; show (match (Res.ex ⟨n, []⟩ (s ++ List.replicate nl none) : Res PyData) with | .ok a s' => Res.ok a (s'.take s.length) | .ex x s' => .ex x (s'.take s.length) | .bad => .bad) = _
  simp; rfl
@[simp] theorem frame_cond (nl : Nat) (b : Bool) (x y : M PyData) : V.frame nl (bif b then x else y) = bif b then V.frame nl x else V.frame nl y := by cases b <;> rfl
@[simp] theorem frame_ite (nl : Nat) (c : Prop) [Decidable c] (x y : M PyData) : V.frame nl (if c then x else y) = if c then V.frame nl x else V.frame nl y := by split <;> rfl
@[simp] theorem bind_ite' (c : Prop) [Decidable c] (x y : M α) (k : α → M β) : ((if c then x else y) >>= k) = if c then (x >>= k) else (y >>= k) := by split <;> rfl
@[simp] theorem fin_ite (c : Prop) [Decidable c] (x y : M (Fl Unit Unit)) : fin (if c then x else y) = if c then fin x else fin y := by split <;> rfl
@[simp] theorem sub_raise (n : Str) : sub [] (raise n : M α) = raise n := rfl
@[simp] theorem raise_run (n : Str) (s : Cells) : (raise n : M α) s = .ex ⟨n, []⟩ s := rfl
theorem frame_run {nl : Nat} {m : M PyData} {s s' : Cells} {a : PyData} (h : m (s ++ List.replicate nl none) = .ok a s') : V.frame nl m s = .ok a (s'.take s.length) := by
  unfold V.frame; rw [h]
@[simp] theorem add_int (i j : Int) : addM (.int i) (.int j) = pure (.int (i + j)) := rfl
@[simp] theorem sub_int (i j : Int) : subM (.int i) (.int j) = pure (.int (i - j)) := rfl
@[simp] theorem neg_int (i : Int) : negM (.int i) = pure (.int (-i)) := rfl
@[simp] theorem abs_int (i : Int) : absM (.int i) = pure (.int i.natAbs) := by show (pure (PyData.int (absI i)) : M PyData) = _; rw [absI_eq]
@[simp] theorem max_int (i j : Int) : maxM (.int i) (.int j) = pure (.int (max i j)) := by show (pure (PyData.int (maxI i j)) : M PyData) = _; rw [maxI_eq]
@[simp] theorem min_int (i j : Int) : minM (.int i) (.int j) = pure (.int (min i j)) := by show (pure (PyData.int (minI i j)) : M PyData) = _; rw [minI_eq]
@[simp] theorem lt_int (i j : Int) : ltM (.int i) (.int j) = pure (decide (i < j)) := rfl
@[simp] theorem le_int (i j : Int) : leM (.int i) (.int j) = pure (decide (i ≤ j)) := rfl
@[simp] theorem gt_int (i j : Int) : gtM (.int i) (.int j) = pure (decide (j < i)) := rfl
@[simp] theorem ge_int (i j : Int) : geM (.int i) (.int j) = pure (decide (j ≤ i)) := rfl
@[simp] theorem eq_int (i j : Int) : eqM (.int i) (.int j) = pure (decide (i = j)) := rfl
@[simp] theorem ne_int (i j : Int) : neM (.int i) (.int j) = pure (!decide (i = j)) := rfl
theorem mul_int {i j : Int} (h : mulOk i j = true) : mulM (.int i) (.int j) = pure (.int (i * j)) := by show ofO (if mulOk i j then _ else _) = _; rw [if_pos h]; rfl
theorem fdiv_int {i j : Int} (h : divOk j = true) : fdivM (.int i) (.int j) = pure (.int (i.fdiv j)) := by show ofO (if divOk j then _ else _) = _; rw [if_pos h]; rfl
theorem mod_int {i j : Int} (h : 0 < j) : modM (.int i) (.int j) = pure (.int (i % j)) := by show ofO (if 0 < j then _ else _) = _; rw [if_pos h]; rfl
theorem pow_int {i j : Int} (h : powOk i j = true) : powM (.int i) (.int j) = pure (.int (i ^ j.toNat)) := by show ofO (if powOk i j then _ else _) = _; rw [if_pos h]; rfl
@[simp] theorem len_list (xs : List PyData) : lenM (.list xs) = pure (.int xs.length) := rfl
@[simp] theorem len_tuple (xs : List PyData) : lenM (.tuple xs) = pure (.int xs.length) := rfl
@[simp] theorem toB_bool (b : Bool) : toB (.bool b) = pure b := rfl
@[simp] theorem ofB_pure (b : Bool) : ofB (pure b) = pure (.bool b) := rfl
@[simp] theorem tNot_pure (b : Bool) : tNot (pure b) = pure (!b) := rfl
@[simp] theorem tAnd_pure (b : Bool) (m : M Bool) : tAnd (pure b) m = bif b then m else pure false := rfl
@[simp] theorem tOr_pure (b : Bool) (m : M Bool) : tOr (pure b) m = bif b then pure true else m := rfl
@[simp] theorem andV_bool (b : Bool) (m : M PyData) : ZL.andV (pure (.bool b)) m = bif b then m else pure (.bool false) := rfl
@[simp] theorem orV_bool (b : Bool) (m : M PyData) : ZL.orV (pure (.bool b)) m = bif b then pure (.bool true) else m := rfl
@[simp] theorem notV_bool (b : Bool) : ZL.notV (pure (.bool b)) = pure (.bool (!b)) := rfl
@[simp] theorem ofB_bind (m : M α) (k : α → M Bool) : ofB (m >>= k) = (m >>= fun a => ofB (k a)) := by unfold ofB; rw [bind_assoc']
@[simp] theorem tNot_bind (m : M α) (k : α → M Bool) : tNot (m >>= k) = (m >>= fun a => tNot (k a)) := by unfold tNot; rw [bind_assoc']
@[simp] theorem tAnd_bind (m : M α) (k : α → M Bool) (n : M Bool) : tAnd (m >>= k) n = (m >>= fun a => tAnd (k a) n) := by unfold tAnd; rw [bind_assoc']
@[simp] theorem tOr_bind (m : M α) (k : α → M Bool) (n : M Bool) : tOr (m >>= k) n = (m >>= fun a => tOr (k a) n) := by unfold tOr; rw [bind_assoc']
@[simp] theorem andV_bind (m : M α) (k : α → M PyData) (n : M PyData) : ZL.andV (m >>= k) n = (m >>= fun a => ZL.andV (k a) n) := by unfold ZL.andV; rw [bind_assoc']
@[simp] theorem orV_bind (m : M α) (k : α → M PyData) (n : M PyData) : ZL.orV (m >>= k) n = (m >>= fun a => ZL.orV (k a) n) := by unfold ZL.orV; rw [bind_assoc']
@[simp] theorem notV_bind (m : M α) (k : α → M PyData) : ZL.notV (m >>= k) = (m >>= fun a => ZL.notV (k a)) := by unfold ZL.notV; rw [bind_assoc']
@[simp] theorem rowM_list (xs : List PyData) : rowM (.list xs) = pure xs := rfl
@[simp] theorem rowM_tuple (xs : List PyData) : rowM (.tuple xs) = pure xs := rfl
theorem boolsZ_pure : ∀ (bs : List Bool), boolsZ (bs.map PyData.bool) = some bs := boolsZ_of
theorem all_bools (bs : List Bool) : allM (.list (bs.map PyData.bool)) = pure (.bool (bs.all fun b => b)) := by show ofO ((boolsZ _).map _) = _; rw [boolsZ_of]; rfl
theorem any_bools (bs : List Bool) : anyM (.list (bs.map PyData.bool)) = pure (.bool (bs.any fun b => b)) := by show ofO ((boolsZ _).map _) = _; rw [boolsZ_of]; rfl
@[simp] theorem tupK_nil : tupK [] = pure (.tuple []) := rfl
@[simp] theorem tupK_1 (a : PyData) : tupK [.d a] = pure (.tuple [a]) := rfl
@[simp] theorem tupK_2 (a b : PyData) : tupK [.d a, .d b] = pure (.tuple [a, b]) := rfl
@[simp] theorem tupK_3 (a b c : PyData) : tupK [.d a, .d b, .d c] = pure (.tuple [a, b, c]) := rfl
@[simp] theorem tupK_4 (a b c d : PyData) : tupK [.d a, .d b, .d c, .d d] = pure (.tuple [a, b, c, d]) := rfl
theorem datV_map : ∀ l : List PyData, datV (l.map Vl.d) = some l
  | [] => rfl
  | a :: l => by simp [datV, datV_map l]
theorem lstK_of (l : List PyData) (h : l.length ≤ 16777216) : lstK (l.map Vl.d) = pure (.list l) := by
  unfold lstK; rw [datV_map]; exact if_pos h
theorem lstN_of (l : List PyData) (h : l.length ≤ 16777216) : lstN (l.map Vl.d) = pure l := by
  unfold lstN; rw [datV_map]; exact if_pos h
theorem comp_some {T : Type} {mt : PyData → Option T} {f : T → M PyData} {g : PyData → PyData} : ∀ {xs : List PyData}, (∀ x ∈ xs, ∃ t, mt x = some t ∧ f t = pure (g x)) → compP mt yep f xs = pure (xs.map g)
  | [], _ => rfl
  | x :: r, h => by
    obtain ⟨t, e1, e2⟩ := h x (by simp)
    unfold compP
    rw [e1, ofO_some, pure_bind', pure_bind', cond_true, e2, pure_bind', comp_some (xs := r) fun y hy => h y (by simp [hy])]
    rfl
theorem comp_map {T : Type} {mt : PyData → Option T} {f : T → M PyData} (g : PyData → PyData) {xs : List PyData} (hz : xs.length ≤ 16777216) (h : ∀ x ∈ xs, ∃ t, mt x = some t ∧ f t = pure (g x)) : comp mt yep f xs = pure (xs.map g) := by
  unfold comp
  rw [if_pos (show xs.length ≤ line from hz), comp_some h]
  rfl
theorem ix_list {xs : List PyData} {i : Int} {d : PyData} (h : 0 ≤ i) (e : xs[i.toNat]? = some d) : ixM (.list xs) (.int i) = pure d := by
  show ofO (atI xs i) = _
  have hl := (List.getElem?_eq_some_iff.mp e).1
  rw [show atI xs i = some d by
    unfold atI ixN
    rw [if_pos h, if_pos (by omega)]
    exact e]
  rfl
theorem ix_tuple {xs : List PyData} {i : Int} {d : PyData} (h : 0 ≤ i) (e : xs[i.toNat]? = some d) : ixM (.tuple xs) (.int i) = pure d := ix_list (xs := xs) h e
/-! ### total runs -/
/-- from where P holds m runs to its end, and Q holds there -/
def Tr (P : Cells → Prop) (m : M α) (Q : α → Cells → Prop) : Prop := ∀ s, P s → ∃ a s', m s = .ok a s' ∧ Q a s'
theorem Tr.pure {P : Cells → Prop} {Q : α → Cells → Prop} {a : α} (h : ∀ s, P s → Q a s) : Tr P (pure a) Q := fun s p => ⟨a, s, rfl, h s p⟩
theorem Tr.bind {P : Cells → Prop} {R : α → Cells → Prop} {Q : β → Cells → Prop} {m : M α} {k : α → M β} (h1 : Tr P m R) (h2 : ∀ a, Tr (R a) (k a) Q) : Tr P (m >>= k) Q := fun s p => by
  obtain ⟨a, s1, e1, r⟩ := h1 s p
  obtain ⟨b, s2, e2, q⟩ := h2 a s1 r
  exact ⟨b, s2, by rw [bind_ok e1]; exact e2, q⟩
theorem Tr.post {P : Cells → Prop} {Q Q' : α → Cells → Prop} {m : M α} (h : Tr P m Q) (q : ∀ a s, Q a s → Q' a s) : Tr P m Q' := fun s p => let ⟨a, s', e, h⟩ := h s p; ⟨a, s', e, q a s' h⟩
theorem Tr.pre {P P' : Cells → Prop} {Q : α → Cells → Prop} {m : M α} (h : Tr P m Q) (q : ∀ s, P' s → P s) : Tr P' m Q := fun s p => h s (q s p)
theorem Tr.of {P : Cells → Prop} {Q : α → Cells → Prop} {m : M α} (h : ∀ s, P s → Tr (fun s' => s' = s) m Q) : Tr P m Q := fun s p => h s p s rfl
theorem Tr.cond {P : Cells → Prop} {Q : α → Cells → Prop} {b : Bool} {x y : M α} (h1 : b = true → Tr P x Q) (h2 : b = false → Tr P y Q) : Tr P (bif b then x else y) Q := by
  cases b with
  | true => exact h1 rfl
  | false => exact h2 rfl
theorem Tr.forM {L T γ : Type} {pt : PyData → Option γ} {body : γ → T → M (Fl T T)} {Q : Fl L T → Cells → Prop} (I : T → Cells → Prop) : ∀ {xs : List PyData} {t : T}, (∀ x ∈ xs, ∃ u, pt x = some u ∧ ∀ t, Tr (I t) (body u t) fun f s => match f with | .nx t' => I t' s | _ => False) → (∀ t s, I t s → Q (.nx t) s) → Tr (I t) (V.forM pt body xs t) Q
  | [], t, _, hq => fun s p => ⟨.nx t, s, rfl, hq t s p⟩
  | x :: r, t, h, hq => by
    obtain ⟨u, e, hb⟩ := h x (by simp)
    unfold V.forM
    rw [e, ofO_some, pure_bind']
    refine Tr.bind (hb t) fun f => ?_
    cases f with
    | nx t' => exact Tr.forM I (xs := r) (fun y hy => h y (by simp [hy])) hq
    | _ => exact fun s p => p.elim
/-! ### the state of the draws -/
def GoodSt (st : List PyData) : Prop := ∃ a b c : Int, st = [.int a, .int b, .int c] ∧ 0 ≤ b ∧ b < 2 ^ 31
abbrev cS (st : List PyData) : Option Cell := some (.lst st)
/-- a draw: the state in the first cell is led on, the cells behind stay -/
def Gen (m : M α) (P : α → Prop) : Prop := ∀ st rest, GoodSt st → ∃ a st', GoodSt st' ∧ P a ∧ m (cS st :: rest) = .ok a (cS st' :: rest)
theorem Gen.pure {P : α → Prop} {a : α} (h : P a) : Gen (pure a) P := fun st rest g => ⟨a, st, g, h, rfl⟩
theorem Gen.bind {R : α → Prop} {P : β → Prop} {m : M α} {k : α → M β} (h1 : Gen m R) (h2 : ∀ a, R a → Gen (k a) P) : Gen (m >>= k) P := fun st rest g => by
  obtain ⟨a, st1, g1, r, e1⟩ := h1 st rest g
  obtain ⟨b, st2, g2, p, e2⟩ := h2 a r st1 rest g1
  exact ⟨b, st2, g2, p, by rw [bind_ok e1]; exact e2⟩
theorem Gen.mono {P P' : α → Prop} {m : M α} (h : Gen m P) (q : ∀ a, P a → P' a) : Gen m P' := fun st rest g => let ⟨a, st', g', p, e⟩ := h st rest g; ⟨a, st', g', q a p, e⟩
theorem Gen.cond {P : α → Prop} {b : Bool} {x y : M α} (h1 : b = true → Gen x P) (h2 : b = false → Gen y P) : Gen (bif b then x else y) P := by
  cases b with
  | true => exact h1 rfl
  | false => exact h2 rfl
theorem Gen.sub {P : α → Prop} {m : M α} (h : Gen m P) : Gen (sub [0] m) P := fun st rest g => by
  obtain ⟨a, st', g', p, e⟩ := h st [] g
  refine ⟨a, st', g', p, ?_⟩
  show (bif liveB (cS st :: rest) [0] then _ else _) = _
  rw [show liveB (cS st :: rest) [0] = true from rfl, cond_true, show pick (cS st :: rest) [0] = [cS st] from rfl, e]
  rfl
theorem Gen.frame {P : PyData → Prop} {m : M PyData} {nl : Nat} (h : ∀ st, GoodSt st → ∃ a st' r, GoodSt st' ∧ P a ∧ m (cS st :: List.replicate nl none) = .ok a (cS st' :: r)) : ∀ st, GoodSt st → ∃ a st', GoodSt st' ∧ P a ∧ V.frame nl m [cS st] = .ok a [cS st'] := fun st g => by
  obtain ⟨a, st', r, g', p, e⟩ := h st g
  exact ⟨a, st', g', p, by rw [frame_run (s := [cS st]) e]; rfl⟩
/-- a def handed the state alone -/
def Gen1 (m : M α) (P : α → Prop) : Prop := ∀ st, GoodSt st → ∃ a st', GoodSt st' ∧ P a ∧ m [cS st] = .ok a [cS st']
theorem Gen1.sub {P : α → Prop} {m : M α} (h : Gen1 m P) : Gen (V.sub [0] m) P := fun st rest g => by
  obtain ⟨a, st', g', p, e⟩ := h st g
  refine ⟨a, st', g', p, ?_⟩
  show (bif liveB (cS st :: rest) [0] then _ else _) = _
  rw [show liveB (cS st :: rest) [0] = true from rfl, cond_true, show pick (cS st :: rest) [0] = [cS st] from rfl, e]
  rfl
theorem Gen.frame0 {P : PyData → Prop} {m : M PyData} {nl : Nat} (h : Gen m P) : Gen1 (V.frame nl m) P := fun st g => by
  obtain ⟨a, st', g', p, e⟩ := h st (List.replicate nl none) g
  exact ⟨a, st', g', p, by rw [frame_run (s := [cS st]) e]; rfl⟩
end
end V

set_option exponentiation.threshold 20000
namespace V
open PySem PySem.Spec ZL L2
/-! ### sizes -/
theorem mulOk_of {i j : Int} {a b : Nat} (ha : i.natAbs < 2 ^ a) (hb : j.natAbs < 2 ^ b) (h : a + b ≤ 100000000) : mulOk i j = true := by
  unfold mulOk
  refine decide_eq_true ?_
  have l : ∀ {x k : Nat}, x < 2 ^ k → x.log2 ≤ k := by
    intro x k hx
    by_cases e : x = 0
    · subst e; simp
    · have := (Nat.log2_lt e).mpr hx; omega
  have := l ha
  have := l hb
  omega
theorem divOk_of {j : Int} {n : Nat} (h : j ≠ 0) (hn : j.natAbs < 2 ^ n) (hl : n ≤ 9000) : divOk j = true := by
  unfold divOk
  have := (Nat.log2_lt (by omega : j.natAbs ≠ 0)).mpr hn
  simp only [Bool.and_eq_true, decide_eq_true_eq]
  exact ⟨h, by omega⟩
/-! ### the greatest divisor -/
theorem gcd_half {x y : Nat} {k : Nat} (h0 : 0 < x % y) (hy : y < 2 ^ (k + 1)) : y % (x % y) < 2 ^ k := by
  rcases Nat.eq_zero_or_pos y with e | hy0
  · subst e; rw [Nat.zero_mod]; exact Nat.two_pow_pos k
  have h1 : x % y < y := Nat.mod_lt _ hy0
  have h2 : y % (x % y) < x % y := Nat.mod_lt _ h0
  have h3 : y % (x % y) + x % y ≤ y := by
    have e := Nat.mod_add_div y (x % y)
    have : 1 ≤ y / (x % y) := (Nat.one_le_div_iff h0).mpr (Nat.le_of_lt h1)
    have : x % y * 1 ≤ x % y * (y / (x % y)) := Nat.mul_le_mul_left _ this
    omega
  rw [Nat.pow_succ] at hy
  omega
theorem while_gcd {L : Type} {c : PyData × PyData → M Bool} {body : PyData × PyData → M (Fl (PyData × PyData) (PyData × PyData))} {B : Nat} (hc : ∀ x y : Nat, c (.int x, .int y) = pure (decide ((0 : Int) < y)))
    (hb : ∀ x y : Nat, x < 2 ^ B → y < 2 ^ B → 0 < y → body (.int x, .int y) = pure (.nx (.int y, .int ((x % y : Nat) : Int)))) : ∀ (k x y n : Nat), x < 2 ^ B → y < 2 ^ B → y < 2 ^ k → 2 * k + 1 ≤ n → (whileM c body n (.int x, .int y) : M (Fl L _)) = pure (.nx (.int (Nat.gcd x y), .int 0)) := by
  have step : ∀ (x y n : Nat), x < 2 ^ B → y < 2 ^ B → 0 < y → (whileM c body (n + 1) (.int x, .int y) : M (Fl L _)) = whileM c body n (.int y, .int ((x % y : Nat) : Int)) := by
    intro x y n hx hy h0
    rw [whileM_succ, hc, pure_bind', show decide ((0 : Int) < y) = true from decide_eq_true (by omega), cond_true, hb x y hx hy h0, pure_bind']
  have stop : ∀ (x n : Nat), (whileM c body (n + 1) (.int x, .int (0 : Nat)) : M (Fl L _)) = pure (.nx (.int x, .int 0)) := by
    intro x n
    rw [whileM_succ, hc, pure_bind']
    rfl
  intro k
  induction k with
  | zero =>
    intro x y n hx hy hk hn
    have e : y = 0 := by omega
    subst e
    obtain ⟨m, rfl⟩ : ∃ m, n = m + 1 := ⟨n - 1, by omega⟩
    rw [stop, Nat.gcd_zero_right]
  | succ k ih =>
    intro x y n hx hy hk hn
    obtain ⟨m, rfl⟩ : ∃ m, n = m + 2 + 1 := ⟨n - 3, by omega⟩
    rcases Nat.eq_zero_or_pos y with e | h0
    · subst e; rw [stop, Nat.gcd_zero_right]
    · rw [step x y _ hx hy h0]
      have h1 : x % y < y := Nat.mod_lt _ h0
      rcases Nat.eq_zero_or_pos (x % y) with e | h2
      · rw [e, stop]
        have : Nat.gcd x y = y := by rw [Nat.gcd_comm, Nat.gcd_rec, e, Nat.gcd_zero_left]
        rw [this]
      · rw [step y (x % y) _ hy (by omega) h2, ih (x % y) (y % (x % y)) (m + 1) (by omega) (Nat.lt_trans (Nat.mod_lt _ h2) (by omega)) (gcd_half h2 hk) (by omega)]
        have e1 : Nat.gcd x y = Nat.gcd (x % y) (y % (x % y)) := by rw [Nat.gcd_comm x y, Nat.gcd_rec y x, Nat.gcd_rec (x % y) y, Nat.gcd_comm]
        rw [e1]
theorem int_mod_nat (x y : Nat) : ((x : Int) % (y : Int)) = ((x % y : Nat) : Int) := rfl
/-- what comes behind a divisor's loop -/
theorem divisor_eq (a b : Int) (ha : a.natAbs < 2 ^ 9000) (hb : b.natAbs < 2 ^ 9000) : L.divisor (.int a) (.int b) = pure (.int (Int.gcd a b)) := by
  unfold L.divisor
  simp only [abs_int, pure_bind']
  rw [while_gcd (B := 9000) (k := 9000) (fun x y => by simp only [gt_int]) (fun x y hx hy h0 => ?_) a.natAbs b.natAbs fuel ha hb hb (by unfold fuel; omega)]
  · simp only [pure_bind', flk_nx, fin_rt, frame_pure]
    rfl
  · simp only []
    have e : (x : Int).fdiv (y : Int) * (y : Int) = ((x / y * y : Nat) : Int) := by
      rw [Int.fdiv_eq_ediv_of_nonneg _ (by omega)]
      norm_cast
    rw [fdiv_int (divOk_of (n := 9000) (by omega) (by simpa using hy) (by omega)), pure_bind', mul_int, pure_bind', sub_int, pure_bind', pure_bind', e]
    · have : (x : Int) - ((x / y * y : Nat) : Int) = ((x % y : Nat) : Int) := by
        have := Nat.mod_add_div x y
        rw [Nat.mul_comm] at this
        omega
      rw [this]
    · refine mulOk_of (a := 9000) (b := 9000) ?_ (by simpa using hy) (by omega)
      rw [Int.fdiv_eq_ediv_of_nonneg _ (by omega)]
      have : ((x : Int) / (y : Int)).natAbs = x / y := rfl
      rw [this]
      exact Nat.lt_of_le_of_lt (Nat.div_le_self _ _) hx
end V

set_option exponentiation.threshold 20000
namespace V
open PySem PySem.Spec ZL L2
/-! ### fractions -/
def fr (q : Rat) : PyData := .tuple [.int q.num, .int q.den]
def Bt (n : Nat) (q : Rat) : Prop := q.num.natAbs < 2 ^ n ∧ q.den < 2 ^ n
theorem Bt.mono {n m : Nat} {q : Rat} (h : Bt n q) (hn : n ≤ m) : Bt m q := ⟨Nat.lt_of_lt_of_le h.1 (Nat.pow_le_pow_right (by decide) hn), Nat.lt_of_lt_of_le h.2 (Nat.pow_le_pow_right (by decide) hn)⟩
theorem gcd_dvd_l (a b : Int) : ((Int.gcd a b : Nat) : Int) ∣ a := Int.gcd_dvd_left ..
theorem gcd_dvd_r (a b : Int) : ((Int.gcd a b : Nat) : Int) ∣ b := Int.gcd_dvd_right ..
theorem gcd_pos (a b : Int) (h : b ≠ 0) : 0 < Int.gcd a b := Nat.pos_of_ne_zero fun e => h (Int.gcd_eq_zero_iff.mp e).2
theorem fr_divInt (a b : Int) (h : b ≠ 0) : fr (Rat.divInt a b) = .tuple [.int (if 0 < b then a / (Int.gcd a b : Nat) else -(a / (Int.gcd a b : Nat))), .int (b.natAbs / Int.gcd a b : Nat)] := by
  unfold fr
  rw [Rat.num_divInt, Rat.den_divInt, if_neg h, Int.gcd_comm b a]
  have e : b.sign * a / ((Int.gcd a b : Nat) : Int) = if 0 < b then a / (Int.gcd a b : Nat) else -(a / (Int.gcd a b : Nat)) := by
    split
    · rename_i hb; rw [Int.sign_eq_one_of_pos hb, Int.one_mul]
    · rw [Int.sign_eq_neg_one_of_neg (by omega), Int.neg_one_mul, Int.neg_ediv_of_dvd (gcd_dvd_l a b)]
  rw [e]
theorem fdiv_dvd {a g : Int} (h : g ∣ a) : a.fdiv g = a / g := Int.fdiv_eq_ediv_of_dvd h
theorem gcd_small {a b : Int} {n : Nat} (hb : b.natAbs < 2 ^ n) (h : b ≠ 0) : Int.gcd a b < 2 ^ n := Nat.lt_of_le_of_lt (Nat.le_of_dvd (by omega) (Int.ofNat_dvd_left.mp (gcd_dvd_r a b))) hb
theorem Bt.divInt {a b : Int} {n : Nat} (ha : a.natAbs < 2 ^ n) (hb : b.natAbs < 2 ^ n) (h : b ≠ 0) : Bt n (Rat.divInt a b) := by
  have hg := gcd_pos a b h
  constructor
  · rw [Rat.num_divInt, Int.gcd_comm b a]
    refine Nat.lt_of_le_of_lt (m := a.natAbs) ?_ ha
    have : (b.sign * a / ((Int.gcd a b : Nat) : Int)).natAbs ≤ (b.sign * a).natAbs := Int.natAbs_ediv_le_natAbs ..
    rw [Int.natAbs_mul] at this
    have s : b.sign.natAbs = 1 := by rw [Int.natAbs_sign_of_ne_zero h]
    rw [s, Nat.one_mul] at this
    exact this
  · rw [Rat.den_divInt, if_neg h, Int.gcd_comm b a]
    exact Nat.lt_of_le_of_lt (Nat.div_le_self _ _) hb
theorem made_by_eq (a b : Int) (ha : a.natAbs < 2 ^ 9000) (hb : b.natAbs < 2 ^ 9000) (h : b ≠ 0) : L.made_by (.int a) (.int b) = pure (fr (Rat.divInt a b)) := by
  have hg := gcd_pos a b h
  have hs := gcd_small (a := a) hb h
  unfold L.made_by
  rw [divisor_eq a b ha hb, fr_divInt a b h]
  simp only [sub_pure, pure_bind', lt_int]
  by_cases hn : b < 0
  · have h2 : ¬ 0 < b := by omega
    simp only [decide_eq_true hn, cond_true, neg_int, pure_bind', flk_nx, if_neg h2]
    rw [fdiv_int (divOk_of (n := 9000) (by omega) (by simpa using hs) (by omega)), pure_bind', fdiv_int (divOk_of (n := 9000) (by omega) (by simpa using hs) (by omega))]
    simp only [pure_bind', tupK_2, fin_rt, frame_pure]
    rw [fdiv_dvd (Int.neg_dvd.mpr (gcd_dvd_l a b)), fdiv_dvd (Int.neg_dvd.mpr (gcd_dvd_r a b)), Int.ediv_neg, Int.ediv_neg]
    have e : -(b / ((Int.gcd a b : Nat) : Int)) = ((b.natAbs / Int.gcd a b : Nat) : Int) := by
      rw [← Int.neg_ediv_of_dvd (gcd_dvd_r a b), show -b = ((b.natAbs : Nat) : Int) by omega]
      rfl
    rw [e]
  · have h2 : 0 < b := by omega
    simp only [decide_eq_false hn, cond_false, pure_bind', flk_nx, if_pos h2]
    rw [fdiv_int (divOk_of (n := 9000) (by omega) (by simpa using hs) (by omega)), pure_bind', fdiv_int (divOk_of (n := 9000) (by omega) (by simpa using hs) (by omega))]
    simp only [pure_bind', tupK_2, fin_rt, frame_pure]
    rw [fdiv_dvd (gcd_dvd_l a b), fdiv_dvd (gcd_dvd_r a b)]
    have e : b / ((Int.gcd a b : Nat) : Int) = ((b.natAbs / Int.gcd a b : Nat) : Int) := by
      rw [show b = ((b.natAbs : Nat) : Int) by omega]
      rfl
    rw [e]
theorem low_eq (a b : Int) (ha : a.natAbs < 2 ^ 9000) (hb : b.natAbs < 2 ^ 9000) (h : b ≠ 0) : L.law_low (.int a) (.int b) = pure (fr (Rat.divInt a b)) := by
  have hg := gcd_pos a b h
  have hs := gcd_small (a := a) hb h
  unfold L.law_low
  rw [fr_divInt a b h]
  simp only [abs_int, pure_bind']
  rw [while_gcd (B := 9000) (k := 9000) (fun x y => by simp only [gt_int]) (fun x y hx hy h0 => ?_) a.natAbs b.natAbs fuel ha hb hb (by unfold fuel; omega)]
  · simp only [pure_bind', flk_nx, gt_int]
    have eg : ((a.natAbs.gcd b.natAbs : Nat) : Int) = ((Int.gcd a b : Nat) : Int) := rfl
    rw [eg]
    have d1 : divOk ((Int.gcd a b : Nat) : Int) = true := divOk_of (n := 9000) (by omega) (by simpa using hs) (by omega)
    have e2 : (b.natAbs : Int).fdiv ((Int.gcd a b : Nat) : Int) = ((b.natAbs / Int.gcd a b : Nat) : Int) := by rw [Int.fdiv_eq_ediv_of_nonneg _ (by omega)]; rfl
    by_cases hn : 0 < b
    · simp only [decide_eq_true hn, cond_true, if_pos hn]
      rw [fdiv_int d1, pure_bind', fdiv_int d1, pure_bind']
      simp only [tupK_2, pure_bind', fin_rt, frame_pure]
      rw [fdiv_dvd (gcd_dvd_l a b), e2]
    · simp only [decide_eq_false hn, cond_false, if_neg hn]
      rw [fdiv_int d1, pure_bind', sub_int, pure_bind', fdiv_int d1, pure_bind']
      simp only [tupK_2, pure_bind', fin_rt, frame_pure]
      rw [fdiv_dvd (gcd_dvd_l a b), e2, Int.zero_sub]
  · rw [mod_int (by omega), pure_bind', pure_bind', int_mod_nat]
/-! ### what is whole, what is a fraction -/
def isW : PyData → Bool
  | .int _ => true
  | _ => false
theorem is_whole_eq (d : PyData) : L.is_whole d = pure (.bool (isW d)) := by
  unfold L.is_whole
  cases d <;> simp [isO, isD, isW]
theorem law_whole_eq (d : PyData) : L.law_whole d = pure (.bool (isW d)) := is_whole_eq d
def isFr : PyData → Bool
  | .tuple [.int a, .int b] => decide (0 < b) && decide (Int.gcd a b = 1)
  | _ => false
/-- the numbers in a pair are not too great -/
def sm2 : PyData → Prop
  | .tuple [.int a, .int b] => a.natAbs < 2 ^ 9000 ∧ b.natAbs < 2 ^ 9000
  | _ => True
def lenOk : PyData → Prop
  | .tuple xs => xs.length ≤ 16777216
  | _ => True
theorem isFr_fr (q : Rat) : isFr (fr q) = true := by
  have h1 : (0 : Int) < (q.den : Int) := by have := q.den_pos; omega
  have h2 : Int.gcd q.num (q.den : Int) = 1 := q.reduced
  show (decide ((0 : Int) < (q.den : Int)) && decide (Int.gcd q.num q.den = 1)) = true
  rw [decide_eq_true h1, decide_eq_true h2]; rfl
theorem isFr_inv {d : PyData} (h : isFr d = true) : ∃ q : Rat, d = fr q := by
  unfold isFr at h
  split at h
  · rename_i a b
    simp only [Bool.and_eq_true, decide_eq_true_eq] at h
    refine ⟨⟨a, b.natAbs, by omega, ?_⟩, ?_⟩
    · have : Int.gcd a b = Nat.gcd a.natAbs b.natAbs := rfl
      unfold Nat.Coprime
      omega
    · unfold fr
      have : ((b.natAbs : Nat) : Int) = b := by omega
      simp only [this]
  · cases h
theorem isFr_short {xs : List PyData} (h : xs.length ≠ 2) : isFr (.tuple xs) = false := by
  rcases xs with _ | ⟨a, _ | ⟨b, _ | ⟨c, r⟩⟩⟩
  · rfl
  · cases a <;> rfl
  · simp at h
  · cases a <;> cases b <;> rfl
theorem isFr_bent {a b : PyData} (h : isW a = false ∨ isW b = false) : isFr (.tuple [a, b]) = false := by
  cases a <;> cases b <;> first | rfl | simp [isW] at h
/-- the two forms of the test -/
theorem fr_test (W : PyData → M PyData) (hW : ∀ d, W d = pure (.bool (isW d))) (d : PyData) (hl : lenOk d) (rest : M PyData) (hrest : ∀ a b, d = .tuple [.int a, .int b] → rest = pure (.bool (isFr d))) :
    V.frame 0 (fin ((tOr (tNot ((pure (isO .tuple d)) >>= toB)) (tOr ((lenM d) >>= fun x6 => (neM x6 (.int 2))) (tNot (((((pure d) >>= rowM) >>= fun xs2 => (comp pN yep (fun t1 => (sub [] (W t1))) xs2) >>= fun ys4 => pure (.list ys4)) >>= fun x5 => (allM x5)) >>= toB)))) >>= fun b7 => bif b7 then ((pure (.bool false)) >>= fun x8 => pure (.rt x8)) else (rest >>= fun x13 => pure (.rt x13)))) = pure (.bool (isFr d)) := by
  cases d with
  | tuple xs =>
    simp only [isO, isD, toB_bool, pure_bind', tNot_pure, Bool.not_true, tOr_pure, cond_false, len_tuple, ne_int, rowM_tuple]
    by_cases h2 : xs.length = 2
    · have : decide ((xs.length : Int) = 2) = true := decide_eq_true (by omega)
      simp only [this, Bool.not_true, cond_false]
      obtain ⟨a, b, rfl⟩ : ∃ a b, xs = [a, b] := by
        rcases xs with _ | ⟨a, _ | ⟨b, _ | ⟨c, r⟩⟩⟩ <;> simp at h2
        exact ⟨a, b, rfl⟩
      rw [comp_map (fun x => .bool (isW x)) (by simp) (fun x _ => ⟨x, rfl, by rw [hW]; rfl⟩)]
      have e : List.map (fun x => PyData.bool (isW x)) [a, b] = [isW a, isW b].map PyData.bool := rfl
      simp only [pure_bind', e, all_bools, toB_bool, tNot_pure]
      cases ha : isW a with
      | false => simp [isFr_bent (.inl ha)]
      | true =>
        cases hb : isW b with
        | false => simp [isFr_bent (.inr hb)]
        | true =>
          cases a <;> simp [isW] at ha
          cases b <;> simp [isW] at hb
          rename_i i j
          rw [hrest i j rfl]
          simp
    · have : decide ((xs.length : Int) = 2) = false := decide_eq_false (by omega)
      simp only [this, Bool.not_false, cond_true, pure_bind', fin_rt, frame_pure, isFr_short h2]
  | _ => simp [isO, isD, isFr]
theorem is_fraction_eq (d : PyData) (hl : lenOk d) (hs : sm2 d) : L.is_fraction d = pure (.bool (isFr d)) := by
  unfold L.is_fraction
  refine fr_test L.is_whole is_whole_eq d hl _ fun a b e => ?_
  subst e
  have h1 : ixM (.tuple [.int a, .int b]) (.int 1) = pure (.int b) := ix_tuple (by decide) rfl
  have h0 : ixM (.tuple [.int a, .int b]) (.int 0) = pure (.int a) := ix_tuple (by decide) rfl
  rw [h1, h0]
  simp only [pure_bind', gt_int, ofB_pure, andV_bool, divisor_eq a b hs.1 hs.2, sub_pure, eq_int]
  show (bif decide (0 < b) then _ else _) = (pure (PyData.bool (decide (0 < b) && decide (Int.gcd a b = 1))) : M PyData)
  have e : decide (((Int.gcd a b : Nat) : Int) = 1) = decide (Int.gcd a b = 1) := by simp only [decide_eq_decide]; omega
  rw [e]
  cases decide (0 < b) <;> rfl
theorem fr_eqv (a b c d : Int) : PyData.eqv (.tuple [.int a, .int b]) (.tuple [.int c, .int d]) = (decide (a = c) && decide (b = d)) := by
  simp only [PyData.eqv, PyData.eqvAll, Bool.and_true]
  rfl
theorem eq_pair (a b c d : Int) : eqM (.tuple [.int a, .int b]) (.tuple [.int c, .int d]) = pure (decide (a = c) && decide (b = d)) := by
  show ofO (if SeqAt.shaped (.tuple [.int a, .int b]) && SeqAt.shaped (.tuple [.int c, .int d]) then some (PyData.eqv (.tuple [.int a, .int b]) (.tuple [.int c, .int d])) else none) = _
  rw [if_pos (by rfl), fr_eqv]; rfl
theorem law_is_fraction_eq (d : PyData) (hl : lenOk d) (hs : sm2 d) : L.law_is_fraction d = pure (.bool (isFr d)) := by
  unfold L.law_is_fraction
  refine fr_test L.law_whole law_whole_eq d hl _ fun a b e => ?_
  subst e
  have h1 : ixM (.tuple [.int a, .int b]) (.int 1) = pure (.int b) := ix_tuple (by decide) rfl
  have h0 : ixM (.tuple [.int a, .int b]) (.int 0) = pure (.int a) := ix_tuple (by decide) rfl
  rw [h1, h0]
  simp only [pure_bind', gt_int, ofB_pure, andV_bool]
  show (bif decide (0 < b) then _ else _) = (pure (PyData.bool (decide (0 < b) && decide (Int.gcd a b = 1))) : M PyData)
  by_cases hb : 0 < b
  · rw [decide_eq_true hb, cond_true, Bool.true_and, low_eq a b hs.1 hs.2 (by omega), fr_divInt a b (by omega)]
    simp only [sub_pure, pure_bind', eq_pair, ofB_pure, if_pos hb]
    have hg := gcd_pos a b (by omega)
    have e : (decide (a / ((Int.gcd a b : Nat) : Int) = a) && decide (((b.natAbs / Int.gcd a b : Nat) : Int) = b)) = decide (Int.gcd a b = 1) := by
      by_cases h1 : Int.gcd a b = 1
      · rw [h1]
        simp
        omega
      · rw [decide_eq_false h1, Bool.and_eq_false_iff]
        right
        refine decide_eq_false fun h => h1 ?_
        have h2 : b.natAbs / Int.gcd a b = b.natAbs := by omega
        have h3 : 2 ≤ Int.gcd a b := by omega
        have := Nat.div_lt_self (n := b.natAbs) (by omega) (show 1 < Int.gcd a b by omega)
        omega
    rw [e]
  · rw [decide_eq_false hb]; rfl
end V

set_option exponentiation.threshold 20000
namespace V
open PySem PySem.Spec ZL L2
/-! ### the draws -/
theorem getC_run (xs : List PyData) (r : Cells) : getC 0 (cS xs :: r) = .ok xs (cS xs :: r) := rfl
theorem ix_at {xs : List PyData} (i : Nat) {d : PyData} (e : xs[i]? = some d) : ixM (.list xs) (.int (i : Int)) = pure d := ix_list (by omega) (by simpa using e)
theorem putC_run {xs : List PyData} {i : Nat} {v : PyData} {r : Cells} (h : i < xs.length) : putC 0 (.int (i : Int)) v (cS xs :: r) = .ok () (cS (xs.set i v) :: r) := by
  unfold putC
  show (match ixN xs.length (i : Int) with | some n => Res.ok () ((cS xs :: r).set 0 (some (.lst (xs.set n v)))) | none => .bad) = _
  rw [show ixN xs.length (i : Int) = some i by unfold ixN; rw [if_pos (by omega), if_pos (by omega)]; simp]
  rfl
theorem bindR {α β : Type} {m : M α} {k : α → M β} {s s1 : Cells} {a : α} {r : Res β} (h : m s = .ok a s1) (h2 : k a s1 = r) : (m >>= k) s = r := by rw [bind_ok h]; exact h2
theorem choice_gen (n : Int) (h : 0 < n) (hn : n < 2 ^ 100) : Gen1 (L.law_choice (.int n)) fun d => ∃ r : Int, d = .int r ∧ 0 ≤ r ∧ r < n := by
  rintro st ⟨a, b, c, rfl, hb, hb2⟩
  have dn : divOk n = true := divOk_of (n := 100) (by omega) (by omega) (by omega)
  unfold L.law_choice
  have i0 : ∀ x y z : PyData, ixM (.list [x, y, z]) (.int 0) = pure x := fun x y z => ix_at (xs := [x, y, z]) 0 rfl
  have i1 : ∀ x y z : PyData, ixM (.list [x, y, z]) (.int 1) = pure y := fun x y z => ix_at (xs := [x, y, z]) 1 rfl
  have i2 : ∀ x y z : PyData, ixM (.list [x, y, z]) (.int 2) = pure z := fun x y z => ix_at (xs := [x, y, z]) 2 rfl
  have p0 : ∀ (x y z v : PyData) (r : Cells), putC 0 (.int 0) v (cS [x, y, z] :: r) = .ok () (cS [v, y, z] :: r) := fun x y z v r => putC_run (xs := [x, y, z]) (i := 0) (by simp)
  have p1 : ∀ (x y z v : PyData) (r : Cells), putC 0 (.int 1) v (cS [x, y, z] :: r) = .ok () (cS [x, v, z] :: r) := fun x y z v r => putC_run (xs := [x, y, z]) (i := 1) (by simp)
  have p2 : ∀ (x y z v : PyData) (r : Cells), putC 0 (.int 2) v (cS [x, y, z] :: r) = .ok () (cS [x, y, v] :: r) := fun x y z v r => putC_run (xs := [x, y, z]) (i := 2) (by simp)
  simp only [fin_bind, bind_assoc', fin_cond, pure_bind', fin_rt]
  by_cases ha : 0 < a
  · refine ⟨.int (a % n), [.int (a.fdiv n), .int b, .int c], ⟨_, _, _, rfl, hb, hb2⟩, ⟨_, rfl, Int.emod_nonneg _ (by omega), Int.emod_lt_of_pos _ h⟩, ?_⟩
    refine (frame_run (s := [cS _]) (nl := 0) (s' := [cS [.int (a.fdiv n), .int b, .int c]]) ?_).trans rfl
    refine bindR (getC_run _ _) ?_
    simp only [i0, pure_bind', gt_int, decide_eq_true ha, cond_true]
    refine bindR (getC_run _ _) ?_
    simp only [i0, pure_bind', mod_int h]
    refine bindR (getC_run _ _) ?_
    simp only [i0, pure_bind', fdiv_int dn]
    exact bindR (p0 ..) rfl
  · have hm : ∀ x : Int, 0 ≤ x % 2147483647 ∧ x % 2147483647 < 2 ^ 31 := fun x => by omega
    have hv : ∀ x : Int, 0 ≤ x % 2147483629 ∧ x % 2147483629 < 2 ^ 31 := fun x => by omega
    obtain ⟨b', eb⟩ : ∃ b', b' = (b * 48271 + 29 + (c + 1)) % 2147483647 := ⟨_, rfl⟩
    obtain ⟨v, ev⟩ : ∃ v, v = (b' * b' + 39373 * b' + 7) % 2147483629 := ⟨_, rfl⟩
    obtain ⟨u, eu⟩ : ∃ u, u = ((v * v + 50021 * v) % 2147483587).fdiv 8 := ⟨_, rfl⟩
    have hb' := hm (b * 48271 + 29 + (c + 1))
    rw [← eb] at hb'
    have hv' := hv (b' * b' + 39373 * b' + 7)
    rw [← ev] at hv'
    refine ⟨.int (u % n), [.int a, .int b', .int (c + 1)], ⟨_, _, _, rfl, hb'.1, hb'.2⟩, ⟨_, rfl, Int.emod_nonneg _ (by omega), Int.emod_lt_of_pos _ h⟩, ?_⟩
    refine (frame_run (s := [cS _]) (nl := 0) (s' := [cS [.int a, .int b', .int (c + 1)]]) ?_).trans rfl
    refine bindR (getC_run _ _) ?_
    simp only [i0, pure_bind', gt_int, decide_eq_false ha, cond_false]
    refine bindR (getC_run _ _) ?_
    simp only [i2, pure_bind', add_int]
    refine bindR (p2 ..) ?_
    refine bindR (getC_run _ _) ?_
    simp only [i1, pure_bind']
    rw [mul_int (mulOk_of (a := 31) (b := 31) (by omega) (by omega) (by omega))]
    simp only [pure_bind', add_int]
    refine bindR (getC_run _ _) ?_
    simp only [i2, pure_bind', add_int]
    rw [mod_int (by omega)]
    simp only [pure_bind', ← eb]
    refine bindR (p1 ..) ?_
    refine bindR (getC_run _ _) ?_
    simp only [i1, pure_bind']
    refine bindR (getC_run _ _) ?_
    simp only [i1, pure_bind']
    rw [mul_int (mulOk_of (a := 31) (b := 31) (by omega) (by omega) (by omega))]
    simp only [pure_bind']
    refine bindR (getC_run _ _) ?_
    simp only [i1, pure_bind']
    rw [mul_int (mulOk_of (a := 31) (b := 31) (by omega) (by omega) (by omega))]
    simp only [pure_bind', add_int]
    rw [mod_int (by omega)]
    simp only [pure_bind', ← ev]
    rw [mul_int (mulOk_of (a := 31) (b := 31) (by omega) (by omega) (by omega)), mul_int (mulOk_of (a := 31) (b := 31) (by omega) (by omega) (by omega))]
    simp only [pure_bind', add_int]
    rw [mod_int (by omega)]
    simp only [pure_bind']
    rw [fdiv_int (by decide)]
    simp only [pure_bind', ← eu]
    rw [mod_int h]
    rfl
/-- a draw among n, in a caller -/
theorem choice {n : Int} (h : 0 < n) (hn : n < 2 ^ 100) : Gen (V.sub [0] (L.law_choice (.int n))) fun d => ∃ r : Int, d = .int r ∧ 0 ≤ r ∧ r < n := (choice_gen n h hn).sub
theorem cell_at_eq (ns : List Int) (k : Int) (hk : 0 ≤ k) : L.law_cell_at (.list (ns.map .int)) (.int k) = pure (.int (ns.getD k.toNat 0)) := by
  unfold L.law_cell_at
  simp only [unl, len_list, pure_bind', lt_int, List.length_map]
  by_cases h : k < (ns.length : Int)
  · rw [decide_eq_true h, cond_true, ix_list (d := .int (ns.getD k.toNat 0)) hk]
    · simp
    · rw [List.getElem?_map, List.getD_eq_getElem?_getD, List.getElem?_eq_getElem (by omega)]; rfl
  · rw [decide_eq_false h, cond_false, List.getD_eq_getElem?_getD, List.getElem?_eq_none (by omega)]; simp
theorem state_eq (ns : List Int) (k : Int) (hk : 0 ≤ k) : ∃ st, GoodSt st ∧ L.law_state (.list (ns.map .int)) (.int k) = pure (.list st) := by
  unfold L.law_state
  have e := cell_at_eq ns k hk
  generalize ns.getD k.toNat 0 = x at e
  refine ⟨[.int (max 0 (x - 10 ^ 18)), .int (x % 2147483629 + 1), .int 0], ⟨_, _, _, rfl, by omega, by omega⟩, ?_⟩
  simp only [unl, e, sub_pure, pure_bind']
  rw [pow_int (by decide)]
  simp only [pure_bind', sub_int, max_int]
  rw [mod_int (by omega)]
  simp only [pure_bind', add_int]
  rw [show lstN [Vl.d (PyData.int (max 0 (x - 10 ^ Int.toNat 18))), Vl.d (PyData.int (x % 2147483629 + 1)), Vl.d (PyData.int 0)] = pure [PyData.int (max 0 (x - 10 ^ Int.toNat 18)), PyData.int (x % 2147483629 + 1), PyData.int 0] from lstN_of [_, _, _] (by simp)]
  simp
/-! ### texts of things -/
mutual
def sz : PyData → Nat
  | .none => 4
  | .bool _ => 5
  | .int _ => 1921
  | .str x => (reprText x).length
  | .list xs => szA xs + 2
  | .tuple xs => szA xs + 3
  | .dict kvs => szK kvs + 2
def szA : List PyData → Nat
  | [] => 0
  | x :: xs => sz x + 2 + szA xs
def szK : List (PyData × PyData) → Nat
  | [] => 0
  | (k, v) :: r => sz k + sz v + 4 + szK r
end
theorem join_le (ts : List Str) : (Str.join ", " ts).length ≤ piled ts := by
  by_cases h : ts = []
  · subst h; exact Nat.zero_le _
  · have := join_length_add ts h; omega
theorem int_text (z : Int) (h : z.natAbs.log2 < 1920) : (Str.ofString (toString z)).length ≤ 1921 := by
  have := int_text_length_le (k := 1920) (by decide) h
  rw [ofString_length]; omega
mutual
theorem shown_sz : ∀ d : PyData, d.showable = true → d.shown.length ≤ sz d
  | .none, _ => by simp only [PyData.shown, sz]; decide
  | .bool b, _ => by cases b <;> simp only [PyData.shown, sz] <;> decide
  | .int i, h => by
    simp only [PyData.shown, sz]
    exact int_text i (by simpa [PyData.showable] using h)
  | .str x, _ => by simp only [PyData.shown, sz]; exact Nat.le_refl _
  | .list xs, h => by
    have ih := shownAll_sz xs (by simpa [PyData.showable] using h)
    simp only [PyData.shown, sz]
    rw [listText_eq_join, strLen_append, strLen_append]
    have := join_le (PyData.shownAll xs)
    have e1 : ((("[" : String) : Str)).length = 1 := rfl
    have e2 : ((("]" : String) : Str)).length = 1 := rfl
    omega
  | .tuple xs, h => by
    have ih := shownAll_sz xs (by simpa [PyData.showable] using h)
    simp only [PyData.shown, sz]
    unfold tupleText
    rw [strLen_append, strLen_append]
    have := join_le (PyData.shownAll xs)
    have e1 : ((("(" : String) : Str)).length = 1 := rfl
    have e3 : (((if (PyData.shownAll xs).length == 1 then ",)" else ")" : String) : Str)).length ≤ 2 := by split <;> decide
    omega
  | .dict kvs, h => by
    have ih := shownKv_sz kvs (by simpa [PyData.showable] using h)
    simp only [PyData.shown, sz]
    unfold dictText
    rw [strLen_append, strLen_append]
    have := join_le (PyData.shownKv kvs)
    have e1 : ((("{" : String) : Str)).length = 1 := rfl
    have e2 : ((("}" : String) : Str)).length = 1 := rfl
    omega
theorem shownAll_sz : ∀ xs : List PyData, PyData.showableAll xs = true → piled (PyData.shownAll xs) ≤ szA xs
  | [], _ => by simp [PyData.shownAll, szA, piled]
  | x :: xs, h => by
    simp only [PyData.showableAll, Bool.and_eq_true] at h
    have h1 := shown_sz x h.1
    have h2 := shownAll_sz xs h.2
    simp only [PyData.shownAll, szA, piled_cons]
    omega
theorem shownKv_sz : ∀ xs : List (PyData × PyData), PyData.showableKv xs = true → piled (PyData.shownKv xs) ≤ szK xs
  | [], _ => by simp [PyData.shownKv, szK, piled]
  | (k, v) :: xs, h => by
    simp only [PyData.showableKv, Bool.and_eq_true] at h
    have h1 := shown_sz k h.1.1
    have h2 := shown_sz v h.1.2
    have h3 := shownKv_sz xs h.2
    simp only [PyData.shownKv, szK, piled_cons]
    rw [strLen_append, strLen_append]
    have e1 : (((": " : String) : Str)).length = 2 := rfl
    omega
end
/-- a thing whose text is not too long: n deep, m signs -/
structure Rp (n m : Nat) (d : PyData) : Prop where
  s : d.showable = true
  h : d.hasDict = false
  dp : d.depth ≤ n
  z : sz d ≤ m
theorem Rp.mono {n m n' m' : Nat} {d : PyData} (r : Rp n m d) (h1 : n ≤ n') (h2 : m ≤ m') : Rp n' m' d := ⟨r.s, r.h, Nat.le_trans r.dp h1, Nat.le_trans r.z h2⟩
theorem Rp.ok {n m : Nat} {d : PyData} (r : Rp n m d) (hn : n ≤ 100) (hm : m ≤ 16777216) : reprOk d = true := by
  unfold reprOk
  simp only [Bool.and_eq_true, decide_eq_true_eq, Bool.or_eq_true, Bool.not_eq_true']
  exact ⟨⟨⟨r.s, Nat.le_trans r.dp hn⟩, .inl r.h⟩, Nat.le_trans (shown_sz d r.s) (Nat.le_trans r.z hm)⟩
theorem rp_int {z : Int} (h : z.natAbs < 2 ^ 1920) : Rp 1 1921 (.int z) := by
  refine ⟨?_, rfl, by simp [PyData.depth], by simp [sz]⟩
  simp only [PyData.showable, decide_eq_true_eq]
  by_cases e : z.natAbs = 0
  · rw [e]; decide
  · exact (Nat.log2_lt e).mpr h
theorem rp_all {n m : Nat} : ∀ {xs : List PyData}, (∀ x ∈ xs, Rp n m x) → PyData.showableAll xs = true ∧ PyData.hasDictAll xs = false ∧ PyData.depthAll xs ≤ n ∧ szA xs ≤ xs.length * (m + 2)
  | [], _ => by simp [PyData.showableAll, PyData.hasDictAll, PyData.depthAll, szA]
  | x :: xs, h => by
    obtain ⟨h1, h2, h3, h4⟩ := rp_all (xs := xs) fun y hy => h y (by simp [hy])
    have r := h x (by simp)
    refine ⟨by simp [PyData.showableAll, r.s, h1], by simp [PyData.hasDictAll, r.h, h2], ?_, ?_⟩
    · have := r.dp
      simp only [PyData.depthAll]; omega
    · have := r.z
      simp only [szA, List.length_cons, Nat.succ_mul]; omega
theorem rp_tuple {n m l : Nat} {xs : List PyData} (h : ∀ x ∈ xs, Rp n m x) (hl : xs.length ≤ l) : Rp (n + 1) (l * (m + 2) + 3) (.tuple xs) := by
  obtain ⟨h1, h2, h3, h4⟩ := rp_all h
  have := Nat.mul_le_mul_right (m + 2) hl
  exact ⟨by simp [PyData.showable, h1], by simp [PyData.hasDict, h2], by simp only [PyData.depth]; omega, by simp only [sz]; omega⟩
theorem rp_list {n m l : Nat} {xs : List PyData} (h : ∀ x ∈ xs, Rp n m x) (hl : xs.length ≤ l) : Rp (n + 1) (l * (m + 2) + 3) (.list xs) := by
  obtain ⟨h1, h2, h3, h4⟩ := rp_all h
  have := Nat.mul_le_mul_right (m + 2) hl
  exact ⟨by simp [PyData.showable, h1], by simp [PyData.hasDict, h2], by simp only [PyData.depth]; omega, by simp only [sz]; omega⟩
theorem rp_fr {q : Rat} {n : Nat} (h : Bt n q) (hn : n ≤ 1920) : Rp 2 3849 (fr q) := by
  have hp : (2 : Nat) ^ n ≤ 2 ^ 1920 := Nat.pow_le_pow_right (by decide) hn
  refine rp_tuple (n := 1) (m := 1921) (l := 2) (fun x hx => ?_) (by simp)
  simp only [List.mem_cons, List.not_mem_nil, or_false] at hx
  rcases hx with rfl | rfl
  · exact rp_int (Nat.lt_of_lt_of_le h.1 hp)
  · exact rp_int (by have := h.2; simp only [Int.natAbs_natCast]; omega)
theorem repr_eq {d : PyData} (h : reprOk d = true) : reprM d = pure (PyData.str d.shown) := by
  show ofO (if reprOk d then some (PyData.str d.shown) else none) = _
  rw [if_pos h]; rfl
theorem eq_str (x y : Str) : eqM (.str x) (.str y) = pure (decide (x = y)) := rfl
theorem ne_str (x y : Str) : neM (.str x) (.str y) = pure (!decide (x = y)) := rfl
theorem same_eq {d : PyData} (h : reprOk d = true) : L.law_same d d = pure (.bool true) := by
  unfold L.law_same
  simp only [repr_eq h, pure_bind', eq_str, decide_true, ofB_pure, fin_rt, frame_pure]
end V

set_option exponentiation.threshold 20000
namespace V
open PySem PySem.Spec ZL L2
@[simp] theorem lstK_0 : lstK [] = pure (.list []) := lstK_of [] (by simp)
@[simp] theorem lstN_0 : lstN [] = pure [] := lstN_of [] (by simp)
@[simp] theorem lstK_1 (a0 : PyData) : lstK [.d a0] = pure (.list [a0]) := lstK_of [a0] (by simp)
@[simp] theorem lstN_1 (a0 : PyData) : lstN [.d a0] = pure [a0] := lstN_of [a0] (by simp)
@[simp] theorem lstK_2 (a0 a1 : PyData) : lstK [.d a0, .d a1] = pure (.list [a0, a1]) := lstK_of [a0, a1] (by simp)
@[simp] theorem lstN_2 (a0 a1 : PyData) : lstN [.d a0, .d a1] = pure [a0, a1] := lstN_of [a0, a1] (by simp)
@[simp] theorem lstK_3 (a0 a1 a2 : PyData) : lstK [.d a0, .d a1, .d a2] = pure (.list [a0, a1, a2]) := lstK_of [a0, a1, a2] (by simp)
@[simp] theorem lstN_3 (a0 a1 a2 : PyData) : lstN [.d a0, .d a1, .d a2] = pure [a0, a1, a2] := lstN_of [a0, a1, a2] (by simp)
@[simp] theorem lstK_4 (a0 a1 a2 a3 : PyData) : lstK [.d a0, .d a1, .d a2, .d a3] = pure (.list [a0, a1, a2, a3]) := lstK_of [a0, a1, a2, a3] (by simp)
@[simp] theorem lstN_4 (a0 a1 a2 a3 : PyData) : lstN [.d a0, .d a1, .d a2, .d a3] = pure [a0, a1, a2, a3] := lstN_of [a0, a1, a2, a3] (by simp)
@[simp] theorem lstK_5 (a0 a1 a2 a3 a4 : PyData) : lstK [.d a0, .d a1, .d a2, .d a3, .d a4] = pure (.list [a0, a1, a2, a3, a4]) := lstK_of [a0, a1, a2, a3, a4] (by simp)
@[simp] theorem lstN_5 (a0 a1 a2 a3 a4 : PyData) : lstN [.d a0, .d a1, .d a2, .d a3, .d a4] = pure [a0, a1, a2, a3, a4] := lstN_of [a0, a1, a2, a3, a4] (by simp)
@[simp] theorem lstK_6 (a0 a1 a2 a3 a4 a5 : PyData) : lstK [.d a0, .d a1, .d a2, .d a3, .d a4, .d a5] = pure (.list [a0, a1, a2, a3, a4, a5]) := lstK_of [a0, a1, a2, a3, a4, a5] (by simp)
@[simp] theorem lstN_6 (a0 a1 a2 a3 a4 a5 : PyData) : lstN [.d a0, .d a1, .d a2, .d a3, .d a4, .d a5] = pure [a0, a1, a2, a3, a4, a5] := lstN_of [a0, a1, a2, a3, a4, a5] (by simp)
@[simp] theorem lstK_7 (a0 a1 a2 a3 a4 a5 a6 : PyData) : lstK [.d a0, .d a1, .d a2, .d a3, .d a4, .d a5, .d a6] = pure (.list [a0, a1, a2, a3, a4, a5, a6]) := lstK_of [a0, a1, a2, a3, a4, a5, a6] (by simp)
@[simp] theorem lstN_7 (a0 a1 a2 a3 a4 a5 a6 : PyData) : lstN [.d a0, .d a1, .d a2, .d a3, .d a4, .d a5, .d a6] = pure [a0, a1, a2, a3, a4, a5, a6] := lstN_of [a0, a1, a2, a3, a4, a5, a6] (by simp)
@[simp] theorem lstK_8 (a0 a1 a2 a3 a4 a5 a6 a7 : PyData) : lstK [.d a0, .d a1, .d a2, .d a3, .d a4, .d a5, .d a6, .d a7] = pure (.list [a0, a1, a2, a3, a4, a5, a6, a7]) := lstK_of [a0, a1, a2, a3, a4, a5, a6, a7] (by simp)
@[simp] theorem lstN_8 (a0 a1 a2 a3 a4 a5 a6 a7 : PyData) : lstN [.d a0, .d a1, .d a2, .d a3, .d a4, .d a5, .d a6, .d a7] = pure [a0, a1, a2, a3, a4, a5, a6, a7] := lstN_of [a0, a1, a2, a3, a4, a5, a6, a7] (by simp)
@[simp] theorem lstK_9 (a0 a1 a2 a3 a4 a5 a6 a7 a8 : PyData) : lstK [.d a0, .d a1, .d a2, .d a3, .d a4, .d a5, .d a6, .d a7, .d a8] = pure (.list [a0, a1, a2, a3, a4, a5, a6, a7, a8]) := lstK_of [a0, a1, a2, a3, a4, a5, a6, a7, a8] (by simp)
@[simp] theorem lstN_9 (a0 a1 a2 a3 a4 a5 a6 a7 a8 : PyData) : lstN [.d a0, .d a1, .d a2, .d a3, .d a4, .d a5, .d a6, .d a7, .d a8] = pure [a0, a1, a2, a3, a4, a5, a6, a7, a8] := lstN_of [a0, a1, a2, a3, a4, a5, a6, a7, a8] (by simp)
@[simp] theorem lstK_10 (a0 a1 a2 a3 a4 a5 a6 a7 a8 a9 : PyData) : lstK [.d a0, .d a1, .d a2, .d a3, .d a4, .d a5, .d a6, .d a7, .d a8, .d a9] = pure (.list [a0, a1, a2, a3, a4, a5, a6, a7, a8, a9]) := lstK_of [a0, a1, a2, a3, a4, a5, a6, a7, a8, a9] (by simp)
@[simp] theorem lstN_10 (a0 a1 a2 a3 a4 a5 a6 a7 a8 a9 : PyData) : lstN [.d a0, .d a1, .d a2, .d a3, .d a4, .d a5, .d a6, .d a7, .d a8, .d a9] = pure [a0, a1, a2, a3, a4, a5, a6, a7, a8, a9] := lstN_of [a0, a1, a2, a3, a4, a5, a6, a7, a8, a9] (by simp)
@[simp] theorem lstK_11 (a0 a1 a2 a3 a4 a5 a6 a7 a8 a9 a10 : PyData) : lstK [.d a0, .d a1, .d a2, .d a3, .d a4, .d a5, .d a6, .d a7, .d a8, .d a9, .d a10] = pure (.list [a0, a1, a2, a3, a4, a5, a6, a7, a8, a9, a10]) := lstK_of [a0, a1, a2, a3, a4, a5, a6, a7, a8, a9, a10] (by simp)
@[simp] theorem lstN_11 (a0 a1 a2 a3 a4 a5 a6 a7 a8 a9 a10 : PyData) : lstN [.d a0, .d a1, .d a2, .d a3, .d a4, .d a5, .d a6, .d a7, .d a8, .d a9, .d a10] = pure [a0, a1, a2, a3, a4, a5, a6, a7, a8, a9, a10] := lstN_of [a0, a1, a2, a3, a4, a5, a6, a7, a8, a9, a10] (by simp)
@[simp] theorem lstK_12 (a0 a1 a2 a3 a4 a5 a6 a7 a8 a9 a10 a11 : PyData) : lstK [.d a0, .d a1, .d a2, .d a3, .d a4, .d a5, .d a6, .d a7, .d a8, .d a9, .d a10, .d a11] = pure (.list [a0, a1, a2, a3, a4, a5, a6, a7, a8, a9, a10, a11]) := lstK_of [a0, a1, a2, a3, a4, a5, a6, a7, a8, a9, a10, a11] (by simp)
@[simp] theorem lstN_12 (a0 a1 a2 a3 a4 a5 a6 a7 a8 a9 a10 a11 : PyData) : lstN [.d a0, .d a1, .d a2, .d a3, .d a4, .d a5, .d a6, .d a7, .d a8, .d a9, .d a10, .d a11] = pure [a0, a1, a2, a3, a4, a5, a6, a7, a8, a9, a10, a11] := lstN_of [a0, a1, a2, a3, a4, a5, a6, a7, a8, a9, a10, a11] (by simp)
@[simp] theorem lstK_13 (a0 a1 a2 a3 a4 a5 a6 a7 a8 a9 a10 a11 a12 : PyData) : lstK [.d a0, .d a1, .d a2, .d a3, .d a4, .d a5, .d a6, .d a7, .d a8, .d a9, .d a10, .d a11, .d a12] = pure (.list [a0, a1, a2, a3, a4, a5, a6, a7, a8, a9, a10, a11, a12]) := lstK_of [a0, a1, a2, a3, a4, a5, a6, a7, a8, a9, a10, a11, a12] (by simp)
@[simp] theorem lstN_13 (a0 a1 a2 a3 a4 a5 a6 a7 a8 a9 a10 a11 a12 : PyData) : lstN [.d a0, .d a1, .d a2, .d a3, .d a4, .d a5, .d a6, .d a7, .d a8, .d a9, .d a10, .d a11, .d a12] = pure [a0, a1, a2, a3, a4, a5, a6, a7, a8, a9, a10, a11, a12] := lstN_of [a0, a1, a2, a3, a4, a5, a6, a7, a8, a9, a10, a11, a12] (by simp)
@[simp] theorem lstK_14 (a0 a1 a2 a3 a4 a5 a6 a7 a8 a9 a10 a11 a12 a13 : PyData) : lstK [.d a0, .d a1, .d a2, .d a3, .d a4, .d a5, .d a6, .d a7, .d a8, .d a9, .d a10, .d a11, .d a12, .d a13] = pure (.list [a0, a1, a2, a3, a4, a5, a6, a7, a8, a9, a10, a11, a12, a13]) := lstK_of [a0, a1, a2, a3, a4, a5, a6, a7, a8, a9, a10, a11, a12, a13] (by simp)
@[simp] theorem lstN_14 (a0 a1 a2 a3 a4 a5 a6 a7 a8 a9 a10 a11 a12 a13 : PyData) : lstN [.d a0, .d a1, .d a2, .d a3, .d a4, .d a5, .d a6, .d a7, .d a8, .d a9, .d a10, .d a11, .d a12, .d a13] = pure [a0, a1, a2, a3, a4, a5, a6, a7, a8, a9, a10, a11, a12, a13] := lstN_of [a0, a1, a2, a3, a4, a5, a6, a7, a8, a9, a10, a11, a12, a13] (by simp)
@[simp] theorem lstK_15 (a0 a1 a2 a3 a4 a5 a6 a7 a8 a9 a10 a11 a12 a13 a14 : PyData) : lstK [.d a0, .d a1, .d a2, .d a3, .d a4, .d a5, .d a6, .d a7, .d a8, .d a9, .d a10, .d a11, .d a12, .d a13, .d a14] = pure (.list [a0, a1, a2, a3, a4, a5, a6, a7, a8, a9, a10, a11, a12, a13, a14]) := lstK_of [a0, a1, a2, a3, a4, a5, a6, a7, a8, a9, a10, a11, a12, a13, a14] (by simp)
@[simp] theorem lstN_15 (a0 a1 a2 a3 a4 a5 a6 a7 a8 a9 a10 a11 a12 a13 a14 : PyData) : lstN [.d a0, .d a1, .d a2, .d a3, .d a4, .d a5, .d a6, .d a7, .d a8, .d a9, .d a10, .d a11, .d a12, .d a13, .d a14] = pure [a0, a1, a2, a3, a4, a5, a6, a7, a8, a9, a10, a11, a12, a13, a14] := lstN_of [a0, a1, a2, a3, a4, a5, a6, a7, a8, a9, a10, a11, a12, a13, a14] (by simp)
@[simp] theorem lstK_16 (a0 a1 a2 a3 a4 a5 a6 a7 a8 a9 a10 a11 a12 a13 a14 a15 : PyData) : lstK [.d a0, .d a1, .d a2, .d a3, .d a4, .d a5, .d a6, .d a7, .d a8, .d a9, .d a10, .d a11, .d a12, .d a13, .d a14, .d a15] = pure (.list [a0, a1, a2, a3, a4, a5, a6, a7, a8, a9, a10, a11, a12, a13, a14, a15]) := lstK_of [a0, a1, a2, a3, a4, a5, a6, a7, a8, a9, a10, a11, a12, a13, a14, a15] (by simp)
@[simp] theorem lstN_16 (a0 a1 a2 a3 a4 a5 a6 a7 a8 a9 a10 a11 a12 a13 a14 a15 : PyData) : lstN [.d a0, .d a1, .d a2, .d a3, .d a4, .d a5, .d a6, .d a7, .d a8, .d a9, .d a10, .d a11, .d a12, .d a13, .d a14, .d a15] = pure [a0, a1, a2, a3, a4, a5, a6, a7, a8, a9, a10, a11, a12, a13, a14, a15] := lstN_of [a0, a1, a2, a3, a4, a5, a6, a7, a8, a9, a10, a11, a12, a13, a14, a15] (by simp)
@[simp] theorem lstK_17 (a0 a1 a2 a3 a4 a5 a6 a7 a8 a9 a10 a11 a12 a13 a14 a15 a16 : PyData) : lstK [.d a0, .d a1, .d a2, .d a3, .d a4, .d a5, .d a6, .d a7, .d a8, .d a9, .d a10, .d a11, .d a12, .d a13, .d a14, .d a15, .d a16] = pure (.list [a0, a1, a2, a3, a4, a5, a6, a7, a8, a9, a10, a11, a12, a13, a14, a15, a16]) := lstK_of [a0, a1, a2, a3, a4, a5, a6, a7, a8, a9, a10, a11, a12, a13, a14, a15, a16] (by simp)
@[simp] theorem lstN_17 (a0 a1 a2 a3 a4 a5 a6 a7 a8 a9 a10 a11 a12 a13 a14 a15 a16 : PyData) : lstN [.d a0, .d a1, .d a2, .d a3, .d a4, .d a5, .d a6, .d a7, .d a8, .d a9, .d a10, .d a11, .d a12, .d a13, .d a14, .d a15, .d a16] = pure [a0, a1, a2, a3, a4, a5, a6, a7, a8, a9, a10, a11, a12, a13, a14, a15, a16] := lstN_of [a0, a1, a2, a3, a4, a5, a6, a7, a8, a9, a10, a11, a12, a13, a14, a15, a16] (by simp)
@[simp] theorem lstK_18 (a0 a1 a2 a3 a4 a5 a6 a7 a8 a9 a10 a11 a12 a13 a14 a15 a16 a17 : PyData) : lstK [.d a0, .d a1, .d a2, .d a3, .d a4, .d a5, .d a6, .d a7, .d a8, .d a9, .d a10, .d a11, .d a12, .d a13, .d a14, .d a15, .d a16, .d a17] = pure (.list [a0, a1, a2, a3, a4, a5, a6, a7, a8, a9, a10, a11, a12, a13, a14, a15, a16, a17]) := lstK_of [a0, a1, a2, a3, a4, a5, a6, a7, a8, a9, a10, a11, a12, a13, a14, a15, a16, a17] (by simp)
@[simp] theorem lstN_18 (a0 a1 a2 a3 a4 a5 a6 a7 a8 a9 a10 a11 a12 a13 a14 a15 a16 a17 : PyData) : lstN [.d a0, .d a1, .d a2, .d a3, .d a4, .d a5, .d a6, .d a7, .d a8, .d a9, .d a10, .d a11, .d a12, .d a13, .d a14, .d a15, .d a16, .d a17] = pure [a0, a1, a2, a3, a4, a5, a6, a7, a8, a9, a10, a11, a12, a13, a14, a15, a16, a17] := lstN_of [a0, a1, a2, a3, a4, a5, a6, a7, a8, a9, a10, a11, a12, a13, a14, a15, a16, a17] (by simp)
@[simp] theorem lstK_19 (a0 a1 a2 a3 a4 a5 a6 a7 a8 a9 a10 a11 a12 a13 a14 a15 a16 a17 a18 : PyData) : lstK [.d a0, .d a1, .d a2, .d a3, .d a4, .d a5, .d a6, .d a7, .d a8, .d a9, .d a10, .d a11, .d a12, .d a13, .d a14, .d a15, .d a16, .d a17, .d a18] = pure (.list [a0, a1, a2, a3, a4, a5, a6, a7, a8, a9, a10, a11, a12, a13, a14, a15, a16, a17, a18]) := lstK_of [a0, a1, a2, a3, a4, a5, a6, a7, a8, a9, a10, a11, a12, a13, a14, a15, a16, a17, a18] (by simp)
@[simp] theorem lstN_19 (a0 a1 a2 a3 a4 a5 a6 a7 a8 a9 a10 a11 a12 a13 a14 a15 a16 a17 a18 : PyData) : lstN [.d a0, .d a1, .d a2, .d a3, .d a4, .d a5, .d a6, .d a7, .d a8, .d a9, .d a10, .d a11, .d a12, .d a13, .d a14, .d a15, .d a16, .d a17, .d a18] = pure [a0, a1, a2, a3, a4, a5, a6, a7, a8, a9, a10, a11, a12, a13, a14, a15, a16, a17, a18] := lstN_of [a0, a1, a2, a3, a4, a5, a6, a7, a8, a9, a10, a11, a12, a13, a14, a15, a16, a17, a18] (by simp)
@[simp] theorem lstK_20 (a0 a1 a2 a3 a4 a5 a6 a7 a8 a9 a10 a11 a12 a13 a14 a15 a16 a17 a18 a19 : PyData) : lstK [.d a0, .d a1, .d a2, .d a3, .d a4, .d a5, .d a6, .d a7, .d a8, .d a9, .d a10, .d a11, .d a12, .d a13, .d a14, .d a15, .d a16, .d a17, .d a18, .d a19] = pure (.list [a0, a1, a2, a3, a4, a5, a6, a7, a8, a9, a10, a11, a12, a13, a14, a15, a16, a17, a18, a19]) := lstK_of [a0, a1, a2, a3, a4, a5, a6, a7, a8, a9, a10, a11, a12, a13, a14, a15, a16, a17, a18, a19] (by simp)
@[simp] theorem lstN_20 (a0 a1 a2 a3 a4 a5 a6 a7 a8 a9 a10 a11 a12 a13 a14 a15 a16 a17 a18 a19 : PyData) : lstN [.d a0, .d a1, .d a2, .d a3, .d a4, .d a5, .d a6, .d a7, .d a8, .d a9, .d a10, .d a11, .d a12, .d a13, .d a14, .d a15, .d a16, .d a17, .d a18, .d a19] = pure [a0, a1, a2, a3, a4, a5, a6, a7, a8, a9, a10, a11, a12, a13, a14, a15, a16, a17, a18, a19] := lstN_of [a0, a1, a2, a3, a4, a5, a6, a7, a8, a9, a10, a11, a12, a13, a14, a15, a16, a17, a18, a19] (by simp)
/-- an item of a list by a number within it -/
theorem ix_mem {xs : List PyData} {v : Int} (h : 0 ≤ v) (h2 : v < xs.length) : ∃ d, d ∈ xs ∧ ixM (.list xs) (.int v) = pure d :=
  ⟨xs[v.toNat]'(by omega), List.getElem_mem _, ix_list h (List.getElem?_eq_getElem (by omega))⟩
theorem add_list {a b : List PyData} (h : a.length + b.length ≤ 16777216) : addM (.list a) (.list b) = pure (.list (a ++ b)) := by
  show ofO (if a.length + b.length ≤ line then some (PyData.list (a ++ b)) else none) = _
  rw [if_pos (show a.length + b.length ≤ line from h)]; rfl
theorem add_tuple {a b : List PyData} (h : a.length + b.length ≤ 16777216) : addM (.tuple a) (.tuple b) = pure (.tuple (a ++ b)) := by
  show ofO (if a.length + b.length ≤ line then some (PyData.tuple (a ++ b)) else none) = _
  rw [if_pos (show a.length + b.length ≤ line from h)]; rfl
@[simp] theorem int_bool (b : Bool) : intM (.bool b) = pure (.int (if b then 1 else 0)) := rfl
theorem fr_int (z : Int) : (.tuple [.int z, .int 1] : PyData) = fr (z : Rat) := rfl
theorem bt_int {z : Int} {n : Nat} (h : z.natAbs < 2 ^ n) (hn : 1 ≤ n) : Bt n (z : Rat) := ⟨h, by
  show 1 < 2 ^ n
  exact Nat.one_lt_two_pow (by omega)⟩
def IsFr (n : Nat) (d : PyData) : Prop := ∃ q, d = fr q ∧ Bt n q
theorem fraction_gen : Gen1 L.law_fraction (IsFr 50) := by
  unfold L.law_fraction
  refine Gen.frame0 ?_
  simp only [fin_bind, bind_assoc', pure_bind', fin_cond]
  refine Gen.bind (choice (by decide) (by decide)) ?_
  rintro _ ⟨t, rfl, t0, t1⟩
  simp only [sub_int, pure_bind']
  refine Gen.bind (choice (by decide) (by decide)) ?_
  rintro _ ⟨w, rfl, w0, w1⟩
  simp only [lt_int, pure_bind']
  refine Gen.cond (fun hw => ?_) fun hw => ?_
  · have hw := of_decide_eq_true hw
    simp only [tupK_2, pure_bind', lstK_3]
    obtain ⟨d, hd, e⟩ := ix_mem (xs := [.tuple [.int 0, .int 1], .tuple [.int 1, .int 1], .tuple [.int (t - 9), .int 1]]) w0 (by simpa using hw)
    simp only [e, pure_bind', fin_rt]
    refine Gen.pure ?_
    simp only [List.mem_cons, List.not_mem_nil, or_false] at hd
    rcases hd with rfl | rfl | rfl
    · exact ⟨_, fr_int 0, bt_int (by decide) (by decide)⟩
    · exact ⟨_, fr_int 1, bt_int (by decide) (by decide)⟩
    · exact ⟨_, fr_int _, bt_int (by omega) (by decide)⟩
  · rw [pow_int (by decide)]
    simp only [pure_bind', add_int, lstK_2, ofB_bind, bind_assoc']
    refine Gen.bind (choice (by decide) (by decide)) ?_
    rintro _ ⟨u, rfl, u0, u1⟩
    simp only [eq_int, ofB_pure, pure_bind', int_bool, bind_pure']
    obtain ⟨d, hd, e⟩ := ix_mem (xs := [.int 1, .int (10 ^ Int.toNat 12 + 7)]) (v := if decide (u = 0) then 1 else 0) (by split <;> decide) (by split <;> decide)
    simp only [e, pure_bind']
    obtain ⟨z, rfl, z0, z1⟩ : ∃ z : Int, d = .int z ∧ 0 ≤ z ∧ z < 2 ^ 41 := by
      simp only [List.mem_cons, List.not_mem_nil, or_false] at hd
      rcases hd with rfl | rfl
      · exact ⟨_, rfl, by decide, by decide⟩
      · exact ⟨_, rfl, by decide, by decide⟩
    rw [mul_int (mulOk_of (a := 10) (b := 50) (by omega) (by omega) (by omega))]
    simp only [pure_bind']
    refine Gen.bind (choice (by decide) (by decide)) ?_
    rintro _ ⟨v, rfl, v0, v1⟩
    have hm : ((t - 9) * z).natAbs < 2 ^ 50 := by
      rw [Int.natAbs_mul]
      have h1 : (t - 9).natAbs ≤ 9 := by omega
      have h2 : z.natAbs < 2 ^ 41 := by omega
      have := Nat.mul_le_mul h1 (Nat.le_of_lt h2)
      omega
    have hp : (2 : Nat) ^ 50 ≤ 2 ^ 9000 := Nat.pow_le_pow_right (by decide) (by decide)
    simp only [add_int, pure_bind']
    rw [low_eq _ _ (by omega) (by omega) (by omega)]
    simp only [sub_pure, pure_bind', fin_rt]
    exact Gen.pure ⟨_, rfl, .divInt hm (by omega) (by omega)⟩
theorem fraction : Gen (V.sub [0] L.law_fraction) (IsFr 50) := fraction_gen.sub
/-! ### numbers, odd things, bent ones (k01) -/
def IsI (n : Nat) (d : PyData) : Prop := ∃ z : Int, d = .int z ∧ z.natAbs < 2 ^ n
theorem number_gen : Gen1 L.law_number (IsI 100) := by
  unfold L.law_number
  refine Gen.frame0 ?_
  simp only [fin_bind, bind_assoc', pure_bind', neg_int]
  rw [pow_int (i := 10) (j := 25) (by decide), pow_int (i := 3) (by decide)]
  simp only [pure_bind']
  rw [mul_int (by decide)]
  simp only [pure_bind']
  refine Gen.bind (choice (by decide) (by decide)) ?_
  rintro _ ⟨t, rfl, t0, t1⟩
  simp only [sub_int, pure_bind', lstK_10]
  refine Gen.bind (choice (by decide) (by decide)) ?_
  rintro _ ⟨w, rfl, w0, w1⟩
  obtain ⟨d, hd, e⟩ := ix_mem (xs := [.int 0, .int 1, .int (-1), .int 2, .int 6, .int (-6), .int (10 ^ Int.toNat 25), .int (7 * 10 ^ Int.toNat 25), .int (3 ^ Int.toNat 40), .int (t - 1000)]) w0 (by simpa using w1)
  simp only [e, pure_bind', fin_rt]
  refine Gen.pure ?_
  simp only [List.mem_cons, List.not_mem_nil, or_false] at hd
  rcases hd with rfl | rfl | rfl | rfl | rfl | rfl | rfl | rfl | rfl | rfl
  all_goals first | exact ⟨_, rfl, by decide⟩ | exact ⟨_, rfl, by omega⟩
end V

set_option exponentiation.threshold 20000
namespace V
open PySem PySem.Spec ZL L2
/-! ### runs where a state lies in the first cell -/
section
variable {α β : Type}
def At (r : Cells) : Cells → Prop := fun s => ∃ st, GoodSt st ∧ s = cS st :: r
def AtL (n : Nat) : Cells → Prop := fun s => ∃ r, r.length = n ∧ At r s
def Ln (n : Nat) : Cells → Prop := fun s => s.length = n
theorem At.gen {m : M α} {k : α → M β} {P : α → Prop} {Q : β → Cells → Prop} {r : Cells} (h : Gen m P) (hk : ∀ a, P a → Tr (At r) (k a) Q) : Tr (At r) (m >>= k) Q := by
  rintro s ⟨st, g, rfl⟩
  obtain ⟨a, st', g', p, e⟩ := h st r g
  obtain ⟨b, s2, e2, q⟩ := hk a p _ ⟨st', g', rfl⟩
  exact ⟨b, s2, by rw [bind_ok e]; exact e2, q⟩
theorem At.pure {r : Cells} {a : α} {Q : α → Cells → Prop} (h : ∀ s, At r s → Q a s) : Tr (At r) (pure a : M α) Q := Tr.pure h
theorem At.set1 {k : Unit → M β} {Q : β → Cells → Prop} {r : Cells} {c : Option Cell} {xs : List PyData} (hk : Tr (At (cS xs :: r)) (k ()) Q) : Tr (At (c :: r)) (setC 1 xs >>= k) Q := by
  rintro s ⟨st, g, rfl⟩
  obtain ⟨b, s2, e2, q⟩ := hk _ ⟨st, g, rfl⟩
  refine ⟨b, s2, ?_, q⟩
  rw [bind_ok (s' := cS st :: cS xs :: r) (a := ())]
  · exact e2
  · show (if 1 < (cS st :: c :: r).length then Res.ok () _ else _) = _
    rw [if_pos (by simp)]; rfl
theorem At.get1 {k : List PyData → M β} {Q : β → Cells → Prop} {r : Cells} {xs : List PyData} (hk : Tr (At (cS xs :: r)) (k xs) Q) : Tr (At (cS xs :: r)) (getC 1 >>= k) Q := by
  rintro s ⟨st, g, rfl⟩
  obtain ⟨b, s2, e2, q⟩ := hk _ ⟨st, g, rfl⟩
  exact ⟨b, s2, (bind_ok (m := getC 1) (s' := cS st :: cS xs :: r) (a := xs) rfl).trans e2, q⟩
theorem At.app1 {k : PyData → M β} {Q : β → Cells → Prop} {r : Cells} {xs : List PyData} {d : PyData} (hz : xs.length < 16777216) (hk : Tr (At (cS (xs ++ [d]) :: r)) (k .none) Q) : Tr (At (cS xs :: r)) (appC 1 d >>= k) Q := by
  rintro s ⟨st, g, rfl⟩
  obtain ⟨b, s2, e2, q⟩ := hk _ ⟨st, g, rfl⟩
  refine ⟨b, s2, ?_, q⟩
  rw [bind_ok (s' := cS st :: cS (xs ++ [d]) :: r) (a := .none)]
  · exact e2
  · show (if xs.length < line then Res.ok PyData.none _ else _) = _
    rw [if_pos (show xs.length < line from hz)]; rfl
theorem At.lock1 {k : List PyData → M β} {Q : β → Cells → Prop} {r : Cells} {xs : List PyData} (hk : Tr (At (none :: r)) (k xs) Q) : Tr (At (cS xs :: r)) (lockC 1 >>= k) Q := by
  rintro s ⟨st, g, rfl⟩
  obtain ⟨b, s2, e2, q⟩ := hk _ ⟨st, g, rfl⟩
  exact ⟨b, s2, (bind_ok (m := lockC 1) (s' := cS st :: none :: r) (a := xs) rfl).trans e2, q⟩
theorem At.cond {r : Cells} {b : Bool} {x y : M α} {Q : α → Cells → Prop} (h1 : b = true → Tr (At r) x Q) (h2 : b = false → Tr (At r) y Q) : Tr (At r) (bif b then x else y) Q := Tr.cond h1 h2
/-- a def handed the state, with lists of its own -/
theorem Gen1.ofTr {m : M PyData} {P : PyData → Prop} {nl : Nat} (h : Tr (At (List.replicate nl none)) m fun a s => P a ∧ ∃ st r, GoodSt st ∧ s = cS st :: r) : Gen1 (V.frame nl m) P := fun st g => by
  obtain ⟨a, s', e, p, st', r, g', rfl⟩ := h _ ⟨st, g, rfl⟩
  exact ⟨a, st', g', p, by rw [frame_run (s := [cS st]) e]; rfl⟩
theorem At.out {r : Cells} {s : Cells} (h : At r s) : ∃ st r, GoodSt st ∧ s = cS st :: r := let ⟨st, g, e⟩ := h; ⟨st, r, g, e⟩
theorem AtL.tr {n : Nat} {m : M α} {Q : α → Cells → Prop} (h : ∀ r, r.length = n → Tr (At r) m Q) : Tr (AtL n) m Q := fun s ⟨r, hr, p⟩ => h r hr s p
theorem AtL.one {m : M α} {Q : α → Cells → Prop} (h : ∀ c, Tr (At [c]) m Q) : Tr (AtL 1) m Q := AtL.tr fun r hr => by
  rcases r with _ | ⟨c, _ | ⟨d, r⟩⟩ <;> simp at hr
  exact h c
theorem AtL.zero {m : M α} {Q : α → Cells → Prop} (h : Tr (At []) m Q) : Tr (AtL 0) m Q := AtL.tr fun r hr => by
  rcases r with _ | ⟨c, r⟩ <;> simp at hr
  exact h
theorem At.l {r : Cells} {s : Cells} (h : At r s) : AtL r.length s := ⟨r, rfl, h⟩
/-- the state is made -/
theorem Ln.set0 {n : Nat} {st : List PyData} {k : Unit → M β} {Q : β → Cells → Prop} (g : GoodSt st) (hk : Tr (AtL n) (k ()) Q) : Tr (Ln (n + 1)) (setC 0 st >>= k) Q := by
  intro s hs
  rcases s with _ | ⟨c, r⟩
  · cases hs
  · obtain ⟨b, s2, e2, q⟩ := hk (cS st :: r) ⟨r, by simpa [Ln] using hs, st, g, rfl⟩
    refine ⟨b, s2, ?_, q⟩
    rw [bind_ok (s' := cS st :: r) (a := ())]
    · exact e2
    · show (if 0 < (c :: r).length then Res.ok () _ else _) = _
      rw [if_pos (by simp)]; rfl
theorem AtL.ln {n : Nat} {s : Cells} (h : AtL n s) : Ln (n + 1) s := by
  obtain ⟨r, hr, st, _, rfl⟩ := h
  simp [Ln, hr]
/-- for loops, whose turns keep what holds -/
theorem Tr.for0 {L γ : Type} {pt : PyData → Option γ} {body : γ → Unit → M (Fl Unit Unit)} {Q : β → Cells → Prop} {k : Fl L Unit → M β} (I : Cells → Prop) {xs : List PyData} (h : ∀ x ∈ xs, ∃ u, pt x = some u ∧ Tr I (body u ()) fun f s => f = .nx () ∧ I s) (hk : Tr I (k (.nx ())) Q) : Tr I (V.forM pt body xs () >>= k) Q := by
  refine Tr.bind (R := fun f s => f = .nx () ∧ I s) ((Tr.forM (T := Unit) (fun _ => I) (fun x hx => ?_) fun _ s p => ⟨rfl, p⟩) : Tr ((fun _ : Unit => I) ()) _ _) fun f => ?_
  · obtain ⟨u, e, hb⟩ := h x hx
    refine ⟨u, e, fun _ => (hb).post fun f s ⟨ef, p⟩ => by subst ef; exact p⟩
  · rintro s ⟨rfl, p⟩
    exact hk s p
end
/-- at the law's end -/
theorem law_end {nl : Nat} {m : M PyData} (h : Tr (Ln nl) m fun a _ => a = .bool true) : ∃ s', V.frame nl m [] = .ok (.bool true) s' := by
  obtain ⟨a, s', e, rfl⟩ := h (List.replicate nl none) (by simp [Ln])
  exact ⟨[], by rw [frame_run (s := []) (by simpa using e)]; rfl⟩
end V

set_option exponentiation.threshold 20000
namespace V
open PySem PySem.Spec ZL L2
/-! ### things of bounded size -/
mutual
/-- the whole numbers within are below 2 ^ b -/
def ib (b : Nat) : PyData → Prop
  | .int i => i.natAbs < 2 ^ b
  | .list xs => ibA b xs
  | .tuple xs => ibA b xs
  | .dict kvs => kvs = []
  | _ => True
def ibA (b : Nat) : List PyData → Prop
  | [] => True
  | x :: xs => ib b x ∧ ibA b xs
end
theorem ibA_iff {b : Nat} : ∀ {xs : List PyData}, ibA b xs ↔ ∀ x ∈ xs, ib b x
  | [] => by simp [ibA]
  | x :: xs => by simp [ibA, ibA_iff (xs := xs)]
mutual
theorem ib_mono {b c : Nat} (h : b ≤ c) : ∀ {d : PyData}, ib b d → ib c d
  | .int i, q => Nat.lt_of_lt_of_le q (Nat.pow_le_pow_right (by decide) h)
  | .list xs, q => by simp only [ib] at *; exact ibA_mono h q
  | .tuple xs, q => by simp only [ib] at *; exact ibA_mono h q
  | .dict kvs, q => q
  | .none, _ => by simp [ib]
  | .bool _, _ => by simp [ib]
  | .str _, _ => by simp [ib]
theorem ibA_mono {b c : Nat} (h : b ≤ c) : ∀ {ds : List PyData}, ibA b ds → ibA c ds
  | [], _ => by simp [ibA]
  | x :: xs, q => ⟨ib_mono h q.1, ibA_mono h q.2⟩
end
theorem szA_app (a b : List PyData) : szA (a ++ b) = szA a + szA b := by
  induction a with
  | nil => simp [szA]
  | cons x r ih => simp only [List.cons_append, szA, ih]; omega
theorem depthAll_app (a b : List PyData) : PyData.depthAll (a ++ b) = max (PyData.depthAll a) (PyData.depthAll b) := by
  induction a with
  | nil => simp [PyData.depthAll]
  | cons x r ih => simp only [List.cons_append, PyData.depthAll, ih]; omega
theorem hasDictAll_app (a b : List PyData) : PyData.hasDictAll (a ++ b) = (PyData.hasDictAll a || PyData.hasDictAll b) := by
  induction a with
  | nil => simp [PyData.hasDictAll]
  | cons x r ih => simp only [List.cons_append, PyData.hasDictAll, ih, Bool.or_assoc]
theorem lfreeAll_app (a b : List PyData) : lfreeAll (a ++ b) = (lfreeAll a && lfreeAll b) := by
  induction a with
  | nil => simp [lfreeAll]
  | cons x r ih => simp only [List.cons_append, lfreeAll, ih, Bool.and_assoc]
theorem ibA_app {n : Nat} {a b : List PyData} : ibA n (a ++ b) ↔ ibA n a ∧ ibA n b := by
  simp only [ibA_iff, List.mem_append]
  exact ⟨fun h => ⟨fun x hx => h x (.inl hx), fun x hx => h x (.inr hx)⟩, fun h x hx => hx.elim (h.1 x) (h.2 x)⟩
theorem szA_mem {x : PyData} : ∀ {xs : List PyData}, x ∈ xs → sz x + 2 ≤ szA xs
  | y :: r, h => by
    simp only [szA]
    rcases List.mem_cons.mp h with rfl | h
    · omega
    · have := szA_mem h; omega
theorem szA_take (n : Nat) (xs : List PyData) : szA (xs.take n) + szA (xs.drop n) = szA xs := by rw [← szA_app, List.take_append_drop]
theorem depthAll_mem {x : PyData} : ∀ {xs : List PyData}, x ∈ xs → x.depth ≤ PyData.depthAll xs
  | y :: r, h => by
    simp only [PyData.depthAll]
    rcases List.mem_cons.mp h with rfl | h
    · omega
    · have := depthAll_mem h; omega
theorem depthAll_sub {a b : List PyData} (h : ∀ x ∈ a, x ∈ b) : PyData.depthAll a ≤ PyData.depthAll b := by
  induction a with
  | nil => simp [PyData.depthAll]
  | cons x r ih =>
    simp only [PyData.depthAll]
    have := depthAll_mem (h x (by simp))
    have := ih fun y hy => h y (by simp [hy])
    omega
theorem hasDictAll_iff {xs : List PyData} : PyData.hasDictAll xs = false ↔ ∀ x ∈ xs, x.hasDict = false := by
  induction xs with
  | nil => simp [PyData.hasDictAll]
  | cons x r ih => simp [PyData.hasDictAll, ih]
theorem canLayAll_iff {xs : List PyData} : PyData.canLayAll0 xs = true ↔ ∀ x ∈ xs, x.canLay0 = true := by
  induction xs with
  | nil => simp [PyData.canLayAll0]
  | cons x r ih => simp [PyData.canLayAll0, ih]
theorem lfreeAll_iff {xs : List PyData} : lfreeAll xs = true ↔ ∀ x ∈ xs, lfree x = true := by
  induction xs with
  | nil => simp [lfreeAll]
  | cons x r ih => simp [lfreeAll, ih]
theorem length_szA (xs : List PyData) : 2 * xs.length ≤ szA xs := by
  induction xs with
  | nil => simp [szA]
  | cons x r ih => simp only [szA, List.length_cons]; omega
mutual
theorem ib_showable {b : Nat} (hb : b ≤ 1920) : ∀ {d : PyData}, ib b d → d.showable = true
  | .int i, q => by
    simp only [PyData.showable, decide_eq_true_eq]
    have q : i.natAbs < 2 ^ 1920 := Nat.lt_of_lt_of_le q (Nat.pow_le_pow_right (by decide) hb)
    by_cases e : i.natAbs = 0
    · rw [e]; decide
    · exact (Nat.log2_lt e).mpr q
  | .list xs, q => by simp only [ib] at q; simp only [PyData.showable]; exact ibA_showable hb q
  | .tuple xs, q => by simp only [ib] at q; simp only [PyData.showable]; exact ibA_showable hb q
  | .dict kvs, q => by simp only [ib] at q; subst q; rfl
  | .none, _ => rfl
  | .bool _, _ => rfl
  | .str _, _ => rfl
theorem ibA_showable {b : Nat} (hb : b ≤ 1920) : ∀ {ds : List PyData}, ibA b ds → PyData.showableAll ds = true
  | [], _ => rfl
  | x :: xs, q => by simp only [PyData.showableAll, ib_showable hb q.1, ibA_showable hb q.2]; rfl
end
/-- a thing: its numbers below 2 ^ b, D deep, of Z signs -/
structure Bq (b D Z : Nat) (d : PyData) : Prop where
  i : ib b d
  dp : d.depth ≤ D
  z : sz d ≤ Z
  o : d.hasDict = false ∨ lfree d = true
/-- .. of tuples alone -/
structure Tq (b D Z : Nat) (d : PyData) : Prop where
  i : ib b d
  dp : d.depth ≤ D
  z : sz d ≤ Z
  c : d.canLay0 = true
  l : lfree d = true
theorem Tq.h {b D Z : Nat} {d : PyData} (h : Tq b D Z d) : d.hasDict = false := PyData.hasDict_of_canLay d h.c
theorem Tq.q {b D Z : Nat} {d : PyData} (h : Tq b D Z d) : Bq b D Z d := ⟨h.i, h.dp, h.z, .inl h.h⟩
theorem Bq.mono {b D Z b' D' Z' : Nat} {d : PyData} (h : Bq b D Z d) (h1 : b ≤ b') (h2 : D ≤ D') (h3 : Z ≤ Z') : Bq b' D' Z' d := ⟨ib_mono h1 h.i, Nat.le_trans h.dp h2, Nat.le_trans h.z h3, h.o⟩
theorem Tq.mono {b D Z b' D' Z' : Nat} {d : PyData} (h : Tq b D Z d) (h1 : b ≤ b') (h2 : D ≤ D') (h3 : Z ≤ Z') : Tq b' D' Z' d := ⟨ib_mono h1 h.i, Nat.le_trans h.dp h2, Nat.le_trans h.z h3, h.c, h.l⟩
theorem Bq.ok {b D Z : Nat} {d : PyData} (h : Bq b D Z d) (hb : b ≤ 1920) (hD : D ≤ 100) (hZ : Z ≤ 16777216) : reprOk d = true := by
  have s := ib_showable hb h.i
  unfold reprOk
  simp only [Bool.and_eq_true, decide_eq_true_eq, Bool.or_eq_true, Bool.not_eq_true']
  exact ⟨⟨⟨s, Nat.le_trans h.dp hD⟩, h.o⟩, Nat.le_trans (shown_sz d s) (Nat.le_trans h.z hZ)⟩
theorem Bq.lenOk {b D Z : Nat} {d : PyData} (h : Bq b D Z d) (hZ : Z ≤ 16777216) : lenOk d := by
  cases d with
  | tuple xs =>
    have := h.z
    have := length_szA xs
    simp only [sz] at *
    simp only [V.lenOk]
    omega
  | _ => trivial
theorem Bq.sm2 {b D Z : Nat} {d : PyData} (h : Bq b D Z d) (hb : b ≤ 9000) : sm2 d := by
  unfold V.sm2
  split
  · have := h.i
    simp only [ib, ibA] at this
    have p : (2 : Nat) ^ b ≤ 2 ^ 9000 := Nat.pow_le_pow_right (by decide) hb
    omega
  · trivial
theorem tq_int {b : Nat} {z : Int} (h : z.natAbs < 2 ^ b) : Tq b 0 1921 (.int z) := ⟨h, by simp [PyData.depth], by simp [sz], rfl, rfl⟩
theorem tq_tuple {b D Z : Nat} {xs : List PyData} (h : ∀ x ∈ xs, Tq b D Z x) {l : Nat} (hl : xs.length ≤ l) : Tq b (D + 1) (l * (Z + 2) + 3) (.tuple xs) := by
  refine ⟨by simp only [ib]; exact ibA_iff.mpr fun x hx => (h x hx).i, ?_, ?_, by simp only [PyData.canLay0]; exact canLayAll_iff.mpr fun x hx => (h x hx).c, by simp only [lfree]; exact lfreeAll_iff.mpr fun x hx => (h x hx).l⟩
  · simp only [PyData.depth]
    have : PyData.depthAll xs ≤ D := by
      clear hl
      induction xs with
      | nil => simp [PyData.depthAll]
      | cons x r ih =>
        have := (h x (by simp)).dp
        have := ih fun y hy => h y (by simp [hy])
        simp only [PyData.depthAll]; omega
    omega
  · simp only [sz]
    have : szA xs ≤ xs.length * (Z + 2) := by
      clear hl
      induction xs with
      | nil => simp [szA]
      | cons x r ih =>
        have := (h x (by simp)).z
        have := ih fun y hy => h y (by simp [hy])
        simp only [szA, List.length_cons, Nat.succ_mul]; omega
    have := Nat.mul_le_mul_right (Z + 2) hl
    omega
/-! slices -/
theorem slH_tuple {xs : List PyData} {i : Int} (h : 0 ≤ i) : slH (.tuple xs) (.int i) = pure (.tuple (xs.take i.toNat)) := by
  show pure (PyData.tuple (cutD xs none (some i))) = (pure _ : M PyData)
  congr 1; congr 1
  unfold cutD
  simp only [HT.sIx, Nat.sub_zero, List.drop_zero]
  rw [if_neg (by omega)]
  by_cases q : i ≤ (xs.length : Int)
  · congr 1; omega
  · rw [List.take_of_length_le (by omega), List.take_of_length_le (by omega)]
theorem slL_tuple {xs : List PyData} {i : Int} (h : 0 ≤ i) : slL (.tuple xs) (.int i) = pure (.tuple (xs.drop i.toNat)) := by
  show pure (PyData.tuple (cutD xs (some i) none)) = (pure _ : M PyData)
  congr 1; congr 1
  unfold cutD
  simp only [HT.sIx]
  rw [if_neg (by omega)]
  by_cases q : i ≤ (xs.length : Int)
  · rw [show min i.toNat xs.length = i.toNat by omega, List.take_of_length_le (by rw [List.length_drop]; omega)]
  · rw [show min i.toNat xs.length = xs.length by omega, List.drop_of_length_le (Nat.le_refl _), List.drop_of_length_le (by omega)]; simp
theorem slH_neg {xs : List PyData} : slH (.tuple xs) (.int (-1)) = pure (.tuple (xs.take (xs.length - 1))) := by
  show pure (PyData.tuple (cutD xs none (some (-1)))) = (pure _ : M PyData)
  congr 1; congr 1
  unfold cutD
  simp only [HT.sIx, Nat.sub_zero, List.drop_zero]
  rw [if_pos (by decide)]
  congr 1; omega
theorem slL_neg {xs : List PyData} : slL (.tuple xs) (.int (-1)) = pure (.tuple (xs.drop (xs.length - 1))) := by
  show pure (PyData.tuple (cutD xs (some (-1)) none)) = (pure _ : M PyData)
  congr 1; congr 1
  unfold cutD
  simp only [HT.sIx]
  rw [if_pos (by decide), show ((-1 : Int) + (xs.length : Int)).toNat = xs.length - 1 by omega, List.take_of_length_le (by rw [List.length_drop]; omega)]
theorem rev_tuple (xs : List PyData) : revM (.tuple xs) = pure (.tuple xs.reverse) := rfl
theorem list_tuple (xs : List PyData) : listM (.tuple xs) = pure (.list xs) := rfl
theorem ne_empty (xs : List PyData) (h : SeqAt.shaped (.tuple xs) = true) : neM (.tuple xs) (.tuple []) = pure (!(xs.isEmpty)) := by
  show ofO (if SeqAt.shaped (.tuple xs) && SeqAt.shaped (.tuple []) then some (!PyData.eqv (.tuple xs) (.tuple [])) else none) = _
  rw [h, if_pos (by rfl)]
  cases xs <;> simp [PyData.eqv, PyData.eqvAll]
/-- the law's own bending of things, by what odd things it draws -/
def bentT (odd : M PyData) : Nat → PyData → M PyData
  | 0, _ => bad
  | n + 1, a0 => V.frame 1 (fin ((tAnd ((pure (isO .tuple a0)) >>= toB) (tAnd ((tupK []) >>= fun x2 => (neM a0 x2)) ((sub [0] (L.law_choice (.int 5))) >>= fun x1 => (gtM x1 (.int 0))))) >>= fun b3 => bif b3 then (((lenM a0) >>= fun x5 => (sub [0] (L.law_choice x5))) >>= fun v4 => ((((slH a0 v4) >>= fun x6 => (((ixM a0 v4) >>= fun x7 => (sub [0] (bentT odd n x7))) >>= fun x8 => (tupK [.d x8])) >>= fun x9 => (addM x6 x9)) >>= fun x10 => ((addM v4 (.int 1)) >>= fun x11 => (slL a0 x11)) >>= fun x12 => (addM x10 x12)) >>= fun x13 => pure (.rt x13))) else ((sub [0] (L.law_choice (.int 9))) >>= fun v14 => ((tAnd ((pure (isO .tuple a0)) >>= toB) (ltM v14 (.int 7))) >>= fun b15 => bif b15 then (((((negM (.int 1)) >>= fun x16 => (slL a0 x16)) >>= fun x17 => (addM a0 x17)) >>= fun x18 => ((negM (.int 1)) >>= fun x19 => (slH a0 x19)) >>= fun x20 => (slL a0 (.int 1)) >>= fun x21 => (revM a0) >>= fun x22 => (listM a0) >>= fun x23 => ((tupK [.d (.int 0)]) >>= fun x24 => (addM a0 x24)) >>= fun x25 => (lstN [.d x18, .d x20, .d x21, .d x22, .d x23, .d x25])) >>= fun xs32 => setC 1 xs32 >>= fun _ => ((getC 1 >>= fun _ => ((tupK [.d a0]) >>= fun x26 => (addM a0 x26)) >>= fun x27 => appC 1 x27) >>= fun _u31 => ((getC 1 >>= fun xs29 => (ixM (.list xs29) v14)) >>= fun x30 => pure (.rt x30)))) else ((tAnd ((sub [] (L.law_whole a0)) >>= toB) (ltM v14 (.int 6))) >>= fun b33 => bif b33 then (((((negM (.int 1)) >>= fun x34 => (negM (.int 101)) >>= fun x35 => (lstK [.d (.int 1), .d x34, .d (.int 2), .d (.int 30), .d x35, .d (.int 5)])) >>= fun x36 => (ixM x36 v14)) >>= fun x37 => (addM a0 x37)) >>= fun x38 => pure (.rt x38)) else ((sub [0] (odd)) >>= fun x39 => pure (.rt x39)))))))
theorem shaped_tq {b D Z : Nat} {d : PyData} (h : Tq b D Z d) (hD : D ≤ 64) : SeqAt.shaped d = true := by
  unfold SeqAt.shaped
  rw [h.c, decide_eq_true (Nat.le_trans h.dp hD)]; rfl
theorem tq_mem {b D Z : Nat} {xs : List PyData} (h : Tq b D Z (.tuple xs)) : ∀ x ∈ xs, Tq b (D - 1) (sz x) x := by
  intro x hx
  have h1 := h.i; have h2 := h.dp; have h3 := h.c; have h4 := h.l
  simp only [ib] at h1
  simp only [PyData.depth] at h2
  simp only [PyData.canLay0] at h3
  simp only [lfree] at h4
  have := depthAll_mem hx
  exact ⟨ibA_iff.mp h1 x hx, by omega, Nat.le_refl _, canLayAll_iff.mp h3 x hx, lfreeAll_iff.mp h4 x hx⟩
/-- a sublist of a tuple's items -/
theorem tq_some {b D Z : Nat} {xs ys : List PyData} (h : Tq b D Z (.tuple xs)) (hs : ∀ y ∈ ys, y ∈ xs) : ibA b ys ∧ PyData.depthAll ys + 1 ≤ D ∧ PyData.hasDictAll ys = false ∧ lfreeAll ys = true := by
  have h1 := h.i; have h2 := h.dp; have h3 := h.h; have h4 := h.l
  simp only [ib] at h1
  simp only [PyData.depth] at h2
  simp only [PyData.hasDict] at h3
  simp only [lfree] at h4
  have := depthAll_sub hs
  exact ⟨ibA_iff.mpr fun y hy => ibA_iff.mp h1 y (hs y hy), by omega, hasDictAll_iff.mpr fun y hy => hasDictAll_iff.mp h3 y (hs y hy), lfreeAll_iff.mpr fun y hy => lfreeAll_iff.mp h4 y (hs y hy)⟩
theorem szA_rev (xs : List PyData) : szA xs.reverse = szA xs := by
  induction xs with
  | nil => rfl
  | cons x r ih => rw [List.reverse_cons, szA_app, ih]; simp only [szA]; omega
theorem bent_gen {odd : M PyData} {b : Nat} {K : Nat} (hK : 4000 ≤ K) (hb : 8 ≤ b) (ho : Gen1 odd (Bq (b + 1) 3 K)) : ∀ (n D : Nat) (d : PyData) (Z : Nat), D < n → D ≤ 60 → Z ≤ 1000000 → Tq b D Z d → Gen1 (bentT odd n d) (Bq (b + 1) (D + 3) (2 * sz d + K)) := by
  intro n
  induction n with
  | zero => intro D d Z h; omega
  | succ n ih =>
    intro D d Z hD hD2 hZ h
    unfold bentT
    refine Gen1.ofTr ?_
    simp only [fin_bind, bind_assoc', pure_bind', fin_cond, fin_rt, toB_bool, isO, tAnd_pure, tupK_nil, tAnd_bind, neg_int, pure_bind']
    have odd' : ∀ r : Cells, Tr (At r) (V.sub [0] odd >>= fun x39 => (pure x39 : M PyData)) fun a s => Bq (b + 1) (D + 3) (2 * sz d + K) a ∧ ∃ st r, GoodSt st ∧ s = cS st :: r := fun r =>
      At.gen ho.sub fun a ha => At.pure fun s hs => ⟨ha.mono (Nat.le_refl _) (by omega) (by omega), hs.out⟩
    -- what is no tuple, or is left as it is
    have low : Tr (At (List.replicate 1 none)) (V.sub [0] (L.law_choice (.int 9)) >>= fun v14 => (bif isD .tuple d then (ltM v14 (.int 7)) else pure false) >>= fun b15 => bif b15 then (slL d (.int (-1)) >>= fun x17 => addM d x17 >>= fun x18 => slH d (.int (-1)) >>= fun x20 => slL d (.int 1) >>= fun x21 => revM d >>= fun x22 => listM d >>= fun x23 => tupK [.d (.int 0)] >>= fun x24 => addM d x24 >>= fun x25 => lstN [.d x18, .d x20, .d x21, .d x22, .d x23, .d x25] >>= fun xs32 => setC 1 xs32 >>= fun _ => getC 1 >>= fun _ => tupK [.d d] >>= fun x26 => addM d x26 >>= fun x27 => appC 1 x27 >>= fun _ => getC 1 >>= fun xs29 => ixM (.list xs29) v14 >>= fun x30 => pure x30)
        else (V.sub [] (L.law_whole d) >>= fun a => tAnd (toB a) (ltM v14 (.int 6)) >>= fun b33 => bif b33 then (lstK [.d (.int 1), .d (.int (-1)), .d (.int 2), .d (.int 30), .d (.int (-101)), .d (.int 5)] >>= fun x36 => ixM x36 v14 >>= fun x37 => addM d x37 >>= fun x38 => pure x38) else (V.sub [0] odd >>= fun x39 => pure x39)))
        fun a s => Bq (b + 1) (D + 3) (2 * sz d + K) a ∧ ∃ st r, GoodSt st ∧ s = cS st :: r := by
      refine At.gen (choice (by decide) (by decide)) ?_
      rintro _ ⟨v, rfl, v0, v1⟩
      simp only [lt_int, law_whole_eq, sub_pure, pure_bind', toB_bool, tAnd_pure]
      cases d with
      | tuple xs =>
        simp only [isD, cond_true, pure_bind']
        refine At.cond (fun hv => ?_) fun hv => ?_
        · have hv := of_decide_eq_true hv
          have zz := h.z
          simp only [sz] at zz
          have ll := length_szA xs
          simp only [slL_neg, slH_neg, slL_tuple (show (0 : Int) ≤ 1 by decide), rev_tuple, list_tuple, tupK_1, pure_bind']
          rw [add_tuple (by rw [List.length_drop]; omega), pure_bind', add_tuple (by simp; omega), pure_bind', lstN_6, pure_bind']
          refine At.set1 ?_
          refine At.get1 ?_
          rw [add_tuple (by simp; omega), pure_bind']
          refine At.app1 (by simp) ?_
          refine At.get1 ?_
          obtain ⟨o, hmem, e⟩ := ix_mem (xs := [PyData.tuple (xs ++ List.drop (xs.length - 1) xs), PyData.tuple (List.take (xs.length - 1) xs), PyData.tuple (List.drop (Int.toNat 1) xs), PyData.tuple xs.reverse, PyData.list xs, PyData.tuple (xs ++ [PyData.int 0])] ++ [PyData.tuple (xs ++ [PyData.tuple xs])]) v0 (by simp; omega)
          rw [e, bind_pure']
          refine At.pure fun s hs => ⟨?_, hs.out⟩
          obtain ⟨a1, a2, a3, a4⟩ := tq_some h (ys := xs) fun _ h => h
          have drop_ok : ∀ k, ibA b (xs.drop k) ∧ PyData.depthAll (xs.drop k) + 1 ≤ D ∧ PyData.hasDictAll (xs.drop k) = false ∧ lfreeAll (xs.drop k) = true := fun k => tq_some h fun y hy => List.mem_of_mem_drop hy
          have take_ok : ∀ k, ibA b (xs.take k) ∧ PyData.depthAll (xs.take k) + 1 ≤ D ∧ PyData.hasDictAll (xs.take k) = false ∧ lfreeAll (xs.take k) = true := fun k => tq_some h fun y hy => List.mem_of_mem_take hy
          have rev_ok : ibA b xs.reverse ∧ PyData.depthAll xs.reverse + 1 ≤ D ∧ PyData.hasDictAll xs.reverse = false ∧ lfreeAll xs.reverse = true := tq_some h fun y hy => by simpa using hy
          have zd : ∀ k, szA (xs.drop k) ≤ szA xs := fun k => by have := szA_take k xs; omega
          have zt : ∀ k, szA (xs.take k) ≤ szA xs := fun k => by have := szA_take k xs; omega
          simp only [List.cons_append, List.nil_append, List.mem_cons, List.not_mem_nil, or_false] at hmem
          rcases hmem with rfl | rfl | rfl | rfl | rfl | rfl | rfl
          · obtain ⟨d1, d2, d3, d4⟩ := drop_ok (xs.length - 1)
            have := zd (xs.length - 1)
            exact ⟨by simp only [ib]; exact ibA_mono (by omega) (ibA_app.mpr ⟨a1, d1⟩), by simp only [PyData.depth, depthAll_app]; omega, by simp only [sz, szA_app]; omega, .inl (by simp only [PyData.hasDict, hasDictAll_app, a3, d3]; rfl)⟩
          · obtain ⟨d1, d2, d3, d4⟩ := take_ok (xs.length - 1)
            have := zt (xs.length - 1)
            exact ⟨by simp only [ib]; exact ibA_mono (by omega) d1, by simp only [PyData.depth]; omega, by simp only [sz]; omega, .inl (by simp only [PyData.hasDict, d3])⟩
          · obtain ⟨d1, d2, d3, d4⟩ := drop_ok (Int.toNat 1)
            have := zd (Int.toNat 1)
            exact ⟨by simp only [ib]; exact ibA_mono (by omega) d1, by simp only [PyData.depth]; omega, by simp only [sz]; omega, .inl (by simp only [PyData.hasDict, d3])⟩
          · obtain ⟨d1, d2, d3, d4⟩ := rev_ok
            exact ⟨by simp only [ib]; exact ibA_mono (by omega) d1, by simp only [PyData.depth]; omega, by simp only [sz, szA_rev]; omega, .inl (by simp only [PyData.hasDict, d3])⟩
          · exact ⟨by simp only [ib]; exact ibA_mono (by omega) a1, by simp only [PyData.depth]; omega, by simp only [sz]; omega, .inl (by simp only [PyData.hasDict, a3])⟩
          · refine ⟨by simp only [ib]; exact ibA_mono (by omega) (ibA_app.mpr ⟨a1, by simp [ibA, ib, Nat.two_pow_pos]⟩), by simp only [PyData.depth, depthAll_app, PyData.depthAll]; omega, by simp only [sz, szA_app, szA]; omega, .inl (by simp only [PyData.hasDict, hasDictAll_app, a3]; rfl)⟩
          · refine ⟨by simp only [ib]; exact ibA_mono (by omega) (ibA_app.mpr ⟨a1, by simp only [ibA, ib, and_true]; exact a1⟩), by simp only [PyData.depth, depthAll_app, PyData.depthAll]; omega, by simp only [sz, szA_app, szA]; omega, .inl (by simp only [PyData.hasDict, hasDictAll_app, PyData.hasDictAll, a3]; rfl)⟩
        · simp only [isW, cond_false, pure_bind']
          exact odd' _
      | int z =>
        simp only [isD, isW, cond_false, cond_true, pure_bind']
        refine At.cond (fun hv => ?_) fun hv => odd' _
        have hv := of_decide_eq_true hv
        rw [lstK_6, pure_bind']
        obtain ⟨o, hmem, e⟩ := ix_mem (xs := [PyData.int 1, PyData.int (-1), PyData.int 2, PyData.int 30, PyData.int (-101), PyData.int 5]) v0 (by simp; omega)
        rw [e, pure_bind']
        obtain ⟨w, rfl, hw⟩ : ∃ w : Int, o = .int w ∧ w.natAbs ≤ 101 := by
          simp only [List.mem_cons, List.not_mem_nil, or_false] at hmem
          rcases hmem with rfl | rfl | rfl | rfl | rfl | rfl <;> exact ⟨_, rfl, by decide⟩
        rw [add_int, pure_bind']
        refine At.pure fun s hs => ⟨⟨?_, by simp [PyData.depth], by simp [sz]; omega, .inl rfl⟩, hs.out⟩
        have := h.i
        simp only [ib] at *
        have : (2 : Nat) ^ 8 ≤ 2 ^ b := Nat.pow_le_pow_right (by decide) hb
        rw [Nat.pow_succ]
        omega
      | _ =>
        simp only [isD, isW, cond_false, pure_bind']
        exact odd' _
    cases d with
    | tuple xs =>
      have sh := shaped_tq h (by omega)
      simp only [isD, cond_true, ne_empty xs sh, pure_bind', tAnd_pure]
      by_cases hx : xs = []
      · subst hx
        simp only [List.isEmpty_nil, Bool.not_true, cond_false, pure_bind']
        simpa only [isD, cond_true, pure_bind', bind_assoc', tAnd_pure, tAnd_bind] using low
      · have hx' : xs.isEmpty = false := by cases xs <;> simp at hx ⊢
        simp only [hx', Bool.not_false, cond_true, bind_assoc']
        refine At.gen (choice (by decide) (by decide)) ?_
        rintro _ ⟨u, rfl, u0, u1⟩
        simp only [gt_int, pure_bind']
        refine At.cond (fun hu => ?_) fun hu => ?_
        · simp only [len_tuple, pure_bind']
          have hl : 0 < xs.length := List.length_pos_iff.mpr hx
          have zz := h.z
          simp only [sz] at zz
          have ll := length_szA xs
          refine At.gen (choice (by omega) (by omega)) ?_
          rintro _ ⟨v, rfl, v0, v1⟩
          have hi : v.toNat < xs.length := by omega
          have em : xs[v.toNat]? = some xs[v.toNat] := List.getElem?_eq_getElem hi
          rw [slH_tuple v0, pure_bind', ix_tuple v0 em, pure_bind']
          have hm := tq_mem h _ (List.getElem_mem hi)
          have hDp : 1 ≤ D := by have := h.dp; simp only [PyData.depth] at this; omega
          have hsz := szA_mem (List.getElem_mem hi)
          refine At.gen ((ih (D - 1) _ _ (by omega) (by omega) (by omega) hm).sub) fun o ho' => ?_
          rw [tupK_1, pure_bind', add_tuple (by simp; omega), pure_bind', add_int, pure_bind', slL_tuple (by omega), pure_bind', add_tuple (by simp; omega), pure_bind']
          refine At.pure fun s hs => ⟨?_, hs.out⟩
          obtain ⟨t1, t2, t3, t4⟩ := tq_some h (ys := xs.take v.toNat) fun y hy => List.mem_of_mem_take hy
          obtain ⟨r1, r2, r3, r4⟩ := tq_some h (ys := xs.drop (v + 1).toNat) fun y hy => List.mem_of_mem_drop hy
          have e1 : szA (xs.take v.toNat) + (sz xs[v.toNat] + 2) + szA (xs.drop (v + 1).toNat) = szA xs := by
            have := szA_take v.toNat xs
            rw [List.drop_eq_getElem_cons hi] at this
            simp only [szA] at this
            rw [show (v + 1).toNat = v.toNat + 1 by omega]
            omega
          have oz := ho'.z
          have od := ho'.dp
          refine ⟨?_, ?_, ?_, ?_⟩
          · simp only [ib]
            exact ibA_app.mpr ⟨ibA_app.mpr ⟨ibA_mono (by omega) t1, ⟨ho'.i, trivial⟩⟩, ibA_mono (by omega) r1⟩
          · simp only [PyData.depth, depthAll_app, PyData.depthAll]; omega
          · simp only [sz, szA_app, szA]; omega
          · rcases ho'.o with q | q
            · exact .inl (by simp only [PyData.hasDict, hasDictAll_app, PyData.hasDictAll, t3, r3, q]; rfl)
            · exact .inr (by simp only [lfree, lfreeAll_app, lfreeAll, t4, r4, q]; rfl)
        · simpa only [isD, cond_true, pure_bind', bind_assoc', tAnd_pure, tAnd_bind] using low
    | _ =>
      simp only [isD, cond_false, pure_bind']
      simpa only [isD, cond_false, pure_bind', bind_assoc', tAnd_pure, tAnd_bind] using low
theorem bent_same (n : Nat) : ∀ x, L.law_bent n x = bentT L.law_odd n x := by
  induction n with
  | zero => intro x; rfl
  | succ n ih => intro x; unfold L.law_bent bentT; simp only [ih]
end V

set_option exponentiation.threshold 20000
namespace V
open PySem PySem.Spec ZL L2
/-! ### the reckoning of fractions -/
@[simp] theorem fr_0 (q : Rat) : ixM (fr q) (.int 0) = pure (.int q.num) := ix_tuple (by decide) rfl
@[simp] theorem fr_1 (q : Rat) : ixM (fr q) (.int 1) = pure (.int q.den) := ix_tuple (by decide) rfl
theorem add_divInt (p q : Rat) : Rat.divInt (p.num * q.den + q.num * p.den) (p.den * q.den) = p + q := by
  have hp : (p.den : Int) ≠ 0 := by have := p.den_pos; omega
  have hq : (q.den : Int) ≠ 0 := by have := q.den_pos; omega
  have := Rat.divInt_add_divInt p.num q.num hp hq
  rw [Rat.num_divInt_den, Rat.num_divInt_den] at this
  exact this.symm
theorem sub_divInt (p q : Rat) : Rat.divInt (p.num * q.den - q.num * p.den) (p.den * q.den) = p - q := by
  have hp : (p.den : Int) ≠ 0 := by have := p.den_pos; omega
  have hq : (q.den : Int) ≠ 0 := by have := q.den_pos; omega
  have := Rat.divInt_sub_divInt p.num q.num hp hq
  rw [Rat.num_divInt_den, Rat.num_divInt_den] at this
  exact this.symm
theorem mul_divInt (p q : Rat) : Rat.divInt (p.num * q.num) (p.den * q.den) = p * q := by
  have := Rat.divInt_mul_divInt p.num q.num (d₁ := (p.den : Int)) (d₂ := (q.den : Int))
  rw [Rat.num_divInt_den, Rat.num_divInt_den] at this
  exact this.symm
theorem div_divInt (p q : Rat) : Rat.divInt (p.num * q.den) (p.den * q.num) = p / q := by
  have h1 : p / q = p * q⁻¹ := Rat.div_def p q
  have h2 : q⁻¹ = Rat.divInt q.den q.num := by
    have := Rat.inv_divInt q.num q.den
    rw [Rat.num_divInt_den] at this
    exact this
  have h3 := Rat.divInt_mul_divInt p.num (q.den : Int) (d₁ := (p.den : Int)) (d₂ := q.num)
  rw [Rat.num_divInt_den, ← h2, ← h1] at h3
  exact h3.symm
theorem neg_num (q : Rat) : (-q).num = -q.num := rfl
theorem neg_den (q : Rat) : (-q).den = q.den := rfl
theorem mul_lt_pow {x y a b : Nat} (hx : x < 2 ^ a) (hy : y < 2 ^ b) : x * y < 2 ^ (a + b) := by
  rw [Nat.pow_add]
  exact Nat.mul_lt_mul'' hx hy
theorem den_ne (q : Rat) : (q.den : Int) ≠ 0 := by have := q.den_pos; omega
theorem Bt.one {n : Nat} {q : Rat} (h : Bt n q) : 1 ≤ n := by
  have := h.2; have := q.den_pos
  rcases Nat.eq_zero_or_pos n with e | e
  · subst e; simp at *; omega
  · exact e
section
variable {p q : Rat} {a b : Nat}
theorem add_num (hp : Bt a p) (hq : Bt b q) : (p.num * q.den + q.num * p.den).natAbs < 2 ^ (a + b + 1) := by
  have h1 := mul_lt_pow hp.1 hq.2
  have h2 := mul_lt_pow hq.1 hp.2
  rw [Nat.add_comm b a] at h2
  have e1 : (p.num * q.den).natAbs = p.num.natAbs * q.den := by rw [Int.natAbs_mul]; rfl
  have e2 : (q.num * p.den).natAbs = q.num.natAbs * p.den := by rw [Int.natAbs_mul]; rfl
  rw [Nat.pow_succ]
  omega
theorem sub_num (hp : Bt a p) (hq : Bt b q) : (p.num * q.den - q.num * p.den).natAbs < 2 ^ (a + b + 1) := by
  have h1 := mul_lt_pow hp.1 hq.2
  have h2 := mul_lt_pow hq.1 hp.2
  rw [Nat.add_comm b a] at h2
  have e1 : (p.num * q.den).natAbs = p.num.natAbs * q.den := by rw [Int.natAbs_mul]; rfl
  have e2 : (q.num * p.den).natAbs = q.num.natAbs * p.den := by rw [Int.natAbs_mul]; rfl
  rw [Nat.pow_succ]
  omega
theorem den_mul (hp : Bt a p) (hq : Bt b q) : ((p.den : Int) * q.den).natAbs < 2 ^ (a + b) := by
  rw [Int.natAbs_mul]
  exact mul_lt_pow hp.2 hq.2
theorem den_mul_ne (p q : Rat) : ((p.den : Int) * q.den) ≠ 0 := Int.mul_ne_zero (den_ne p) (den_ne q)
theorem num_mul (hp : Bt a p) (hq : Bt b q) : (p.num * q.num).natAbs < 2 ^ (a + b) := by
  rw [Int.natAbs_mul]; exact mul_lt_pow hp.1 hq.1
theorem nd_mul (hp : Bt a p) (hq : Bt b q) : (p.num * (q.den : Int)).natAbs < 2 ^ (a + b) := by
  rw [Int.natAbs_mul]; exact mul_lt_pow hp.1 hq.2
theorem dn_mul (hp : Bt a p) (hq : Bt b q) : ((p.den : Int) * q.num).natAbs < 2 ^ (a + b) := by
  rw [Int.natAbs_mul]; exact mul_lt_pow hp.2 hq.1
theorem Bt.add (hp : Bt a p) (hq : Bt b q) : Bt (a + b + 1) (p + q) := by
  rw [← add_divInt]
  exact .divInt (add_num hp hq) (Nat.lt_of_lt_of_le (den_mul hp hq) (Nat.pow_le_pow_right (by decide) (by omega))) (den_mul_ne p q)
theorem Bt.sub (hp : Bt a p) (hq : Bt b q) : Bt (a + b + 1) (p - q) := by
  rw [← sub_divInt]
  exact .divInt (sub_num hp hq) (Nat.lt_of_lt_of_le (den_mul hp hq) (Nat.pow_le_pow_right (by decide) (by omega))) (den_mul_ne p q)
theorem Bt.mul (hp : Bt a p) (hq : Bt b q) : Bt (a + b) (p * q) := by
  rw [← mul_divInt]
  exact .divInt (num_mul hp hq) (den_mul hp hq) (den_mul_ne p q)
theorem Bt.div (hp : Bt a p) (hq : Bt b q) (h : q ≠ 0) : Bt (a + b) (p / q) := by
  rw [← div_divInt]
  exact .divInt (nd_mul hp hq) (dn_mul hp hq) (Int.mul_ne_zero (den_ne p) (mt Rat.num_eq_zero.mp h))
theorem Bt.neg (hp : Bt a p) : Bt a (-p) := by
  unfold Bt
  rw [neg_num, neg_den, Int.natAbs_neg]
  exact hp
theorem big_le {x n : Nat} (h : x < 2 ^ n) (hn : n ≤ 9000) : x < 2 ^ 9000 := Nat.lt_of_lt_of_le h (Nat.pow_le_pow_right (by decide) hn)
theorem mulI {x y : Int} {m n : Nat} (hx : x.natAbs < 2 ^ m) (hy : y.natAbs < 2 ^ n) (h : m + n ≤ 9000) : mulM (.int x) (.int y) = pure (.int (x * y)) := mul_int (mulOk_of hx hy (by omega))
theorem den_abs {n : Nat} {q : Rat} (h : Bt n q) : ((q.den : Int)).natAbs < 2 ^ n := h.2
theorem plus_by_eq (hp : Bt a p) (hq : Bt b q) (h : a + b < 9000) : L.plus_by (fr p) (fr q) = pure (fr (p + q)) := by
  unfold L.plus_by
  simp only [fr_0, fr_1, pure_bind']
  rw [mulI hp.1 (den_abs hq) (by omega), pure_bind', mulI hq.1 (den_abs hp) (by omega), pure_bind', add_int, pure_bind', mulI (den_abs hp) (den_abs hq) (by omega), pure_bind',
    made_by_eq _ _ (big_le (add_num hp hq) (by omega)) (big_le (den_mul hp hq) (by omega)) (den_mul_ne p q), add_divInt]
  simp
theorem minus_by_eq (hp : Bt a p) (hq : Bt b q) (h : a + b < 9000) : L.minus_by (fr p) (fr q) = pure (fr (p - q)) := by
  unfold L.minus_by
  simp only [fr_0, fr_1, pure_bind']
  rw [mulI hp.1 (den_abs hq) (by omega), pure_bind', mulI hq.1 (den_abs hp) (by omega), pure_bind', sub_int, pure_bind', mulI (den_abs hp) (den_abs hq) (by omega), pure_bind',
    made_by_eq _ _ (big_le (sub_num hp hq) (by omega)) (big_le (den_mul hp hq) (by omega)) (den_mul_ne p q), sub_divInt]
  simp
theorem times_by_eq (hp : Bt a p) (hq : Bt b q) (h : a + b < 9000) : L.times_by (fr p) (fr q) = pure (fr (p * q)) := by
  unfold L.times_by
  simp only [fr_0, fr_1, pure_bind']
  rw [mulI hp.1 hq.1 (by omega), pure_bind', mulI (den_abs hp) (den_abs hq) (by omega), pure_bind',
    made_by_eq _ _ (big_le (num_mul hp hq) (by omega)) (big_le (den_mul hp hq) (by omega)) (den_mul_ne p q), mul_divInt]
  simp
theorem over_by_eq (hp : Bt a p) (hq : Bt b q) (h : a + b < 9000) (h0 : q ≠ 0) : L.over_by (fr p) (fr q) = pure (fr (p / q)) := by
  unfold L.over_by
  simp only [fr_0, fr_1, pure_bind']
  rw [mulI hp.1 (den_abs hq) (by omega), pure_bind', mulI (den_abs hp) hq.1 (by omega), pure_bind',
    made_by_eq _ _ (big_le (nd_mul hp hq) (by omega)) (big_le (dn_mul hp hq) (by omega)) (Int.mul_ne_zero (den_ne p) (mt Rat.num_eq_zero.mp h0)), div_divInt]
  simp
theorem lt_iff_cross (p q : Rat) : p.num * q.den < q.num * p.den ↔ p < q := (Rat.lt_iff p q).symm
theorem less_by_eq (hp : Bt a p) (hq : Bt b q) (h : a + b < 9000) : L.less_by (fr p) (fr q) = pure (.bool (decide (p < q))) := by
  unfold L.less_by
  simp only [fr_0, fr_1, pure_bind']
  rw [mulI hp.1 (den_abs hq) (by omega), pure_bind', mulI hq.1 (den_abs hp) (by omega), pure_bind', lt_int]
  simp only [ofB_pure, pure_bind', fin_rt, frame_pure]
  have e : decide (p.num * q.den < q.num * p.den) = decide (p < q) := by rw [decide_eq_decide]; exact lt_iff_cross p q
  rw [e]
theorem law_add_eq (hp : Bt a p) (hq : Bt b q) (h : a + b < 9000) : L.law_add (fr p) (fr q) = pure (fr (p + q)) := by
  unfold L.law_add
  simp only [fr_0, fr_1, pure_bind']
  rw [mulI hp.1 (den_abs hq) (by omega), pure_bind', mulI hq.1 (den_abs hp) (by omega), pure_bind', add_int, pure_bind', mulI (den_abs hp) (den_abs hq) (by omega), pure_bind',
    low_eq _ _ (big_le (add_num hp hq) (by omega)) (big_le (den_mul hp hq) (by omega)) (den_mul_ne p q), add_divInt]
  simp
theorem law_mul_eq (hp : Bt a p) (hq : Bt b q) (h : a + b < 9000) : L.law_mul (fr p) (fr q) = pure (fr (p * q)) := by
  unfold L.law_mul
  simp only [fr_0, fr_1, pure_bind']
  rw [mulI hp.1 hq.1 (by omega), pure_bind', mulI (den_abs hp) (den_abs hq) (by omega), pure_bind',
    low_eq _ _ (big_le (num_mul hp hq) (by omega)) (big_le (den_mul hp hq) (by omega)) (den_mul_ne p q), mul_divInt]
  simp
theorem law_div_eq (hp : Bt a p) (hq : Bt b q) (h : a + b < 9000) (h0 : q ≠ 0) : L.law_div (fr p) (fr q) = pure (fr (p / q)) := by
  unfold L.law_div
  simp only [fr_0, fr_1, pure_bind']
  rw [mulI hp.1 (den_abs hq) (by omega), pure_bind', mulI (den_abs hp) hq.1 (by omega), pure_bind',
    low_eq _ _ (big_le (nd_mul hp hq) (by omega)) (big_le (dn_mul hp hq) (by omega)) (Int.mul_ne_zero (den_ne p) (mt Rat.num_eq_zero.mp h0)), div_divInt]
  simp
theorem law_neg_eq (q : Rat) : L.law_neg (fr q) = pure (fr (-q)) := by
  unfold L.law_neg
  simp only [fr_0, fr_1, pure_bind', sub_int, tupK_2, fin_rt, frame_pure]
  unfold fr
  rw [neg_num, neg_den, Int.zero_sub]
theorem lenOk_fr (q : Rat) : lenOk (fr q) := by simp [lenOk, fr]
theorem sm2_fr (hp : Bt a p) (h : a ≤ 9000) : sm2 (fr p) := ⟨big_le hp.1 h, big_le (den_abs hp) h⟩
theorem is_fraction_fr (hp : Bt a p) (h : a ≤ 9000) : L.is_fraction (fr p) = pure (.bool true) := by rw [is_fraction_eq _ (lenOk_fr p) (sm2_fr hp h), isFr_fr]
theorem need_fraction_fr (hp : Bt a p) (h : a ≤ 9000) : L.need_fraction (fr p) = pure .none := by
  unfold L.need_fraction
  rw [is_fraction_fr hp h]; simp
theorem need_two_fr (hp : Bt a p) (hq : Bt b q) (h : a ≤ 9000) (h2 : b ≤ 9000) : L.need_two (fr p) (fr q) = pure .none := by
  unfold L.need_two
  rw [need_fraction_fr hp h, need_fraction_fr hq h2]; simp
theorem plus_eq (hp : Bt a p) (hq : Bt b q) (h : a + b < 9000) : L.plus (fr p) (fr q) = pure (fr (p + q)) := by
  unfold L.plus; rw [need_two_fr hp hq (by omega) (by omega), plus_by_eq hp hq h]; simp
theorem minus_eq (hp : Bt a p) (hq : Bt b q) (h : a + b < 9000) : L.minus (fr p) (fr q) = pure (fr (p - q)) := by
  unfold L.minus; rw [need_two_fr hp hq (by omega) (by omega), minus_by_eq hp hq h]; simp
theorem times_eq (hp : Bt a p) (hq : Bt b q) (h : a + b < 9000) : L.times (fr p) (fr q) = pure (fr (p * q)) := by
  unfold L.times; rw [need_two_fr hp hq (by omega) (by omega), times_by_eq hp hq h]; simp
theorem less_eq (hp : Bt a p) (hq : Bt b q) (h : a + b < 9000) : L.less (fr p) (fr q) = pure (.bool (decide (p < q))) := by
  unfold L.less; rw [need_two_fr hp hq (by omega) (by omega), less_by_eq hp hq h]; simp
theorem nought_fr : (.tuple [.int 0, .int 1] : PyData) = fr 0 := rfl
theorem one_fr : (.tuple [.int 1, .int 1] : PyData) = fr 1 := rfl
theorem fr_inj {p q : Rat} (h : fr p = fr q) : p = q := by
  unfold fr at h
  injection h with h
  injection h with h1 h2
  injection h2 with h2 _
  injection h1 with h1
  injection h2 with h2
  exact Rat.ext h1 (by omega)
theorem eq_fr (p q : Rat) : eqM (fr p) (fr q) = pure (decide (p = q)) := by
  unfold fr
  rw [eq_pair]
  congr 1
  by_cases h : p = q
  · subst h; simp
  · rw [decide_eq_false h, Bool.and_eq_false_iff]
    by_cases h1 : p.num = q.num
    · right
      refine decide_eq_false fun h2 => h (Rat.ext h1 (by omega))
    · left; exact decide_eq_false h1
theorem ne_fr (p q : Rat) : neM (fr p) (fr q) = pure (!decide (p = q)) := by
  have h := eq_fr p q
  have : neM (fr p) (fr q) = (eqM (fr p) (fr q) >>= fun b => pure (!b)) := rfl
  rw [this, h]; rfl
theorem over_eq (hp : Bt a p) (hq : Bt b q) (h : a + b < 9000) (h0 : q ≠ 0) : L.over (fr p) (fr q) = pure (fr (p / q)) := by
  unfold L.over; rw [need_two_fr hp hq (by omega) (by omega), nought_fr, eq_fr, decide_eq_false h0, over_by_eq hp hq h h0]; simp
end
end V
namespace V
open PySem PySem.Spec ZL L2
/-- the law's loop over the cells of its script -/
theorem law_cells {β : Type} {n : Nat} (ns : List Int) (h63 : ns.length ≤ 63) (most : Int) {body : List PyData → M (Fl Unit Unit)} {k : Fl Unit Unit → M β} {Q : β → Cells → Prop} (hb : ∀ (i : Nat) st, GoodSt st → Tr (AtL n) (body st) fun f s => f = .nx () ∧ Ln (n + 1) s) (hk : Tr (Ln (n + 1)) (k (.nx ())) Q) :
    Tr (Ln (n + 1)) (rangeM (.int 0) (.int (max 1 (min (ns.length : Int) most))) >>= fun xs => V.forM pN (fun u5 (_ : Unit) => callL (sub [] (L.law_state (.list (ns.map PyData.int)) u5)) >>= fun st => setC 0 st >>= fun _ => body st) xs () >>= k) Q := by
  obtain ⟨m, em⟩ : ∃ m : Int, m = max 1 (min (ns.length : Int) most) := ⟨_, rfl⟩
  have hm : m < 2 ^ 62 := by omega
  · have r1 : rangeM (.int 0) (.int m) = pure (rangeD 0 m.toNat) := by
      show ofO (if _ then _ else _) = _
      rw [if_pos (by simp; omega)]; simp
    rw [← em, r1, pure_bind']
    refine Tr.for0 (Ln (n + 1)) (fun x hx => ?_) hk
    obtain ⟨i, rfl⟩ : ∃ i : Nat, x = .int (i : Int) := by
      simp only [rangeD, List.mem_map] at hx
      obtain ⟨i, _, rfl⟩ := hx
      exact ⟨i, by simp⟩
    refine ⟨_, rfl, ?_⟩
    obtain ⟨st, g, es⟩ := state_eq ns i (by omega)
    rw [es, sub_pure, show callL (pure (PyData.list st)) = pure st from rfl, pure_bind']
    exact Ln.set0 g (hb i st g)
end V

set_option exponentiation.threshold 100
namespace K
open PySem PySem.Spec PyProof.Rows L2 ZL V
def topS (i : Nat) : Stmt := PySem.Challenge.pw_platerest_k04_whole_fractions_together.main.body.getD i (.Pass ⟨0, 0, 0, 0⟩)
abbrev s_is_whole : Stmt := topS 6
def N_is_whole : List Str := ["thing"]
theorem sc_is_whole : FnScope N_is_whole ["thing"] (defScope s_is_whole) := ⟨rfl, rfl, rfl, by decide +kernel, rfl, by decide +kernel, by decide +kernel⟩
abbrev s_divisor : Stmt := topS 7
def N_divisor : List Str := ["one", "other"]
theorem sc_divisor : FnScope N_divisor ["one", "other"] (defScope s_divisor) := ⟨rfl, rfl, rfl, by decide +kernel, rfl, by decide +kernel, by decide +kernel⟩
abbrev s_is_fraction : Stmt := topS 8
def N_is_fraction : List Str := ["thing", "part"]
theorem sc_is_fraction : FnScope N_is_fraction ["thing"] (defScope s_is_fraction) := ⟨rfl, rfl, rfl, by decide +kernel, rfl, by decide +kernel, by decide +kernel⟩
abbrev s_need_whole : Stmt := topS 9
def N_need_whole : List Str := ["thing"]
theorem sc_need_whole : FnScope N_need_whole ["thing"] (defScope s_need_whole) := ⟨rfl, rfl, rfl, by decide +kernel, rfl, by decide +kernel, by decide +kernel⟩
abbrev s_need_fraction : Stmt := topS 10
def N_need_fraction : List Str := ["thing"]
theorem sc_need_fraction : FnScope N_need_fraction ["thing"] (defScope s_need_fraction) := ⟨rfl, rfl, rfl, by decide +kernel, rfl, by decide +kernel, by decide +kernel⟩
abbrev s_made_by : Stmt := topS 11
def N_made_by : List Str := ["top", "bottom", "by"]
theorem sc_made_by : FnScope N_made_by ["top", "bottom"] (defScope s_made_by) := ⟨rfl, rfl, rfl, by decide +kernel, rfl, by decide +kernel, by decide +kernel⟩
abbrev s_plus_by : Stmt := topS 12
def N_plus_by : List Str := ["one", "other"]
theorem sc_plus_by : FnScope N_plus_by ["one", "other"] (defScope s_plus_by) := ⟨rfl, rfl, rfl, by decide +kernel, rfl, by decide +kernel, by decide +kernel⟩
abbrev s_minus_by : Stmt := topS 13
def N_minus_by : List Str := ["one", "other"]
theorem sc_minus_by : FnScope N_minus_by ["one", "other"] (defScope s_minus_by) := ⟨rfl, rfl, rfl, by decide +kernel, rfl, by decide +kernel, by decide +kernel⟩
abbrev s_times_by : Stmt := topS 14
def N_times_by : List Str := ["one", "other"]
theorem sc_times_by : FnScope N_times_by ["one", "other"] (defScope s_times_by) := ⟨rfl, rfl, rfl, by decide +kernel, rfl, by decide +kernel, by decide +kernel⟩
abbrev s_over_by : Stmt := topS 15
def N_over_by : List Str := ["one", "other"]
theorem sc_over_by : FnScope N_over_by ["one", "other"] (defScope s_over_by) := ⟨rfl, rfl, rfl, by decide +kernel, rfl, by decide +kernel, by decide +kernel⟩
abbrev s_less_by : Stmt := topS 16
def N_less_by : List Str := ["one", "other"]
theorem sc_less_by : FnScope N_less_by ["one", "other"] (defScope s_less_by) := ⟨rfl, rfl, rfl, by decide +kernel, rfl, by decide +kernel, by decide +kernel⟩
abbrev s_made : Stmt := topS 17
def N_made : List Str := ["top", "bottom"]
theorem sc_made : FnScope N_made ["top", "bottom"] (defScope s_made) := ⟨rfl, rfl, rfl, by decide +kernel, rfl, by decide +kernel, by decide +kernel⟩
abbrev s_need_two : Stmt := topS 18
def N_need_two : List Str := ["one", "other"]
theorem sc_need_two : FnScope N_need_two ["one", "other"] (defScope s_need_two) := ⟨rfl, rfl, rfl, by decide +kernel, rfl, by decide +kernel, by decide +kernel⟩
abbrev s_plus : Stmt := topS 19
def N_plus : List Str := ["one", "other"]
theorem sc_plus : FnScope N_plus ["one", "other"] (defScope s_plus) := ⟨rfl, rfl, rfl, by decide +kernel, rfl, by decide +kernel, by decide +kernel⟩
abbrev s_minus : Stmt := topS 20
def N_minus : List Str := ["one", "other"]
theorem sc_minus : FnScope N_minus ["one", "other"] (defScope s_minus) := ⟨rfl, rfl, rfl, by decide +kernel, rfl, by decide +kernel, by decide +kernel⟩
abbrev s_times : Stmt := topS 21
def N_times : List Str := ["one", "other"]
theorem sc_times : FnScope N_times ["one", "other"] (defScope s_times) := ⟨rfl, rfl, rfl, by decide +kernel, rfl, by decide +kernel, by decide +kernel⟩
abbrev s_over : Stmt := topS 22
def N_over : List Str := ["one", "other"]
theorem sc_over : FnScope N_over ["one", "other"] (defScope s_over) := ⟨rfl, rfl, rfl, by decide +kernel, rfl, by decide +kernel, by decide +kernel⟩
abbrev s_less : Stmt := topS 23
def N_less : List Str := ["one", "other"]
theorem sc_less : FnScope N_less ["one", "other"] (defScope s_less) := ⟨rfl, rfl, rfl, by decide +kernel, rfl, by decide +kernel, by decide +kernel⟩
abbrev s__law_cell_at : Stmt := topS 25
def N__law_cell_at : List Str := ["_law_script", "_law_k"]
theorem sc__law_cell_at : FnScope N__law_cell_at ["_law_script", "_law_k"] (defScope s__law_cell_at) := ⟨rfl, rfl, rfl, by decide +kernel, rfl, by decide +kernel, by decide +kernel⟩
abbrev s__law_state : Stmt := topS 26
def N__law_state : List Str := ["_law_script", "_law_k", "_law_cell"]
theorem sc__law_state : FnScope N__law_state ["_law_script", "_law_k"] (defScope s__law_state) := ⟨rfl, rfl, rfl, by decide +kernel, rfl, by decide +kernel, by decide +kernel⟩
abbrev s__law_choice : Stmt := topS 27
def N__law_choice : List Str := ["_law_state_here", "_law_many", "_law_mixed", "_law_found"]
theorem sc__law_choice : FnScope N__law_choice ["_law_state_here", "_law_many"] (defScope s__law_choice) := ⟨rfl, rfl, rfl, by decide +kernel, rfl, by decide +kernel, by decide +kernel⟩
abbrev s__law_low : Stmt := topS 28
def N__law_low : List Str := ["_law_top", "_law_bottom", "_law_one", "_law_other"]
theorem sc__law_low : FnScope N__law_low ["_law_top", "_law_bottom"] (defScope s__law_low) := ⟨rfl, rfl, rfl, by decide +kernel, rfl, by decide +kernel, by decide +kernel⟩
abbrev s__law_fraction : Stmt := topS 29
def N__law_fraction : List Str := ["_law_state_here", "_law_top", "_law_way"]
theorem sc__law_fraction : FnScope N__law_fraction ["_law_state_here"] (defScope s__law_fraction) := ⟨rfl, rfl, rfl, by decide +kernel, rfl, by decide +kernel, by decide +kernel⟩
abbrev s__law_great : Stmt := topS 30
def N__law_great : List Str := ["_law_state_here"]
theorem sc__law_great : FnScope N__law_great ["_law_state_here"] (defScope s__law_great) := ⟨rfl, rfl, rfl, by decide +kernel, rfl, by decide +kernel, by decide +kernel⟩
abbrev s__law_ring_right : Stmt := topS 31
def N__law_ring_right : List Str := ["_law_a", "_law_b", "_law_c", "_law_one"]
theorem sc__law_ring_right : FnScope N__law_ring_right ["_law_a", "_law_b", "_law_c"] (defScope s__law_ring_right) := ⟨rfl, rfl, rfl, by decide +kernel, rfl, by decide +kernel, by decide +kernel⟩
abbrev s__law_order_right : Stmt := topS 32
def N__law_order_right : List Str := ["_law_a", "_law_b", "_law_c"]
theorem sc__law_order_right : FnScope N__law_order_right ["_law_a", "_law_b", "_law_c"] (defScope s__law_order_right) := ⟨rfl, rfl, rfl, by decide +kernel, rfl, by decide +kernel, by decide +kernel⟩
abbrev s_law : Stmt := topS 33
def N_law : List Str := ["_law_script", "_law_k", "_law_state_here", "_law_turn", "_law_some", "_law_at", "_law_a", "_law_b", "_law_c"]
theorem sc_law : FnScope N_law ["_law_script"] (defScope s_law) := ⟨rfl, rfl, rfl, by decide +kernel, rfl, by decide +kernel, by decide +kernel⟩
theorem bv_abs : bootBuiltins "abs" = some (.builtin "abs") := by decide +kernel
theorem bv_all : bootBuiltins "all" = some (.builtin "all") := by decide +kernel
theorem bv_int : bootBuiltins "int" = some (.type "int") := by decide +kernel
theorem bv_len : bootBuiltins "len" = some (.builtin "len") := by decide +kernel
theorem bv_max : bootBuiltins "max" = some (.builtin "max") := by decide +kernel
theorem bv_min : bootBuiltins "min" = some (.builtin "min") := by decide +kernel
theorem bv_tuple : bootBuiltins "tuple" = some (.type "tuple") := by decide +kernel
structure Txt (K : PySem.W.Frag) (mg : Str → Option Value) where
  a_is_whole : Addr
  fd_is_whole : FuncData
  F_is_whole : FunD K "is_whole" "is_whole" (defArgs s_is_whole) (defBody s_is_whole) (defScope s_is_whole) [] [] a_is_whole fd_is_whole
  b_is_whole : Binds K fd_is_whole ["thing"] []
  m_is_whole : mg "is_whole" = some (.ref a_is_whole)
  a_divisor : Addr
  fd_divisor : FuncData
  F_divisor : FunD K "divisor" "divisor" (defArgs s_divisor) (defBody s_divisor) (defScope s_divisor) [] [] a_divisor fd_divisor
  b_divisor : Binds K fd_divisor ["one", "other"] []
  m_divisor : mg "divisor" = some (.ref a_divisor)
  a_is_fraction : Addr
  fd_is_fraction : FuncData
  F_is_fraction : FunD K "is_fraction" "is_fraction" (defArgs s_is_fraction) (defBody s_is_fraction) (defScope s_is_fraction) [] [] a_is_fraction fd_is_fraction
  b_is_fraction : Binds K fd_is_fraction ["thing"] []
  m_is_fraction : mg "is_fraction" = some (.ref a_is_fraction)
  a_need_whole : Addr
  fd_need_whole : FuncData
  F_need_whole : FunD K "need_whole" "need_whole" (defArgs s_need_whole) (defBody s_need_whole) (defScope s_need_whole) [] [] a_need_whole fd_need_whole
  b_need_whole : Binds K fd_need_whole ["thing"] []
  m_need_whole : mg "need_whole" = some (.ref a_need_whole)
  a_need_fraction : Addr
  fd_need_fraction : FuncData
  F_need_fraction : FunD K "need_fraction" "need_fraction" (defArgs s_need_fraction) (defBody s_need_fraction) (defScope s_need_fraction) [] [] a_need_fraction fd_need_fraction
  b_need_fraction : Binds K fd_need_fraction ["thing"] []
  m_need_fraction : mg "need_fraction" = some (.ref a_need_fraction)
  a_made_by : Addr
  fd_made_by : FuncData
  F_made_by : FunD K "made_by" "made_by" (defArgs s_made_by) (defBody s_made_by) (defScope s_made_by) [] [] a_made_by fd_made_by
  b_made_by : Binds K fd_made_by ["top", "bottom"] []
  m_made_by : mg "made_by" = some (.ref a_made_by)
  a_plus_by : Addr
  fd_plus_by : FuncData
  F_plus_by : FunD K "plus_by" "plus_by" (defArgs s_plus_by) (defBody s_plus_by) (defScope s_plus_by) [] [] a_plus_by fd_plus_by
  b_plus_by : Binds K fd_plus_by ["one", "other"] []
  m_plus_by : mg "plus_by" = some (.ref a_plus_by)
  a_minus_by : Addr
  fd_minus_by : FuncData
  F_minus_by : FunD K "minus_by" "minus_by" (defArgs s_minus_by) (defBody s_minus_by) (defScope s_minus_by) [] [] a_minus_by fd_minus_by
  b_minus_by : Binds K fd_minus_by ["one", "other"] []
  m_minus_by : mg "minus_by" = some (.ref a_minus_by)
  a_times_by : Addr
  fd_times_by : FuncData
  F_times_by : FunD K "times_by" "times_by" (defArgs s_times_by) (defBody s_times_by) (defScope s_times_by) [] [] a_times_by fd_times_by
  b_times_by : Binds K fd_times_by ["one", "other"] []
  m_times_by : mg "times_by" = some (.ref a_times_by)
  a_over_by : Addr
  fd_over_by : FuncData
  F_over_by : FunD K "over_by" "over_by" (defArgs s_over_by) (defBody s_over_by) (defScope s_over_by) [] [] a_over_by fd_over_by
  b_over_by : Binds K fd_over_by ["one", "other"] []
  m_over_by : mg "over_by" = some (.ref a_over_by)
  a_less_by : Addr
  fd_less_by : FuncData
  F_less_by : FunD K "less_by" "less_by" (defArgs s_less_by) (defBody s_less_by) (defScope s_less_by) [] [] a_less_by fd_less_by
  b_less_by : Binds K fd_less_by ["one", "other"] []
  m_less_by : mg "less_by" = some (.ref a_less_by)
  a_made : Addr
  fd_made : FuncData
  F_made : FunD K "made" "made" (defArgs s_made) (defBody s_made) (defScope s_made) [.int 1] [] a_made fd_made
  m_made : mg "made" = some (.ref a_made)
  a_need_two : Addr
  fd_need_two : FuncData
  F_need_two : FunD K "need_two" "need_two" (defArgs s_need_two) (defBody s_need_two) (defScope s_need_two) [] [] a_need_two fd_need_two
  b_need_two : Binds K fd_need_two ["one", "other"] []
  m_need_two : mg "need_two" = some (.ref a_need_two)
  a_plus : Addr
  fd_plus : FuncData
  F_plus : FunD K "plus" "plus" (defArgs s_plus) (defBody s_plus) (defScope s_plus) [] [] a_plus fd_plus
  b_plus : Binds K fd_plus ["one", "other"] []
  m_plus : mg "plus" = some (.ref a_plus)
  a_minus : Addr
  fd_minus : FuncData
  F_minus : FunD K "minus" "minus" (defArgs s_minus) (defBody s_minus) (defScope s_minus) [] [] a_minus fd_minus
  b_minus : Binds K fd_minus ["one", "other"] []
  m_minus : mg "minus" = some (.ref a_minus)
  a_times : Addr
  fd_times : FuncData
  F_times : FunD K "times" "times" (defArgs s_times) (defBody s_times) (defScope s_times) [] [] a_times fd_times
  b_times : Binds K fd_times ["one", "other"] []
  m_times : mg "times" = some (.ref a_times)
  a_over : Addr
  fd_over : FuncData
  F_over : FunD K "over" "over" (defArgs s_over) (defBody s_over) (defScope s_over) [] [] a_over fd_over
  b_over : Binds K fd_over ["one", "other"] []
  m_over : mg "over" = some (.ref a_over)
  a_less : Addr
  fd_less : FuncData
  F_less : FunD K "less" "less" (defArgs s_less) (defBody s_less) (defScope s_less) [] [] a_less fd_less
  b_less : Binds K fd_less ["one", "other"] []
  m_less : mg "less" = some (.ref a_less)
  a__law_cell_at : Addr
  fd__law_cell_at : FuncData
  F__law_cell_at : FunD K "_law_cell_at" "_law_cell_at" (defArgs s__law_cell_at) (defBody s__law_cell_at) (defScope s__law_cell_at) [] [] a__law_cell_at fd__law_cell_at
  b__law_cell_at : Binds K fd__law_cell_at ["_law_script", "_law_k"] []
  m__law_cell_at : mg "_law_cell_at" = some (.ref a__law_cell_at)
  a__law_state : Addr
  fd__law_state : FuncData
  F__law_state : FunD K "_law_state" "_law_state" (defArgs s__law_state) (defBody s__law_state) (defScope s__law_state) [] [] a__law_state fd__law_state
  b__law_state : Binds K fd__law_state ["_law_script", "_law_k"] []
  m__law_state : mg "_law_state" = some (.ref a__law_state)
  a__law_choice : Addr
  fd__law_choice : FuncData
  F__law_choice : FunD K "_law_choice" "_law_choice" (defArgs s__law_choice) (defBody s__law_choice) (defScope s__law_choice) [] [] a__law_choice fd__law_choice
  b__law_choice : Binds K fd__law_choice ["_law_state_here", "_law_many"] []
  m__law_choice : mg "_law_choice" = some (.ref a__law_choice)
  a__law_low : Addr
  fd__law_low : FuncData
  F__law_low : FunD K "_law_low" "_law_low" (defArgs s__law_low) (defBody s__law_low) (defScope s__law_low) [] [] a__law_low fd__law_low
  b__law_low : Binds K fd__law_low ["_law_top", "_law_bottom"] []
  m__law_low : mg "_law_low" = some (.ref a__law_low)
  a__law_fraction : Addr
  fd__law_fraction : FuncData
  F__law_fraction : FunD K "_law_fraction" "_law_fraction" (defArgs s__law_fraction) (defBody s__law_fraction) (defScope s__law_fraction) [] [] a__law_fraction fd__law_fraction
  b__law_fraction : Binds K fd__law_fraction ["_law_state_here"] []
  m__law_fraction : mg "_law_fraction" = some (.ref a__law_fraction)
  a__law_great : Addr
  fd__law_great : FuncData
  F__law_great : FunD K "_law_great" "_law_great" (defArgs s__law_great) (defBody s__law_great) (defScope s__law_great) [] [] a__law_great fd__law_great
  b__law_great : Binds K fd__law_great ["_law_state_here"] []
  m__law_great : mg "_law_great" = some (.ref a__law_great)
  a__law_ring_right : Addr
  fd__law_ring_right : FuncData
  F__law_ring_right : FunD K "_law_ring_right" "_law_ring_right" (defArgs s__law_ring_right) (defBody s__law_ring_right) (defScope s__law_ring_right) [] [] a__law_ring_right fd__law_ring_right
  b__law_ring_right : Binds K fd__law_ring_right ["_law_a", "_law_b", "_law_c"] []
  m__law_ring_right : mg "_law_ring_right" = some (.ref a__law_ring_right)
  a__law_order_right : Addr
  fd__law_order_right : FuncData
  F__law_order_right : FunD K "_law_order_right" "_law_order_right" (defArgs s__law_order_right) (defBody s__law_order_right) (defScope s__law_order_right) [] [] a__law_order_right fd__law_order_right
  b__law_order_right : Binds K fd__law_order_right ["_law_a", "_law_b", "_law_c"] []
  m__law_order_right : mg "_law_order_right" = some (.ref a__law_order_right)
  a_law : Addr
  fd_law : FuncData
  F_law : FunD K "law" "law" (defArgs s_law) (defBody s_law) (defScope s_law) [] [] a_law fd_law
  b_law : Binds K fd_law ["_law_script"] []
  m_law : mg "law" = some (.ref a_law)
  bk_made_1 : ZBn K fd_made ["top", "bottom"] 1 [] (gSel [0, 1] (List.map Z.d [(.int 1)]))
  n_abs : mg "abs" = none
  n_all : mg "all" = none
  n_bool : mg "bool" = none
  n_int : mg "int" = none
  n_isinstance : mg "isinstance" = none
  n_len : mg "len" = none
  n_max : mg "max" = none
  n_min : mg "min" = none
  n_range : mg "range" = none
  n_tuple : mg "tuple" = none
  e_NoFraction : Addr
  m_NoFraction : mg "NoFraction" = some (.ref e_NoFraction)
  x_NoFraction : PySem.W.excIn K e_NoFraction [.type "ValueError", .type "Exception", .type "BaseException", .type "object"] "ValueError.__new__" = true
  k_NoFraction : PySem.W.keepIn K (.ref e_NoFraction) = true
  s_NoFraction : PySem.W.subIn K (.ref e_NoFraction) (.type "BaseException") = some true
  t_NoFraction : PySem.W.typeIn K (.ref e_NoFraction) = some (.type "type")
  e_NoWhole : Addr
  m_NoWhole : mg "NoWhole" = some (.ref e_NoWhole)
  x_NoWhole : PySem.W.excIn K e_NoWhole [.type "ValueError", .type "Exception", .type "BaseException", .type "object"] "ValueError.__new__" = true
  k_NoWhole : PySem.W.keepIn K (.ref e_NoWhole) = true
  s_NoWhole : PySem.W.subIn K (.ref e_NoWhole) (.type "BaseException") = some true
  t_NoWhole : PySem.W.typeIn K (.ref e_NoWhole) = some (.type "type")
  g_NOUGHT : ∀ {X : Cx} {B : Bs} {p : Pos}, X.K = K → X.mg = mg → Gl X "NOUGHT" → ZE X B (.Name "NOUGHT" p) (zC (.d (.tuple [(.int 0), (.int 1)])))
section
variable {P : Program} {w : World} {K : PySem.W.Frag} {mg : Str → Option Value} {base : Heap} (T : Txt K mg)
def F_is_whole : List PyData → M PyData
  | [a0] => L.is_whole a0
  | _ => bad
theorem ok_is_whole : ZFn P w K mg base 1 T.a_is_whole T.fd_is_whole ["thing"] (VSp mg [.d] false F_is_whole) :=
  vfnD T.F_is_whole sc_is_whole rfl fun cdv A outer s H E S Ez hG hr tk ps0 gl ds hd => match ds, hd with
    | [a0], _ => ⟨0, _, rfl, (s_ret (f_and (f_isi .int T.n_isinstance (pe_ty .int T.n_int) (fl_at (f_v 0) fl_nil)) (f_one (f_not (f_isi .bool T.n_isinstance (pe_ty .bool T.n_bool) (fl_at (f_v 0) fl_nil))))))⟩
def F_divisor : List PyData → M PyData
  | [a0, a1] => L.divisor a0 a1
  | _ => bad
theorem ok_divisor : ZFn P w K mg base 1 T.a_divisor T.fd_divisor ["one", "other"] (VSp mg [.d, .d] false F_divisor) :=
  vfnD T.F_divisor sc_divisor rfl fun cdv A outer s H E S Ez hG hr tk ps0 gl ds hd => match ds, hd with
    | [a0, a1], _ => ⟨0, _, rfl, (s_par (i := 0) (j := 1) sc_divisor.nd (fa_cons (f_callB zabs v_abs T.n_abs bv_abs (fa_at (f_v 0) fa_nil)) (fun x8 => (fa_cons (f_callB zabs v_abs T.n_abs bv_abs (fa_at (f_v 1) fa_nil)) (fun x9 => fa_nil)))) (fun u1 => (s_while (emb1 := fun (t2 : PyData × PyData) => [some (.d t2.1), some (.d t2.2)]) (passes_of rfl) (fun t2 => (t_cmp zgt o_gt (fl_at (f_v 1) (fl_at f_int fl_nil)))) (fun t2 => (s_par (i := 0) (j := 1) sc_divisor.nd (fa_at (f_v 1) (fa_cons (f_sub (fl_at (f_v 0) (fl_cons (f_mul (fl_cons (f_fdiv (fl_at (f_v 0) (fl_at (f_v 1) fl_nil))) (fun x4 => (fl_at (f_v 1) fl_nil)))) (fun x5 => fl_nil)))) (fun x6 => fa_nil))) (fun u3 => (s_end (Fg.of ⟨rfl, rfl, trivial⟩))))) (Fg.of ⟨rfl, rfl, trivial⟩) (fun t2 => (s_ret (f_v 0))))))⟩
def F_is_fraction : List PyData → M PyData
  | [a0] => L.is_fraction a0
  | _ => bad
theorem ok_is_fraction : ZFn P w K mg base 2 T.a_is_fraction T.fd_is_fraction ["thing"] (VSp mg [.d] false F_is_fraction) :=
  vfnD T.F_is_fraction sc_is_fraction rfl fun cdv A outer s H E S Ez hG hr tk ps0 gl ds hd => match ds, hd with
    | [a0], _ => ⟨0, _, rfl, (s_if (w_or (t_not (t_val (f_isi .tuple T.n_isinstance (pe_ty .tuple T.n_tuple) (fl_at (f_v 0) fl_nil)))) (w_or (t_cmp (zne hr) o_ne (fl_cons (f_callB zlen v_len T.n_len bv_len (fa_at (f_v 0) fa_nil)) (fun x6 => (fl_at f_int fl_nil)))) (w_or1 (t_not (t_val (f_callB zall v_all T.n_all bv_all (fa_cons (f_lc sc_is_fraction.nd (i_row (f_v 0)) (blkOk_by (own := [("part", 1)]) (N := N_is_fraction) (sc := defScope s_is_fraction) (by decide +kernel)) (fun _ _ _ _ _ => (zg_name (i := 1) sc_is_fraction.nd)) (go_name (i := 1)) ts_nil (fun _ _ _ _ _ t1 => (f_call (ok_is_whole T) hG (hr.mono (by decide)) T.m_is_whole T.F_is_whole.kp T.b_is_whole tk0 (fa_at (f_v 1) fa_nil)))) (fun x5 => fa_nil)))))))).t (s_ret f_bl) (s_pop (s_ret (f_and (f_cmp zgt o_gt (fl_cons (f_ix (fl_at (f_v 0) (fl_at f_int fl_nil))) (fun x12 => (fl_at f_int fl_nil)))) (f_one (f_cmp (zeq hr) o_eq (fl_cons (f_call (ok_divisor T) hG (hr.mono (by decide)) T.m_divisor T.F_divisor.kp T.b_divisor tk (fa_cons (f_ix (fl_at (f_v 0) (fl_at f_int fl_nil))) (fun x9 => (fa_cons (f_ix (fl_at (f_v 0) (fl_at f_int fl_nil))) (fun x10 => fa_nil))))) (fun x11 => (fl_at f_int fl_nil)))))))))⟩
def F_need_whole : List PyData → M PyData
  | [a0] => L.need_whole a0
  | _ => bad
theorem ok_need_whole : ZFn P w K mg base 2 T.a_need_whole T.fd_need_whole ["thing"] (VSp mg [.d] false F_need_whole) :=
  vfnD T.F_need_whole sc_need_whole rfl fun cdv A outer s H E S Ez hG hr tk ps0 gl ds hd => match ds, hd with
    | [a0], _ => ⟨0, _, rfl, (s_if (t_not (t_val (f_call (ok_is_whole T) hG (hr.mono (by decide)) T.m_is_whole T.F_is_whole.kp T.b_is_whole tk (fa_at (f_v 0) fa_nil)))) (s_raise tk PySem.F.excBase_ValueError T.x_NoWhole T.m_NoWhole T.k_NoWhole (raises_own T.s_NoWhole T.t_NoWhole)) (s_pop s_end0))⟩
def F_need_fraction : List PyData → M PyData
  | [a0] => L.need_fraction a0
  | _ => bad
theorem ok_need_fraction : ZFn P w K mg base 3 T.a_need_fraction T.fd_need_fraction ["thing"] (VSp mg [.d] false F_need_fraction) :=
  vfnD T.F_need_fraction sc_need_fraction rfl fun cdv A outer s H E S Ez hG hr tk ps0 gl ds hd => match ds, hd with
    | [a0], _ => ⟨0, _, rfl, (s_if (t_not (t_val (f_call (ok_is_fraction T) hG (hr.mono (by decide)) T.m_is_fraction T.F_is_fraction.kp T.b_is_fraction tk (fa_at (f_v 0) fa_nil)))) (s_raise tk PySem.F.excBase_ValueError T.x_NoFraction T.m_NoFraction T.k_NoFraction (raises_own T.s_NoFraction T.t_NoFraction)) (s_pop s_end0))⟩
def F_made_by : List PyData → M PyData
  | [a0, a1] => L.made_by a0 a1
  | _ => bad
theorem ok_made_by : ZFn P w K mg base 2 T.a_made_by T.fd_made_by ["top", "bottom"] (VSp mg [.d, .d] false F_made_by) :=
  vfnD T.F_made_by sc_made_by rfl fun cdv A outer s H E S Ez hG hr tk ps0 gl ds hd => match ds, hd with
    | [a0, a1], _ => ⟨0, _, rfl, (s_set 2 sc_made_by.nd (f_call (ok_divisor T) hG (hr.mono (by decide)) T.m_divisor T.F_divisor.kp T.b_divisor tk (fa_at (f_v 0) (fa_at (f_v 1) fa_nil))) (fun v1 => (s_join (emb1 := fun (t3 : PyData) => [some (.d a0), some (.d a1), some (.d t3)]) (t_cmp zlt o_lt (fl_at (f_v 1) (fl_at f_int fl_nil))) (s_set 2 sc_made_by.nd (f_neg (fl_at (f_v 2) fl_nil)) (fun v4 => (s_end (Fg.of ⟨rfl, rfl, rfl, trivial⟩)))) (s_end (Fg.of ⟨rfl, rfl, rfl, trivial⟩)) (fun t3 => (s_ret (f_tup (fa_cons (f_fdiv (fl_at (f_v 0) (fl_at (f_v 2) fl_nil))) (fun x5 => (fa_cons (f_fdiv (fl_at (f_v 1) (fl_at (f_v 2) fl_nil))) (fun x6 => fa_nil))))))))))⟩
def F_plus_by : List PyData → M PyData
  | [a0, a1] => L.plus_by a0 a1
  | _ => bad
theorem ok_plus_by : ZFn P w K mg base 3 T.a_plus_by T.fd_plus_by ["one", "other"] (VSp mg [.d, .d] false F_plus_by) :=
  vfnD T.F_plus_by sc_plus_by rfl fun cdv A outer s H E S Ez hG hr tk ps0 gl ds hd => match ds, hd with
    | [a0, a1], _ => ⟨0, _, rfl, (s_ret (f_call (ok_made_by T) hG (hr.mono (by decide)) T.m_made_by T.F_made_by.kp T.b_made_by tk (fa_cons (f_add (fl_cons (f_mul (fl_cons (f_ix (fl_at (f_v 0) (fl_at f_int fl_nil))) (fun x1 => (fl_cons (f_ix (fl_at (f_v 1) (fl_at f_int fl_nil))) (fun x2 => fl_nil))))) (fun x3 => (fl_cons (f_mul (fl_cons (f_ix (fl_at (f_v 1) (fl_at f_int fl_nil))) (fun x4 => (fl_cons (f_ix (fl_at (f_v 0) (fl_at f_int fl_nil))) (fun x5 => fl_nil))))) (fun x6 => fl_nil))))) (fun x7 => (fa_cons (f_mul (fl_cons (f_ix (fl_at (f_v 0) (fl_at f_int fl_nil))) (fun x8 => (fl_cons (f_ix (fl_at (f_v 1) (fl_at f_int fl_nil))) (fun x9 => fl_nil))))) (fun x10 => fa_nil))))))⟩
def F_minus_by : List PyData → M PyData
  | [a0, a1] => L.minus_by a0 a1
  | _ => bad
theorem ok_minus_by : ZFn P w K mg base 3 T.a_minus_by T.fd_minus_by ["one", "other"] (VSp mg [.d, .d] false F_minus_by) :=
  vfnD T.F_minus_by sc_minus_by rfl fun cdv A outer s H E S Ez hG hr tk ps0 gl ds hd => match ds, hd with
    | [a0, a1], _ => ⟨0, _, rfl, (s_ret (f_call (ok_made_by T) hG (hr.mono (by decide)) T.m_made_by T.F_made_by.kp T.b_made_by tk (fa_cons (f_sub (fl_cons (f_mul (fl_cons (f_ix (fl_at (f_v 0) (fl_at f_int fl_nil))) (fun x1 => (fl_cons (f_ix (fl_at (f_v 1) (fl_at f_int fl_nil))) (fun x2 => fl_nil))))) (fun x3 => (fl_cons (f_mul (fl_cons (f_ix (fl_at (f_v 1) (fl_at f_int fl_nil))) (fun x4 => (fl_cons (f_ix (fl_at (f_v 0) (fl_at f_int fl_nil))) (fun x5 => fl_nil))))) (fun x6 => fl_nil))))) (fun x7 => (fa_cons (f_mul (fl_cons (f_ix (fl_at (f_v 0) (fl_at f_int fl_nil))) (fun x8 => (fl_cons (f_ix (fl_at (f_v 1) (fl_at f_int fl_nil))) (fun x9 => fl_nil))))) (fun x10 => fa_nil))))))⟩
def F_times_by : List PyData → M PyData
  | [a0, a1] => L.times_by a0 a1
  | _ => bad
theorem ok_times_by : ZFn P w K mg base 3 T.a_times_by T.fd_times_by ["one", "other"] (VSp mg [.d, .d] false F_times_by) :=
  vfnD T.F_times_by sc_times_by rfl fun cdv A outer s H E S Ez hG hr tk ps0 gl ds hd => match ds, hd with
    | [a0, a1], _ => ⟨0, _, rfl, (s_ret (f_call (ok_made_by T) hG (hr.mono (by decide)) T.m_made_by T.F_made_by.kp T.b_made_by tk (fa_cons (f_mul (fl_cons (f_ix (fl_at (f_v 0) (fl_at f_int fl_nil))) (fun x1 => (fl_cons (f_ix (fl_at (f_v 1) (fl_at f_int fl_nil))) (fun x2 => fl_nil))))) (fun x3 => (fa_cons (f_mul (fl_cons (f_ix (fl_at (f_v 0) (fl_at f_int fl_nil))) (fun x4 => (fl_cons (f_ix (fl_at (f_v 1) (fl_at f_int fl_nil))) (fun x5 => fl_nil))))) (fun x6 => fa_nil))))))⟩
def F_over_by : List PyData → M PyData
  | [a0, a1] => L.over_by a0 a1
  | _ => bad
theorem ok_over_by : ZFn P w K mg base 3 T.a_over_by T.fd_over_by ["one", "other"] (VSp mg [.d, .d] false F_over_by) :=
  vfnD T.F_over_by sc_over_by rfl fun cdv A outer s H E S Ez hG hr tk ps0 gl ds hd => match ds, hd with
    | [a0, a1], _ => ⟨0, _, rfl, (s_ret (f_call (ok_made_by T) hG (hr.mono (by decide)) T.m_made_by T.F_made_by.kp T.b_made_by tk (fa_cons (f_mul (fl_cons (f_ix (fl_at (f_v 0) (fl_at f_int fl_nil))) (fun x1 => (fl_cons (f_ix (fl_at (f_v 1) (fl_at f_int fl_nil))) (fun x2 => fl_nil))))) (fun x3 => (fa_cons (f_mul (fl_cons (f_ix (fl_at (f_v 0) (fl_at f_int fl_nil))) (fun x4 => (fl_cons (f_ix (fl_at (f_v 1) (fl_at f_int fl_nil))) (fun x5 => fl_nil))))) (fun x6 => fa_nil))))))⟩
def F_less_by : List PyData → M PyData
  | [a0, a1] => L.less_by a0 a1
  | _ => bad
theorem ok_less_by : ZFn P w K mg base 1 T.a_less_by T.fd_less_by ["one", "other"] (VSp mg [.d, .d] false F_less_by) :=
  vfnD T.F_less_by sc_less_by rfl fun cdv A outer s H E S Ez hG hr tk ps0 gl ds hd => match ds, hd with
    | [a0, a1], _ => ⟨0, _, rfl, (s_ret (f_cmp zlt o_lt (fl_cons (f_mul (fl_cons (f_ix (fl_at (f_v 0) (fl_at f_int fl_nil))) (fun x1 => (fl_cons (f_ix (fl_at (f_v 1) (fl_at f_int fl_nil))) (fun x2 => fl_nil))))) (fun x3 => (fl_cons (f_mul (fl_cons (f_ix (fl_at (f_v 1) (fl_at f_int fl_nil))) (fun x4 => (fl_cons (f_ix (fl_at (f_v 0) (fl_at f_int fl_nil))) (fun x5 => fl_nil))))) (fun x6 => fl_nil))))))⟩
def F_made : List PyData → M PyData
  | [a0, a1] => L.made a0 a1
  | _ => bad
theorem ok_made : ZFn P w K mg base 3 T.a_made T.fd_made ["top", "bottom"] (VSp mg [.d, .d] false F_made) :=
  vfnD T.F_made sc_made rfl fun cdv A outer s H E S Ez hG hr tk ps0 gl ds hd => match ds, hd with
    | [a0, a1], _ => ⟨0, _, rfl, (s_expr (f_call (ok_need_whole T) hG (hr.mono (by decide)) T.m_need_whole T.F_need_whole.kp T.b_need_whole tk (fa_at (f_v 0) fa_nil)) (fun _u4 => (s_expr (f_call (ok_need_whole T) hG (hr.mono (by decide)) T.m_need_whole T.F_need_whole.kp T.b_need_whole tk (fa_at (f_v 1) fa_nil)) (fun _u3 => (s_if (t_cmp (zeq hr) o_eq (fl_at (f_v 1) (fl_at f_int fl_nil))) (s_raise tk PySem.F.excBase_ValueError T.x_NoWhole T.m_NoWhole T.k_NoWhole (raises_own T.s_NoWhole T.t_NoWhole)) (s_pop (s_ret (f_call (ok_made_by T) hG (hr.mono (by decide)) T.m_made_by T.F_made_by.kp T.b_made_by tk (fa_at (f_v 0) (fa_at (f_v 1) fa_nil))))))))))⟩
def F_need_two : List PyData → M PyData
  | [a0, a1] => L.need_two a0 a1
  | _ => bad
theorem ok_need_two : ZFn P w K mg base 4 T.a_need_two T.fd_need_two ["one", "other"] (VSp mg [.d, .d] false F_need_two) :=
  vfnD T.F_need_two sc_need_two rfl fun cdv A outer s H E S Ez hG hr tk ps0 gl ds hd => match ds, hd with
    | [a0, a1], _ => ⟨0, _, rfl, (s_expr (f_call (ok_need_fraction T) hG (hr.mono (by decide)) T.m_need_fraction T.F_need_fraction.kp T.b_need_fraction tk (fa_at (f_v 0) fa_nil)) (fun _u2 => (s_expr (f_call (ok_need_fraction T) hG (hr.mono (by decide)) T.m_need_fraction T.F_need_fraction.kp T.b_need_fraction tk (fa_at (f_v 1) fa_nil)) (fun _u1 => s_end0))))⟩
def F_plus : List PyData → M PyData
  | [a0, a1] => L.plus a0 a1
  | _ => bad
theorem ok_plus : ZFn P w K mg base 5 T.a_plus T.fd_plus ["one", "other"] (VSp mg [.d, .d] false F_plus) :=
  vfnD T.F_plus sc_plus rfl fun cdv A outer s H E S Ez hG hr tk ps0 gl ds hd => match ds, hd with
    | [a0, a1], _ => ⟨0, _, rfl, (s_expr (f_call (ok_need_two T) hG (hr.mono (by decide)) T.m_need_two T.F_need_two.kp T.b_need_two tk (fa_at (f_v 0) (fa_at (f_v 1) fa_nil))) (fun _u2 => (s_ret (f_call (ok_plus_by T) hG (hr.mono (by decide)) T.m_plus_by T.F_plus_by.kp T.b_plus_by tk (fa_at (f_v 0) (fa_at (f_v 1) fa_nil))))))⟩
def F_minus : List PyData → M PyData
  | [a0, a1] => L.minus a0 a1
  | _ => bad
theorem ok_minus : ZFn P w K mg base 5 T.a_minus T.fd_minus ["one", "other"] (VSp mg [.d, .d] false F_minus) :=
  vfnD T.F_minus sc_minus rfl fun cdv A outer s H E S Ez hG hr tk ps0 gl ds hd => match ds, hd with
    | [a0, a1], _ => ⟨0, _, rfl, (s_expr (f_call (ok_need_two T) hG (hr.mono (by decide)) T.m_need_two T.F_need_two.kp T.b_need_two tk (fa_at (f_v 0) (fa_at (f_v 1) fa_nil))) (fun _u2 => (s_ret (f_call (ok_minus_by T) hG (hr.mono (by decide)) T.m_minus_by T.F_minus_by.kp T.b_minus_by tk (fa_at (f_v 0) (fa_at (f_v 1) fa_nil))))))⟩
def F_times : List PyData → M PyData
  | [a0, a1] => L.times a0 a1
  | _ => bad
theorem ok_times : ZFn P w K mg base 5 T.a_times T.fd_times ["one", "other"] (VSp mg [.d, .d] false F_times) :=
  vfnD T.F_times sc_times rfl fun cdv A outer s H E S Ez hG hr tk ps0 gl ds hd => match ds, hd with
    | [a0, a1], _ => ⟨0, _, rfl, (s_expr (f_call (ok_need_two T) hG (hr.mono (by decide)) T.m_need_two T.F_need_two.kp T.b_need_two tk (fa_at (f_v 0) (fa_at (f_v 1) fa_nil))) (fun _u2 => (s_ret (f_call (ok_times_by T) hG (hr.mono (by decide)) T.m_times_by T.F_times_by.kp T.b_times_by tk (fa_at (f_v 0) (fa_at (f_v 1) fa_nil))))))⟩
def F_over : List PyData → M PyData
  | [a0, a1] => L.over a0 a1
  | _ => bad
theorem ok_over : ZFn P w K mg base 5 T.a_over T.fd_over ["one", "other"] (VSp mg [.d, .d] false F_over) :=
  vfnD T.F_over sc_over rfl fun cdv A outer s H E S Ez hG hr tk ps0 gl ds hd => match ds, hd with
    | [a0, a1], _ => ⟨0, _, rfl, (s_expr (f_call (ok_need_two T) hG (hr.mono (by decide)) T.m_need_two T.F_need_two.kp T.b_need_two tk (fa_at (f_v 0) (fa_at (f_v 1) fa_nil))) (fun _u3 => (s_if (t_cmp (zeq hr) o_eq (fl_at (f_v 1) (fl_at (f_of (T.g_NOUGHT rfl rfl rfl)) fl_nil))) (s_raise tk PySem.F.excBase_ValueError T.x_NoFraction T.m_NoFraction T.k_NoFraction (raises_own T.s_NoFraction T.t_NoFraction)) (s_pop (s_ret (f_call (ok_over_by T) hG (hr.mono (by decide)) T.m_over_by T.F_over_by.kp T.b_over_by tk (fa_at (f_v 0) (fa_at (f_v 1) fa_nil))))))))⟩
def F_less : List PyData → M PyData
  | [a0, a1] => L.less a0 a1
  | _ => bad
theorem ok_less : ZFn P w K mg base 5 T.a_less T.fd_less ["one", "other"] (VSp mg [.d, .d] false F_less) :=
  vfnD T.F_less sc_less rfl fun cdv A outer s H E S Ez hG hr tk ps0 gl ds hd => match ds, hd with
    | [a0, a1], _ => ⟨0, _, rfl, (s_expr (f_call (ok_need_two T) hG (hr.mono (by decide)) T.m_need_two T.F_need_two.kp T.b_need_two tk (fa_at (f_v 0) (fa_at (f_v 1) fa_nil))) (fun _u2 => (s_ret (f_call (ok_less_by T) hG (hr.mono (by decide)) T.m_less_by T.F_less_by.kp T.b_less_by tk (fa_at (f_v 0) (fa_at (f_v 1) fa_nil))))))⟩
def F__law_cell_at : List PyData → M PyData
  | [a0, a1] => L.law_cell_at a0 a1
  | _ => bad
theorem ok__law_cell_at : ZFn P w K mg base 1 T.a__law_cell_at T.fd__law_cell_at ["_law_script", "_law_k"] (VSp mg [.k, .d] false F__law_cell_at) :=
  vfnD T.F__law_cell_at sc__law_cell_at rfl fun cdv A outer s H E S Ez hG hr tk ps0 gl ds hd => match ds, hd with
    | [a0, a1], _ => ⟨0, _, rfl, (s_if (t_cmp zlt o_lt (fl_at (f_v 1) (fl_cons (f_callB zlen v_len T.n_len bv_len (fa_c 0 (.k (unl a0)) fa_nil)) (fun x1 => fl_nil)))) (s_ret (f_ix (fl_c 0 (.k (unl a0)) rfl (fl_at (f_v 1) fl_nil)))) (s_pop (s_ret f_int)))⟩
def F__law_state : List PyData → M PyData
  | [a0, a1] => L.law_state a0 a1
  | _ => bad
theorem ok__law_state : ZFn P w K mg base 2 T.a__law_state T.fd__law_state ["_law_script", "_law_k"] (VSp mg [.k, .d] true F__law_state) :=
  vfnD T.F__law_state sc__law_state rfl fun cdv A outer s H E S Ez hG hr tk ps0 gl ds hd => match ds, hd with
    | [a0, a1], _ => ⟨0, _, rfl, (s_set 2 sc__law_state.nd (f_call (ok__law_cell_at T) hG (hr.mono (by decide)) T.m__law_cell_at T.F__law_cell_at.kp T.b__law_cell_at tk (fa_c 0 (.k (unl a0)) (fa_at (f_v 1) fa_nil))) (fun v1 => (s_retL (n_lst (fa_cons (f_callB zmax v_max T.n_max bv_max (fa_at f_int (fa_cons (f_sub (fl_at (f_v 2) (fl_cons (f_pow (fl_at f_int (fl_at f_int fl_nil))) (fun x2 => fl_nil)))) (fun x3 => fa_nil)))) (fun x4 => (fa_cons (f_add (fl_cons (f_mod (fl_at (f_v 2) (fl_at f_int fl_nil))) (fun x5 => (fl_at f_int fl_nil)))) (fun x6 => (fa_at f_int fa_nil)))))))))⟩
def F__law_choice : List PyData → M PyData
  | [a0] => L.law_choice a0
  | _ => bad
theorem ok__law_choice : ZFn P w K mg base 1 T.a__law_choice T.fd__law_choice ["_law_state_here", "_law_many"] (VSp mg [.c, .d] false F__law_choice) :=
  vfnD T.F__law_choice sc__law_choice rfl fun cdv A outer s H E S Ez hG hr tk ps0 gl ds hd => match ds, hd with
    | [a0], _ => ⟨0, _, rfl, (s_if (t_cmp zgt o_gt (fl_cons (f_ix (fl_c 0 (.c 0) rfl (fl_at f_int fl_nil))) (fun x2 => (fl_at f_int fl_nil)))) (s_set 3 sc__law_choice.nd (f_mod (fl_cons (f_ix (fl_c 0 (.c 0) rfl (fl_at f_int fl_nil))) (fun x6 => (fl_at (f_v 1) fl_nil)))) (fun v4 => (s_sub 0 0 (f_fdiv (fl_cons (f_ix (fl_c 0 (.c 0) rfl (fl_at f_int fl_nil))) (fun x8 => (fl_at (f_v 1) fl_nil)))) f_int (s_ret (f_v 3))))) (s_pop (s_sub 0 0 (f_add (fl_cons (f_ix (fl_c 0 (.c 0) rfl (fl_at f_int fl_nil))) (fun x13 => (fl_at f_int fl_nil)))) f_int (s_sub 0 0 (f_mod (fl_cons (f_add (fl_cons (f_add (fl_cons (f_mul (fl_cons (f_ix (fl_c 0 (.c 0) rfl (fl_at f_int fl_nil))) (fun x15 => (fl_at f_int fl_nil)))) (fun x16 => (fl_at f_int fl_nil)))) (fun x17 => (fl_cons (f_ix (fl_c 0 (.c 0) rfl (fl_at f_int fl_nil))) (fun x19 => fl_nil))))) (fun x20 => (fl_at f_int fl_nil)))) f_int (s_set 2 sc__law_choice.nd (f_mod (fl_cons (f_add (fl_cons (f_add (fl_cons (f_mul (fl_cons (f_ix (fl_c 0 (.c 0) rfl (fl_at f_int fl_nil))) (fun x23 => (fl_cons (f_ix (fl_c 0 (.c 0) rfl (fl_at f_int fl_nil))) (fun x25 => fl_nil))))) (fun x26 => (fl_cons (f_mul (fl_at f_int (fl_cons (f_ix (fl_c 0 (.c 0) rfl (fl_at f_int fl_nil))) (fun x28 => fl_nil)))) (fun x29 => fl_nil))))) (fun x30 => (fl_at f_int fl_nil)))) (fun x31 => (fl_at f_int fl_nil)))) (fun v21 => (s_set 2 sc__law_choice.nd (f_mod (fl_cons (f_add (fl_cons (f_mul (fl_at (f_v 2) (fl_at (f_v 2) fl_nil))) (fun x33 => (fl_cons (f_mul (fl_at f_int (fl_at (f_v 2) fl_nil))) (fun x34 => fl_nil))))) (fun x35 => (fl_at f_int fl_nil)))) (fun v32 => (s_ret (f_mod (fl_cons (f_fdiv (fl_at (f_v 2) (fl_at f_int fl_nil))) (fun x36 => (fl_at (f_v 1) fl_nil)))))))))))))⟩
def F__law_low : List PyData → M PyData
  | [a0, a1] => L.law_low a0 a1
  | _ => bad
theorem ok__law_low : ZFn P w K mg base 1 T.a__law_low T.fd__law_low ["_law_top", "_law_bottom"] (VSp mg [.d, .d] false F__law_low) :=
  vfnD T.F__law_low sc__law_low rfl fun cdv A outer s H E S Ez hG hr tk ps0 gl ds hd => match ds, hd with
    | [a0, a1], _ => ⟨0, _, rfl, (s_par (i := 2) (j := 3) sc__law_low.nd (fa_cons (f_callB zabs v_abs T.n_abs bv_abs (fa_at (f_v 0) fa_nil)) (fun x11 => (fa_cons (f_callB zabs v_abs T.n_abs bv_abs (fa_at (f_v 1) fa_nil)) (fun x12 => fa_nil)))) (fun u1 => (s_while (emb1 := fun (t2 : PyData × PyData) => [some (.d a0), some (.d a1), some (.d t2.1), some (.d t2.2)]) (passes_of rfl) (fun t2 => (t_cmp zgt o_gt (fl_at (f_v 3) (fl_at f_int fl_nil)))) (fun t2 => (s_par (i := 2) (j := 3) sc__law_low.nd (fa_at (f_v 3) (fa_cons (f_mod (fl_at (f_v 2) (fl_at (f_v 3) fl_nil))) (fun x4 => fa_nil))) (fun u3 => (s_end (Fg.of ⟨rfl, rfl, rfl, rfl, trivial⟩))))) (Fg.of ⟨rfl, rfl, rfl, rfl, trivial⟩) (fun t2 => (s_ret (f_tup (fa_cons (f_if (t_cmp zgt o_gt (fl_at (f_v 1) (fl_at f_int fl_nil))) (f_fdiv (fl_at (f_v 0) (fl_at (f_v 2) fl_nil))) (f_sub (fl_at f_int (fl_cons (f_fdiv (fl_at (f_v 0) (fl_at (f_v 2) fl_nil))) (fun x5 => fl_nil))))) (fun x7 => (fa_cons (f_fdiv (fl_cons (f_callB zabs v_abs T.n_abs bv_abs (fa_at (f_v 1) fa_nil)) (fun x8 => (fl_at (f_v 2) fl_nil)))) (fun x9 => fa_nil))))))))))⟩
def F__law_fraction : List PyData → M PyData
  | [] => L.law_fraction
  | _ => bad
theorem ok__law_fraction : ZFn P w K mg base 2 T.a__law_fraction T.fd__law_fraction ["_law_state_here"] (VSp mg [.c] false F__law_fraction) :=
  vfnD T.F__law_fraction sc__law_fraction rfl fun cdv A outer s H E S Ez hG hr tk ps0 gl ds hd => match ds, hd with
    | [], _ => ⟨0, _, rfl, (s_set 1 sc__law_fraction.nd (f_sub (fl_cons (f_call (ok__law_choice T) hG (hr.mono (by decide)) T.m__law_choice T.F__law_choice.kp T.b__law_choice tk (fa_c 0 (.c 0) (fa_at f_int fa_nil))) (fun x2 => (fl_at f_int fl_nil)))) (fun v1 => (s_set 2 sc__law_fraction.nd (f_call (ok__law_choice T) hG (hr.mono (by decide)) T.m__law_choice T.F__law_choice.kp T.b__law_choice tk (fa_c 0 (.c 0) (fa_at f_int fa_nil))) (fun v3 => (s_if (t_cmp zlt o_lt (fl_at (f_v 2) (fl_at f_int fl_nil))) (s_ret (f_ix (fl_cons (f_lst (fa_cons (f_tup (fa_at f_int (fa_at f_int fa_nil))) (fun x5 => (fa_cons (f_tup (fa_at f_int (fa_at f_int fa_nil))) (fun x6 => (fa_cons (f_tup (fa_at (f_v 1) (fa_at f_int fa_nil))) (fun x7 => fa_nil))))))) (fun x8 => (fl_at (f_v 2) fl_nil))))) (s_pop (s_ret (f_call (ok__law_low T) hG (hr.mono (by decide)) T.m__law_low T.F__law_low.kp T.b__law_low tk (fa_cons (f_mul (fl_at (f_v 1) (fl_cons (f_ix (fl_cons (f_lst (fa_at f_int (fa_cons (f_add (fl_cons (f_pow (fl_at f_int (fl_at f_int fl_nil))) (fun x10 => (fl_at f_int fl_nil)))) (fun x11 => fa_nil)))) (fun x12 => (fl_cons (f_callT zint v_int T.n_int bv_int (fa_cons (f_cmp (zeq hr) o_eq (fl_cons (f_call (ok__law_choice T) hG (hr.mono (by decide)) T.m__law_choice T.F__law_choice.kp T.b__law_choice tk (fa_c 0 (.c 0) (fa_at f_int fa_nil))) (fun x13 => (fl_at f_int fl_nil)))) (fun x14 => fa_nil))) (fun x15 => fl_nil))))) (fun x16 => fl_nil)))) (fun x17 => (fa_cons (f_add (fl_at f_int (fl_cons (f_call (ok__law_choice T) hG (hr.mono (by decide)) T.m__law_choice T.F__law_choice.kp T.b__law_choice tk (fa_c 0 (.c 0) (fa_at f_int fa_nil))) (fun x18 => fl_nil)))) (fun x19 => fa_nil))))))))))))⟩
def F__law_great : List PyData → M PyData
  | [] => L.law_great2
  | _ => bad
theorem ok__law_great : ZFn P w K mg base 2 T.a__law_great T.fd__law_great ["_law_state_here"] (VSp mg [.c] false F__law_great) :=
  vfnD T.F__law_great sc__law_great rfl fun cdv A outer s H E S Ez hG hr tk ps0 gl ds hd => match ds, hd with
    | [], _ => ⟨0, _, rfl, (s_ret (f_call (ok__law_low T) hG (hr.mono (by decide)) T.m__law_low T.F__law_low.kp T.b__law_low tk (fa_cons (f_sub (fl_cons (f_call (ok__law_choice T) hG (hr.mono (by decide)) T.m__law_choice T.F__law_choice.kp T.b__law_choice tk (fa_c 0 (.c 0) (fa_cons (f_mul (fl_at f_int (fl_cons (f_pow (fl_at f_int (fl_at f_int fl_nil))) (fun x1 => fl_nil)))) (fun x2 => fa_nil)))) (fun x3 => (fl_cons (f_pow (fl_at f_int (fl_at f_int fl_nil))) (fun x4 => fl_nil))))) (fun x5 => (fa_cons (f_add (fl_at f_int (fl_cons (f_call (ok__law_choice T) hG (hr.mono (by decide)) T.m__law_choice T.F__law_choice.kp T.b__law_choice tk (fa_c 0 (.c 0) (fa_cons (f_pow (fl_at f_int (fl_at f_int fl_nil))) (fun x6 => fa_nil)))) (fun x7 => fl_nil)))) (fun x8 => fa_nil))))))⟩
def F__law_ring_right : List PyData → M PyData
  | [a0, a1, a2] => L.law_ring_right a0 a1 a2
  | _ => bad
theorem ok__law_ring_right : ZFn P w K mg base 6 T.a__law_ring_right T.fd__law_ring_right ["_law_a", "_law_b", "_law_c"] (VSp mg [.d, .d, .d] false F__law_ring_right) :=
  vfnD T.F__law_ring_right sc__law_ring_right rfl fun cdv A outer s H E S Ez hG hr tk ps0 gl ds hd => match ds, hd with
    | [a0, a1, a2], _ => ⟨0, _, rfl, (s_if (w_or (t_cmp (zne hr) o_ne (fl_cons (f_call (ok_plus T) hG (hr.mono (by decide)) T.m_plus T.F_plus.kp T.b_plus tk (fa_at (f_v 0) (fa_at (f_v 1) fa_nil))) (fun x3 => (fl_cons (f_call (ok_plus T) hG (hr.mono (by decide)) T.m_plus T.F_plus.kp T.b_plus tk (fa_at (f_v 1) (fa_at (f_v 0) fa_nil))) (fun x4 => fl_nil))))) (w_or1 (t_cmp (zne hr) o_ne (fl_cons (f_call (ok_times T) hG (hr.mono (by decide)) T.m_times T.F_times.kp T.b_times tk (fa_at (f_v 0) (fa_at (f_v 1) fa_nil))) (fun x1 => (fl_cons (f_call (ok_times T) hG (hr.mono (by decide)) T.m_times T.F_times.kp T.b_times tk (fa_at (f_v 1) (fa_at (f_v 0) fa_nil))) (fun x2 => fl_nil))))))).t (s_ret f_bl) (s_pop (s_if (w_or (t_cmp (zne hr) o_ne (fl_cons (f_call (ok_plus T) hG (hr.mono (by decide)) T.m_plus T.F_plus.kp T.b_plus tk (fa_cons (f_call (ok_plus T) hG (hr.mono (by decide)) T.m_plus T.F_plus.kp T.b_plus tk (fa_at (f_v 0) (fa_at (f_v 1) fa_nil))) (fun x11 => (fa_at (f_v 2) fa_nil)))) (fun x12 => (fl_cons (f_call (ok_plus T) hG (hr.mono (by decide)) T.m_plus T.F_plus.kp T.b_plus tk (fa_at (f_v 0) (fa_cons (f_call (ok_plus T) hG (hr.mono (by decide)) T.m_plus T.F_plus.kp T.b_plus tk (fa_at (f_v 1) (fa_at (f_v 2) fa_nil))) (fun x13 => fa_nil)))) (fun x14 => fl_nil))))) (w_or1 (t_cmp (zne hr) o_ne (fl_cons (f_call (ok_times T) hG (hr.mono (by decide)) T.m_times T.F_times.kp T.b_times tk (fa_cons (f_call (ok_times T) hG (hr.mono (by decide)) T.m_times T.F_times.kp T.b_times tk (fa_at (f_v 0) (fa_at (f_v 1) fa_nil))) (fun x7 => (fa_at (f_v 2) fa_nil)))) (fun x8 => (fl_cons (f_call (ok_times T) hG (hr.mono (by decide)) T.m_times T.F_times.kp T.b_times tk (fa_at (f_v 0) (fa_cons (f_call (ok_times T) hG (hr.mono (by decide)) T.m_times T.F_times.kp T.b_times tk (fa_at (f_v 1) (fa_at (f_v 2) fa_nil))) (fun x9 => fa_nil)))) (fun x10 => fl_nil))))))).t (s_ret f_bl) (s_pop (s_if (w_or (t_cmp (zne hr) o_ne (fl_cons (f_call (ok_times T) hG (hr.mono (by decide)) T.m_times T.F_times.kp T.b_times tk (fa_at (f_v 0) (fa_cons (f_call (ok_plus T) hG (hr.mono (by decide)) T.m_plus T.F_plus.kp T.b_plus tk (fa_at (f_v 1) (fa_at (f_v 2) fa_nil))) (fun x19 => fa_nil)))) (fun x20 => (fl_cons (f_call (ok_plus T) hG (hr.mono (by decide)) T.m_plus T.F_plus.kp T.b_plus tk (fa_cons (f_call (ok_times T) hG (hr.mono (by decide)) T.m_times T.F_times.kp T.b_times tk (fa_at (f_v 0) (fa_at (f_v 1) fa_nil))) (fun x21 => (fa_cons (f_call (ok_times T) hG (hr.mono (by decide)) T.m_times T.F_times.kp T.b_times tk (fa_at (f_v 0) (fa_at (f_v 2) fa_nil))) (fun x22 => fa_nil))))) (fun x23 => fl_nil))))) (w_or1 (t_cmp (zne hr) o_ne (fl_cons (f_call (ok_minus T) hG (hr.mono (by decide)) T.m_minus T.F_minus.kp T.b_minus tk (fa_cons (f_call (ok_plus T) hG (hr.mono (by decide)) T.m_plus T.F_plus.kp T.b_plus tk (fa_at (f_v 0) (fa_at (f_v 1) fa_nil))) (fun x17 => (fa_at (f_v 1) fa_nil)))) (fun x18 => (fl_at (f_v 0) fl_nil)))))).t (s_ret f_bl) (s_pop (s_if (w_or (t_cmp (zne hr) o_ne (fl_cons (f_call (ok_minus T) hG (hr.mono (by decide)) T.m_minus T.F_minus.kp T.b_minus tk (fa_at (f_v 0) (fa_at (f_v 0) fa_nil))) (fun x30 => (fl_cons (f_callK (dv := [(.int 1)]) (ok_made T) hG (hr.mono (by decide)) T.m_made T.F_made.kp T.bk_made_1 tk (fk_at f_int (fk_kw kw_nil))) (fun x31 => fl_nil))))) (w_or (t_cmp (zne hr) o_ne (fl_cons (f_call (ok_plus T) hG (hr.mono (by decide)) T.m_plus T.F_plus.kp T.b_plus tk (fa_at (f_v 0) (fa_cons (f_callK (dv := [(.int 1)]) (ok_made T) hG (hr.mono (by decide)) T.m_made T.F_made.kp T.bk_made_1 tk (fk_at f_int (fk_kw kw_nil))) (fun x28 => fa_nil)))) (fun x29 => (fl_at (f_v 0) fl_nil)))) (w_or1 (t_cmp (zne hr) o_ne (fl_cons (f_call (ok_times T) hG (hr.mono (by decide)) T.m_times T.F_times.kp T.b_times tk (fa_at (f_v 0) (fa_cons (f_callK (dv := [(.int 1)]) (ok_made T) hG (hr.mono (by decide)) T.m_made T.F_made.kp T.bk_made_1 tk (fk_at f_int (fk_kw kw_nil))) (fun x26 => fa_nil)))) (fun x27 => (fl_at (f_v 0) fl_nil))))))).t (s_ret f_bl) (s_pop (s_if (w_and (t_cmp (zne hr) o_ne (fl_at (f_v 1) (fl_cons (f_callK (dv := [(.int 1)]) (ok_made T) hG (hr.mono (by decide)) T.m_made T.F_made.kp T.bk_made_1 tk (fk_at f_int (fk_kw kw_nil))) (fun x38 => fl_nil)))) (w_and1 (w_or (t_cmp (zne hr) o_ne (fl_cons (f_call (ok_times T) hG (hr.mono (by decide)) T.m_times T.F_times.kp T.b_times tk (fa_cons (f_call (ok_over T) hG (hr.mono (by decide)) T.m_over T.F_over.kp T.b_over tk (fa_at (f_v 0) (fa_at (f_v 1) fa_nil))) (fun x36 => (fa_at (f_v 1) fa_nil)))) (fun x37 => (fl_at (f_v 0) fl_nil)))) (w_or1 (t_cmp (zne hr) o_ne (fl_cons (f_call (ok_over T) hG (hr.mono (by decide)) T.m_over T.F_over.kp T.b_over tk (fa_at (f_v 1) (fa_at (f_v 1) fa_nil))) (fun x34 => (fl_cons (f_callK (dv := [(.int 1)]) (ok_made T) hG (hr.mono (by decide)) T.m_made T.F_made.kp T.bk_made_1 tk (fk_at f_int (fk_kw kw_nil))) (fun x35 => fl_nil))))))).t)).t (s_ret f_bl) (s_pop (s_ret (f_callB zall v_all T.n_all bv_all (fa_cons (f_lc sc__law_ring_right.nd (i_row (f_lst (fa_cons (f_call (ok_plus T) hG (hr.mono (by decide)) T.m_plus T.F_plus.kp T.b_plus tk (fa_at (f_v 0) (fa_at (f_v 1) fa_nil))) (fun x41 => (fa_cons (f_call (ok_minus T) hG (hr.mono (by decide)) T.m_minus T.F_minus.kp T.b_minus tk (fa_at (f_v 1) (fa_at (f_v 2) fa_nil))) (fun x42 => (fa_cons (f_call (ok_times T) hG (hr.mono (by decide)) T.m_times T.F_times.kp T.b_times tk (fa_at (f_v 0) (fa_at (f_v 2) fa_nil))) (fun x43 => fa_nil)))))))) (blkOk_by (own := [("_law_one", 3)]) (N := N__law_ring_right) (sc := defScope s__law_ring_right) (by decide +kernel)) (fun _ _ _ _ _ => (zg_name (i := 3) sc__law_ring_right.nd)) (go_name (i := 3)) ts_nil (fun _ _ _ _ _ t44 => (f_call (ok_is_fraction T) hG (hr.mono (by decide)) T.m_is_fraction T.F_is_fraction.kp T.b_is_fraction tk0 (fa_at (f_v 3) fa_nil)))) (fun x48 => fa_nil))))))))))))))⟩
def F__law_order_right : List PyData → M PyData
  | [a0, a1, a2] => L.law_order_right a0 a1 a2
  | _ => bad
theorem ok__law_order_right : ZFn P w K mg base 6 T.a__law_order_right T.fd__law_order_right ["_law_a", "_law_b", "_law_c"] (VSp mg [.d, .d, .d] false F__law_order_right) :=
  vfnD T.F__law_order_right sc__law_order_right rfl fun cdv A outer s H E S Ez hG hr tk ps0 gl ds hd => match ds, hd with
    | [a0, a1, a2], _ => ⟨0, _, rfl, (s_if (t_cmp (zne hr) o_ne (fl_cons (f_meth PySem.F.plainAttrs_list PySem.F.slot_list_count PySem.F.type_list_count (mt_count hr) (f_lst (fa_cons (f_call (ok_less T) hG (hr.mono (by decide)) T.m_less T.F_less.kp T.b_less tk (fa_at (f_v 0) (fa_at (f_v 1) fa_nil))) (fun x1 => (fa_cons (f_call (ok_less T) hG (hr.mono (by decide)) T.m_less T.F_less.kp T.b_less tk (fa_at (f_v 1) (fa_at (f_v 0) fa_nil))) (fun x2 => (fa_cons (f_cmp (zeq hr) o_eq (fl_at (f_v 0) (fl_at (f_v 1) fl_nil))) (fun x3 => fa_nil))))))) (fun x4 => (fa_at f_bl fa_nil))) (fun x5 => (fl_at f_int fl_nil)))) (s_ret f_bl) (s_pop (s_if (w_and (t_val (f_call (ok_less T) hG (hr.mono (by decide)) T.m_less T.F_less.kp T.b_less tk (fa_at (f_v 0) (fa_at (f_v 1) fa_nil)))) (w_and (t_val (f_call (ok_less T) hG (hr.mono (by decide)) T.m_less T.F_less.kp T.b_less tk (fa_at (f_v 1) (fa_at (f_v 2) fa_nil)))) (w_and1 (t_not (t_val (f_call (ok_less T) hG (hr.mono (by decide)) T.m_less T.F_less.kp T.b_less tk (fa_at (f_v 0) (fa_at (f_v 2) fa_nil)))))))).t (s_ret f_bl) (s_pop (s_if (w_or (t_cmp (zne hr) o_ne (fl_cons (f_call (ok_less T) hG (hr.mono (by decide)) T.m_less T.F_less.kp T.b_less tk (fa_at (f_v 0) (fa_at (f_v 1) fa_nil))) (fun x14 => (fl_cons (f_call (ok_less T) hG (hr.mono (by decide)) T.m_less T.F_less.kp T.b_less tk (fa_cons (f_call (ok_plus T) hG (hr.mono (by decide)) T.m_plus T.F_plus.kp T.b_plus tk (fa_at (f_v 0) (fa_at (f_v 2) fa_nil))) (fun x15 => (fa_cons (f_call (ok_plus T) hG (hr.mono (by decide)) T.m_plus T.F_plus.kp T.b_plus tk (fa_at (f_v 1) (fa_at (f_v 2) fa_nil))) (fun x16 => fa_nil))))) (fun x17 => fl_nil))))) (w_or1 (t_cmp (zne hr) o_ne (fl_cons (f_call (ok_less T) hG (hr.mono (by decide)) T.m_less T.F_less.kp T.b_less tk (fa_at (f_v 0) (fa_at (f_v 1) fa_nil))) (fun x10 => (fl_cons (f_call (ok_less T) hG (hr.mono (by decide)) T.m_less T.F_less.kp T.b_less tk (fa_cons (f_callK (dv := [(.int 1)]) (ok_made T) hG (hr.mono (by decide)) T.m_made T.F_made.kp T.bk_made_1 tk (fk_at f_int (fk_kw kw_nil))) (fun x11 => (fa_cons (f_call (ok_minus T) hG (hr.mono (by decide)) T.m_minus T.F_minus.kp T.b_minus tk (fa_at (f_v 1) (fa_at (f_v 0) fa_nil))) (fun x12 => fa_nil))))) (fun x13 => fl_nil))))))).t (s_ret f_bl) (s_pop (s_ret (f_or (f_not (f_call (ok_less T) hG (hr.mono (by decide)) T.m_less T.F_less.kp T.b_less tk (fa_cons (f_callK (dv := [(.int 1)]) (ok_made T) hG (hr.mono (by decide)) T.m_made T.F_made.kp T.bk_made_1 tk (fk_at f_int (fk_kw kw_nil))) (fun x24 => (fa_at (f_v 2) fa_nil))))) (f_one (f_cmp (zeq hr) o_eq (fl_cons (f_call (ok_less T) hG (hr.mono (by decide)) T.m_less T.F_less.kp T.b_less tk (fa_at (f_v 0) (fa_at (f_v 1) fa_nil))) (fun x20 => (fl_cons (f_call (ok_less T) hG (hr.mono (by decide)) T.m_less T.F_less.kp T.b_less tk (fa_cons (f_call (ok_times T) hG (hr.mono (by decide)) T.m_times T.F_times.kp T.b_times tk (fa_at (f_v 0) (fa_at (f_v 2) fa_nil))) (fun x21 => (fa_cons (f_call (ok_times T) hG (hr.mono (by decide)) T.m_times T.F_times.kp T.b_times tk (fa_at (f_v 1) (fa_at (f_v 2) fa_nil))) (fun x22 => fa_nil))))) (fun x23 => fl_nil))))))))))))))⟩
def F_law : List PyData → M PyData
  | [a0] => L.law3 a0
  | _ => bad
theorem ok_law : ZFn P w K mg base 7 T.a_law T.fd_law ["_law_script"] (VSp mg [.k] false F_law) :=
  vfnD T.F_law sc_law rfl fun cdv A outer s H E S Ez hG hr tk ps0 gl ds hd => match ds, hd with
    | [a0], _ => ⟨1, _, rfl, (s_for (emb1 := fun (t1 : Unit) => [some (.k (unl a0)), none, none, none, none, none, none, none, none]) (passes_of rfl) (i_range1 T.n_range (fa_cons (f_callB zmax v_max T.n_max bv_max (fa_at f_int (fa_cons (f_callB zmin v_min T.n_min bv_min (fa_cons (f_callB zlen v_len T.n_len bv_len (fa_c 0 (.k (unl a0)) fa_nil)) (fun x2 => (fa_at f_int fa_nil)))) (fun x3 => fa_nil)))) (fun x4 => fa_nil))) (zg_name (i := 1) sc_law.nd) (go_name (i := 1)) (fun u5 t1 => (s_setC 2 0 (by rw [gl]; decide) sc_law.nd (n_call (ok__law_state T) hG (hr.mono (by decide)) T.m__law_state T.F__law_state.kp T.b__law_state tk (fa_c 0 (.k (unl a0)) (fa_at (f_v 1) fa_nil))) (s_for (emb1 := fun (t7 : Unit) => [some (.k (unl a0)), some (.d u5), some (.c 0), none, none, none, none, none, none]) (passes_of rfl) (i_range1 T.n_range (fa_at f_int fa_nil)) (zg_name (i := 3) sc_law.nd) (go_name (i := 3)) (fun u8 t7 => (s_set 4 sc_law.nd (f_lst (fa_cons (f_call (ok__law_fraction T) hG (hr.mono (by decide)) T.m__law_fraction T.F__law_fraction.kp T.b__law_fraction tk (fa_c 2 (.c 0) fa_nil)) (fun x11 => (fa_cons (f_call (ok__law_fraction T) hG (hr.mono (by decide)) T.m__law_fraction T.F__law_fraction.kp T.b__law_fraction tk (fa_c 2 (.c 0) fa_nil)) (fun x12 => (fa_cons (f_call (ok__law_great T) hG (hr.mono (by decide)) T.m__law_great T.F__law_great.kp T.b__law_great tk (fa_c 2 (.c 0) fa_nil)) (fun x13 => (fa_cons (f_call (ok__law_great T) hG (hr.mono (by decide)) T.m__law_great T.F__law_great.kp T.b__law_great tk (fa_c 2 (.c 0) fa_nil)) (fun x14 => fa_nil))))))))) (fun v10 => (s_set 5 sc_law.nd (f_call (ok__law_choice T) hG (hr.mono (by decide)) T.m__law_choice T.F__law_choice.kp T.b__law_choice tk (fa_c 2 (.c 0) (fa_at f_int fa_nil))) (fun v15 => (s_par3 (i := 6) (j := 7) (l := 8) sc_law.nd (fa_cons (f_ix (fl_at (f_v 4) (fl_at (f_v 5) fl_nil))) (fun x17 => (fa_cons (f_ix (fl_at (f_v 4) (fl_cons (f_mod (fl_cons (f_add (fl_at (f_v 5) (fl_at f_int fl_nil))) (fun x18 => (fl_at f_int fl_nil)))) (fun x19 => fl_nil)))) (fun x20 => (fa_cons (f_ix (fl_at (f_v 4) (fl_cons (f_mod (fl_cons (f_add (fl_at (f_v 5) (fl_at f_int fl_nil))) (fun x21 => (fl_at f_int fl_nil)))) (fun x22 => fl_nil)))) (fun x23 => fa_nil)))))) (fun u16 => (s_if (w_or (t_not (t_val (f_call (ok__law_ring_right T) hG (hr.mono (by decide)) T.m__law_ring_right T.F__law_ring_right.kp T.b__law_ring_right tk (fa_at (f_v 6) (fa_at (f_v 7) (fa_at (f_v 8) fa_nil)))))) (w_or (t_not (t_val (f_call (ok__law_order_right T) hG (hr.mono (by decide)) T.m__law_order_right T.F__law_order_right.kp T.b__law_order_right tk (fa_at (f_v 6) (fa_at (f_v 7) (fa_at (f_v 8) fa_nil)))))) (w_or1 (t_not (t_val (f_call (ok__law_order_right T) hG (hr.mono (by decide)) T.m__law_order_right T.F__law_order_right.kp T.b__law_order_right tk (fa_at (f_v 6) (fa_at (f_v 6) (fa_at (f_v 8) fa_nil))))))))).t (s_ret f_bl) (s_pop (s_end (Fg.of ⟨rfl, rfl, rfl, trivial⟩))))))))))) (Fg.of ⟨rfl, rfl, rfl, trivial⟩) (fun t7 => (s_end (Fg.of ⟨rfl, trivial⟩)))))) (Fg.of ⟨rfl, trivial⟩) (fun t1 => (s_ret f_bl)))⟩
end
end K

set_option exponentiation.threshold 20000
namespace K
open PySem PySem.Spec V ZL L2
theorem great_gen : Gen1 L.law_great2 (IsFr 50) := by
  unfold L.law_great2
  refine Gen.frame0 ?_
  simp only [fin_bind, bind_assoc']
  rw [pow_int (i := 10) (j := 12) (by decide), pow_int (i := 10) (j := 7) (by decide)]
  simp only [pure_bind']
  rw [mul_int (by decide)]
  simp only [pure_bind']
  refine Gen.bind (choice (by decide) (by decide)) ?_
  rintro _ ⟨t, rfl, t0, t1⟩
  simp only [sub_int, pure_bind']
  refine Gen.bind (choice (by decide) (by decide)) ?_
  rintro _ ⟨u, rfl, u0, u1⟩
  have e1 : (10 : Int) ^ Int.toNat 12 = 1000000000000 := rfl
  have e2 : (10 : Int) ^ Int.toNat 7 = 10000000 := rfl
  rw [e1] at t1 ⊢
  rw [e2] at u1
  simp only [add_int, pure_bind']
  have hp : (2 : Nat) ^ 50 ≤ 2 ^ 9000 := Nat.pow_le_pow_right (by decide) (by decide)
  rw [low_eq _ _ (by omega) (by omega) (by omega)]
  simp only [sub_pure, pure_bind', fin_rt]
  exact Gen.pure ⟨_, rfl, .divInt (by omega) (by omega) (by omega)⟩
theorem need_whole_int (i : Int) : L.need_whole (.int i) = pure .none := by unfold L.need_whole; rw [is_whole_eq]; simp [isW]
theorem made0 : L.made (.int 0) (.int 1) = pure (fr 0) := by
  unfold L.made
  rw [need_whole_int, need_whole_int, made_by_eq 0 1 (by decide) (by decide) (by decide)]
  simp [show Rat.divInt 0 1 = 0 from rfl]
theorem made1 : L.made (.int 1) (.int 1) = pure (fr 1) := by
  unfold L.made
  rw [need_whole_int, made_by_eq 1 1 (by decide) (by decide) (by decide)]
  simp [show Rat.divInt 1 1 = 1 from rfl]
theorem ring_right {p q r : Rat} (hp : Bt 50 p) (hq : Bt 50 q) (hr : Bt 50 r) : L.law_ring_right (fr p) (fr q) (fr r) = pure (.bool true) := by
  unfold L.law_ring_right
  have h0 : Bt 1 0 := ⟨by decide, by decide⟩
  have h1 : Bt 1 1 := ⟨by decide, by decide⟩
  have e1 : decide (p + q = q + p) = true := decide_eq_true (by grind)
  have e2 : decide (p * q = q * p) = true := decide_eq_true (by grind)
  have e3 : decide (p + q + r = p + (q + r)) = true := decide_eq_true (by grind)
  have e4 : decide (p * q * r = p * (q * r)) = true := decide_eq_true (by grind)
  have e5 : decide (p * (q + r) = p * q + p * r) = true := decide_eq_true (by grind)
  have e6 : decide (p + q - q = p) = true := decide_eq_true (by grind)
  have e7 : decide (p - p = 0) = true := decide_eq_true (by grind)
  have e8 : decide (p + 0 = p) = true := decide_eq_true (by grind)
  have e9 : decide (p * 1 = p) = true := decide_eq_true (by grind)
  have f1 := plus_eq hp hq (by omega)
  have f2 := plus_eq hq hp (by omega)
  have f3 := times_eq hp hq (by omega)
  have f4 := times_eq hq hp (by omega)
  have f5 := plus_eq (hp.add hq) hr (by omega)
  have f6 := plus_eq hq hr (by omega)
  have f7 := plus_eq hp (hq.add hr) (by omega)
  have f8 := times_eq (hp.mul hq) hr (by omega)
  have f9 := times_eq hq hr (by omega)
  have g1 := times_eq hp (hq.mul hr) (by omega)
  have g2 := times_eq hp (hq.add hr) (by omega)
  have g3 := times_eq hp hr (by omega)
  have g4 := plus_eq (hp.mul hq) (hp.mul hr) (by omega)
  have g5 := minus_eq (hp.add hq) hq (by omega)
  have g6 := minus_eq hp hp (by omega)
  have g7 := plus_eq hp h0 (by omega)
  have g8 := times_eq hp h1 (by omega)
  have g9 := minus_eq hq hr (by omega)
  have last : (comp pN yep (fun t44 => (sub [] (L.is_fraction t44))) [fr (p + q), fr (q - r), fr (p * r)]) = pure [.bool true, .bool true, .bool true] := by
    have := V.comp_map (mt := pN) (f := fun t44 => (sub [] (L.is_fraction t44))) (xs := [fr (p + q), fr (q - r), fr (p * r)]) (fun _ => PyData.bool true) (by simp) (fun x hx => ?_)
    · simpa using this
    · refine ⟨x, rfl, ?_⟩
      simp only [List.mem_cons, List.not_mem_nil, or_false] at hx
      rcases hx with rfl | rfl | rfl
      · rw [is_fraction_fr (hp.add hq) (by omega)]; rfl
      · rw [is_fraction_fr (hq.sub hr) (by omega)]; rfl
      · rw [is_fraction_fr (hp.mul hr) (by omega)]; rfl
  have e10 : allM (.list [.bool true, .bool true, .bool true]) = pure (.bool true) := all_bools [true, true, true]
  simp only [made0, made1, f1, f2, f3, f4, f5, f6, f7, f8, f9, g1, g2, g3, g4, g5, g6, g7, g8, g9, sub_pure, pure_bind', ne_fr, e1, e2, e3, e4, e5, e6, e7, e8, e9, Bool.not_true, tOr_pure, cond_false]
  by_cases hz : q = 0
  · simp only [decide_eq_true hz, Bool.not_true, tAnd_pure, pure_bind', cond_false, lstK_3, bind_assoc', rowM_list, last, e10, fin_rt, fin_bind, frame_pure]
  · have k1 := over_eq hp hq (by omega) hz
    have k2 := over_eq hq hq (by omega) hz
    have k3 := times_eq (hp.div hq hz) hq (by omega)
    have e11 : decide (p / q * q = p) = true := decide_eq_true (by rw [Rat.div_mul_cancel hz])
    have e12 : decide (q / q = 1) = true := decide_eq_true (by rw [Rat.div_def, Rat.mul_inv_cancel q hz])
    simp only [decide_eq_false hz, Bool.not_false, Bool.not_true, tAnd_pure, tOr_pure, cond_true, k1, k2, k3, sub_pure, ne_fr, e11, e12, pure_bind', cond_false, lstK_3, bind_assoc', rowM_list, last, e10, fin_rt, fin_bind, frame_pure]
theorem ne_bool (a b : Bool) : neM (.bool a) (.bool b) = pure (a != b) := by cases a <;> cases b <;> rfl
theorem eq_bool (a b : Bool) : eqM (.bool a) (.bool b) = pure (a == b) := by cases a <;> cases b <;> rfl
theorem count3 (a b c : Bool) : countO (.list [.bool a, .bool b, .bool c]) [.bool true] = some (.int (a.toNat + b.toNat + c.toNat : Nat)) := by cases a <;> cases b <;> cases c <;> rfl
theorem order_right {p q r : Rat} (hp : Bt 50 p) (hq : Bt 50 q) (hr : Bt 50 r) : L.law_order_right (fr p) (fr q) (fr r) = pure (.bool true) := by
  unfold L.law_order_right
  have h0 : Bt 1 0 := ⟨by decide, by decide⟩
  have f1 := less_eq hp hq (by omega)
  have f2 := less_eq hq hp (by omega)
  have f3 := less_eq hq hr (by omega)
  have f4 := less_eq hp hr (by omega)
  have f5 := plus_eq hp hr (by omega)
  have f6 := plus_eq hq hr (by omega)
  have f7 := less_eq (hp.add hr) (hq.add hr) (by omega)
  have f8 := minus_eq hq hp (by omega)
  have f9 := less_eq h0 (hq.sub hp) (by omega)
  have g1 := less_eq h0 hr (by omega)
  have g2 := times_eq hp hr (by omega)
  have g3 := times_eq hq hr (by omega)
  have g4 := less_eq (hp.mul hr) (hq.mul hr) (by omega)
  have one : ((decide (p < q)).toNat + (decide (q < p)).toNat + (decide (p = q)).toNat : Nat) = 1 := by
    by_cases a : p < q
    · simp [a, show ¬ q < p by grind, show ¬ p = q by grind]
    · by_cases b : q < p
      · simp [a, b, show ¬ p = q by grind]
      · simp [a, b, show p = q by grind]
  have e1 : (decide (p < q) != decide (p + r < q + r)) = false := by
    rw [show decide (p + r < q + r) = decide (p < q) by rw [decide_eq_decide]; constructor <;> intro h <;> grind]; simp
  have e2 : (decide (p < q) != decide (0 < q - p)) = false := by
    rw [show decide (0 < q - p) = decide (p < q) by rw [decide_eq_decide]; constructor <;> intro h <;> grind]; simp
  have e3 : 0 < r → (decide (p < q) == decide (p * r < q * r)) = true := fun h => by
    have : p * r < q * r ↔ p < q := Rat.mul_lt_mul_right h
    rw [show decide (p * r < q * r) = decide (p < q) by rw [decide_eq_decide]; exact this]; simp
  have e4 : p < q → q < r → p < r := fun a b => by grind
  have tr : tAnd (pure (decide (p < q))) (tAnd (pure (decide (q < r))) (pure (!decide (p < r)))) = (pure false : M Bool) := by
    by_cases a : p < q
    · by_cases b : q < r
      · simp [a, b, e4 a b, tAnd_pure]
      · simp [a, b, tAnd_pure]
    · simp [a, tAnd_pure]
  simp only [made0, f1, f2, f3, f4, f5, f6, f7, f8, f9, g1, g2, g3, g4, sub_pure, pure_bind', eq_fr, ofB_pure, lstK_3, count3, one, ofO_some, show ∀ xs, tyM "list" (.list xs) = pure () from fun _ => rfl, show neM (.int ((1 : Nat) : Int)) (.int 1) = pure false from rfl, cond_false, toB_bool, tNot_pure, tr, ne_bool, eq_bool, e1, e2, tOr_pure, bind_assoc']
  by_cases a : 0 < r
  · simp [a, e3 a]
  · simp [a]
theorem mod4 (t : Int) (t0 : 0 ≤ t) (k : Int) (k0 : 0 ≤ k) : modM (.int (t + k)) (.int 4) = pure (.int ((t + k) % 4)) := rfl
theorem law_true (ns : List Int) (h : ns.length ≤ 63) : ∃ s', L.law3 (.list (ns.map PyData.int)) [] = .ok (.bool true) s' := by
  unfold L.law3
  refine law_end ?_
  simp only [fin_bind, bind_assoc', unl, len_list, pure_bind', min_int, max_int, List.length_map]
  refine law_cells ns h 8 (n := 0) (fun k st g => ?_) ?_
  · rw [show rangeM (.int 0) (.int 4) = pure (rangeD 0 4) from rfl, pure_bind']
    refine Tr.for0 (AtL 0) (fun x _ => ⟨x, rfl, ?_⟩) (Tr.pure fun s hs => ⟨rfl, hs.ln⟩)
    refine AtL.zero ?_
    refine At.gen fraction ?_
    rintro _ ⟨p, rfl, hp⟩
    refine At.gen fraction ?_
    rintro _ ⟨q, rfl, hq⟩
    refine At.gen great_gen.sub ?_
    rintro _ ⟨u, rfl, hu⟩
    refine At.gen great_gen.sub ?_
    rintro _ ⟨v, rfl, hv⟩
    simp only [lstK_4, pure_bind']
    refine At.gen (choice (by decide) (by decide)) ?_
    rintro _ ⟨t, rfl, t0, t1⟩
    have pick : ∀ i : Int, 0 ≤ i → i < 4 → ∃ w, Bt 50 w ∧ ixM (.list [fr p, fr q, fr u, fr v]) (.int i) = pure (fr w) := by
      intro i i0 i1
      obtain ⟨d, hd, e⟩ := ix_mem (xs := [fr p, fr q, fr u, fr v]) i0 (by simpa using i1)
      simp only [List.mem_cons, List.not_mem_nil, or_false] at hd
      rcases hd with rfl | rfl | rfl | rfl
      · exact ⟨_, hp, e⟩
      · exact ⟨_, hq, e⟩
      · exact ⟨_, hu, e⟩
      · exact ⟨_, hv, e⟩
    obtain ⟨a, ha, ea⟩ := pick t t0 t1
    obtain ⟨b, hb, eb⟩ := pick ((t + 1) % 4) (by omega) (by omega)
    obtain ⟨c, hc, ec⟩ := pick ((t + 2) % 4) (by omega) (by omega)
    have m1 : modM (.int (t + 1)) (.int 4) = pure (.int ((t + 1) % 4)) := rfl
    have m2 : modM (.int (t + 2)) (.int 4) = pure (.int ((t + 2) % 4)) := rfl
    simp only [ea, add_int, pure_bind', m1, m2, eb, ec, ring_right ha hb hc, order_right ha hb hc, order_right ha ha hc, sub_pure, toB_bool, tNot_pure, Bool.not_true, tOr_pure, cond_false]
    exact Tr.pure fun s hs => ⟨rfl, hs.l⟩
  · simp only [flk_nx, pure_bind', fin_rt]
    exact Tr.pure fun s hs => rfl
end K

namespace Hd
open PySem PySem.Spec PyProof.Rows L2 ZL V K
def d_is_whole : He.DefD := ⟨("is_whole", none), "is_whole", "is_whole", defArgs s_is_whole, defBody s_is_whole, defScope s_is_whole, [], []⟩
def d_divisor : He.DefD := ⟨("divisor", none), "divisor", "divisor", defArgs s_divisor, defBody s_divisor, defScope s_divisor, [], []⟩
def d_is_fraction : He.DefD := ⟨("is_fraction", none), "is_fraction", "is_fraction", defArgs s_is_fraction, defBody s_is_fraction, defScope s_is_fraction, [], []⟩
def d_need_whole : He.DefD := ⟨("need_whole", none), "need_whole", "need_whole", defArgs s_need_whole, defBody s_need_whole, defScope s_need_whole, [], []⟩
def d_need_fraction : He.DefD := ⟨("need_fraction", none), "need_fraction", "need_fraction", defArgs s_need_fraction, defBody s_need_fraction, defScope s_need_fraction, [], []⟩
def d_made_by : He.DefD := ⟨("made_by", none), "made_by", "made_by", defArgs s_made_by, defBody s_made_by, defScope s_made_by, [], []⟩
def d_plus_by : He.DefD := ⟨("plus_by", none), "plus_by", "plus_by", defArgs s_plus_by, defBody s_plus_by, defScope s_plus_by, [], []⟩
def d_minus_by : He.DefD := ⟨("minus_by", none), "minus_by", "minus_by", defArgs s_minus_by, defBody s_minus_by, defScope s_minus_by, [], []⟩
def d_times_by : He.DefD := ⟨("times_by", none), "times_by", "times_by", defArgs s_times_by, defBody s_times_by, defScope s_times_by, [], []⟩
def d_over_by : He.DefD := ⟨("over_by", none), "over_by", "over_by", defArgs s_over_by, defBody s_over_by, defScope s_over_by, [], []⟩
def d_less_by : He.DefD := ⟨("less_by", none), "less_by", "less_by", defArgs s_less_by, defBody s_less_by, defScope s_less_by, [], []⟩
def d_made : He.DefD := ⟨("made", none), "made", "made", defArgs s_made, defBody s_made, defScope s_made, [.int 1], []⟩
def d_need_two : He.DefD := ⟨("need_two", none), "need_two", "need_two", defArgs s_need_two, defBody s_need_two, defScope s_need_two, [], []⟩
def d_plus : He.DefD := ⟨("plus", none), "plus", "plus", defArgs s_plus, defBody s_plus, defScope s_plus, [], []⟩
def d_minus : He.DefD := ⟨("minus", none), "minus", "minus", defArgs s_minus, defBody s_minus, defScope s_minus, [], []⟩
def d_times : He.DefD := ⟨("times", none), "times", "times", defArgs s_times, defBody s_times, defScope s_times, [], []⟩
def d_over : He.DefD := ⟨("over", none), "over", "over", defArgs s_over, defBody s_over, defScope s_over, [], []⟩
def d_less : He.DefD := ⟨("less", none), "less", "less", defArgs s_less, defBody s_less, defScope s_less, [], []⟩
def d__law_cell_at : He.DefD := ⟨("_law_cell_at", none), "_law_cell_at", "_law_cell_at", defArgs s__law_cell_at, defBody s__law_cell_at, defScope s__law_cell_at, [], []⟩
def d__law_state : He.DefD := ⟨("_law_state", none), "_law_state", "_law_state", defArgs s__law_state, defBody s__law_state, defScope s__law_state, [], []⟩
def d__law_choice : He.DefD := ⟨("_law_choice", none), "_law_choice", "_law_choice", defArgs s__law_choice, defBody s__law_choice, defScope s__law_choice, [], []⟩
def d__law_low : He.DefD := ⟨("_law_low", none), "_law_low", "_law_low", defArgs s__law_low, defBody s__law_low, defScope s__law_low, [], []⟩
def d__law_fraction : He.DefD := ⟨("_law_fraction", none), "_law_fraction", "_law_fraction", defArgs s__law_fraction, defBody s__law_fraction, defScope s__law_fraction, [], []⟩
def d__law_great : He.DefD := ⟨("_law_great", none), "_law_great", "_law_great", defArgs s__law_great, defBody s__law_great, defScope s__law_great, [], []⟩
def d__law_ring_right : He.DefD := ⟨("_law_ring_right", none), "_law_ring_right", "_law_ring_right", defArgs s__law_ring_right, defBody s__law_ring_right, defScope s__law_ring_right, [], []⟩
def d__law_order_right : He.DefD := ⟨("_law_order_right", none), "_law_order_right", "_law_order_right", defArgs s__law_order_right, defBody s__law_order_right, defScope s__law_order_right, [], []⟩
def d_law : He.DefD := ⟨("law", none), "law", "law", defArgs s_law, defBody s_law, defScope s_law, [], []⟩
def fn0 : List He.DefD := [d_is_whole, d_divisor, d_is_fraction, d_need_whole, d_need_fraction, d_made_by, d_plus_by, d_minus_by, d_times_by, d_over_by, d_less_by, d_made, d_need_two, d_plus, d_minus, d_times, d_over, d_less, d__law_cell_at, d__law_state, d__law_choice, d__law_low, d__law_fraction, d__law_great, d__law_ring_right, d__law_order_right, d_law]
def fn : List He.DefD := fn0
def fa0 : List He.Fa := [.glo "is_whole", .glo "divisor", .glo "is_fraction", .glo "need_whole", .glo "need_fraction", .glo "made_by", .glo "plus_by", .glo "minus_by", .glo "times_by", .glo "over_by", .glo "less_by", .glo "made", .glo "need_two", .glo "plus", .glo "minus", .glo "times", .glo "over", .glo "less", .glo "_law_cell_at", .glo "_law_state", .glo "_law_choice", .glo "_law_low", .glo "_law_fraction", .glo "_law_great", .glo "_law_ring_right", .glo "_law_order_right", .glo "law", .free "abs", .free "all", .free "bool"]
def fa1 : List He.Fa := [.free "int", .free "isinstance", .free "len", .free "max", .free "min", .free "range", .free "tuple", .glo "NoFraction", .exc "NoFraction", .glo "NoWhole", .exc "NoWhole"]
def fa : List He.Fa := fa0 ++ fa1
def ex0 : List (PySem.W.Frag → Bool) := [constB "NOUGHT" (.tuple [(.int 0), (.int 1)])]
def ex : List (PySem.W.Frag → Bool) := ex0
def names0 : List PySem.Str := ["PlateError", "NoWhole", "NoFraction", "NOUGHT", "is_whole", "divisor", "is_fraction", "need_whole", "need_fraction", "made_by", "plus_by", "minus_by", "times_by", "over_by", "less_by", "made", "need_two", "plus", "minus", "times", "over", "less", "_law_cell_at", "_law_state", "_law_choice", "_law_low", "_law_fraction", "_law_great", "_law_ring_right", "_law_order_right"]
def names : List PySem.Str := names0
abbrev R : PySem.W.OpenRow := PySem.W.OpenLaw.row PySem.Challenge.rw_platerest_k04_whole_fractions_together
abbrev hk : PySem.W.Hook := hookV 4 fa fn ex
def ob (s : PySem.W.SharedT) : AlV := obsVG 4 fa fn ex (HandSHeadRun.getT s)
theorem ob_eq (s : PySem.W.SharedT) : ob s = hk.obs s.abs := obsVG_eq (HandSHeadRun.getT_eq s)
theorem run (w : World) : HandSHeadRun.RunEq R (PySem.W.view R.prog [33]) hk ob 3000 names w := by
  intro os
  kernel_rfl
theorem facts {K : PySem.W.Frag} {h : Heap} {mg : Str → Option Value} (X : K.In h) (G : h.Ns mainGlobals mg) (c : SaysV fa fn ex K) : ∃ T : Txt K mg, T.a_law = He.ga K "law" ∧ ∀ (s : Shared) (u : Value), BindsTo s T.fd_law ⟨[u], []⟩ [("_law_script", u)] := by
  obtain ⟨fd0, F0⟩ := c.d.def_ 0 (d := d_is_whole) rfl
  obtain ⟨fd1, F1⟩ := c.d.def_ 1 (d := d_divisor) rfl
  obtain ⟨fd2, F2⟩ := c.d.def_ 2 (d := d_is_fraction) rfl
  obtain ⟨fd3, F3⟩ := c.d.def_ 3 (d := d_need_whole) rfl
  obtain ⟨fd4, F4⟩ := c.d.def_ 4 (d := d_need_fraction) rfl
  obtain ⟨fd5, F5⟩ := c.d.def_ 5 (d := d_made_by) rfl
  obtain ⟨fd6, F6⟩ := c.d.def_ 6 (d := d_plus_by) rfl
  obtain ⟨fd7, F7⟩ := c.d.def_ 7 (d := d_minus_by) rfl
  obtain ⟨fd8, F8⟩ := c.d.def_ 8 (d := d_times_by) rfl
  obtain ⟨fd9, F9⟩ := c.d.def_ 9 (d := d_over_by) rfl
  obtain ⟨fd10, F10⟩ := c.d.def_ 10 (d := d_less_by) rfl
  obtain ⟨fd11, F11⟩ := c.d.def_ 11 (d := d_made) rfl
  obtain ⟨fd12, F12⟩ := c.d.def_ 12 (d := d_need_two) rfl
  obtain ⟨fd13, F13⟩ := c.d.def_ 13 (d := d_plus) rfl
  obtain ⟨fd14, F14⟩ := c.d.def_ 14 (d := d_minus) rfl
  obtain ⟨fd15, F15⟩ := c.d.def_ 15 (d := d_times) rfl
  obtain ⟨fd16, F16⟩ := c.d.def_ 16 (d := d_over) rfl
  obtain ⟨fd17, F17⟩ := c.d.def_ 17 (d := d_less) rfl
  obtain ⟨fd18, F18⟩ := c.d.def_ 18 (d := d__law_cell_at) rfl
  obtain ⟨fd19, F19⟩ := c.d.def_ 19 (d := d__law_state) rfl
  obtain ⟨fd20, F20⟩ := c.d.def_ 20 (d := d__law_choice) rfl
  obtain ⟨fd21, F21⟩ := c.d.def_ 21 (d := d__law_low) rfl
  obtain ⟨fd22, F22⟩ := c.d.def_ 22 (d := d__law_fraction) rfl
  obtain ⟨fd23, F23⟩ := c.d.def_ 23 (d := d__law_great) rfl
  obtain ⟨fd24, F24⟩ := c.d.def_ 24 (d := d__law_ring_right) rfl
  obtain ⟨fd25, F25⟩ := c.d.def_ 25 (d := d__law_order_right) rfl
  obtain ⟨fd26, F26⟩ := c.d.def_ 26 (d := d_law) rfl
  exact ⟨{
      a_is_whole := He.ga K "is_whole",
      fd_is_whole := fd0,
      F_is_whole := F0,
      m_is_whole := He.glo_ok X G (c.d.fact 0 (f := .glo "is_whole") rfl),
      b_is_whole := (FunD.bindsN F0 fun _ _ _ _ _ _ us hl => match us, hl with | [_], _ => rfl),
      a_divisor := He.ga K "divisor",
      fd_divisor := fd1,
      F_divisor := F1,
      m_divisor := He.glo_ok X G (c.d.fact 1 (f := .glo "divisor") rfl),
      b_divisor := (FunD.bindsN F1 fun _ _ _ _ _ _ us hl => match us, hl with | [_, _], _ => rfl),
      a_is_fraction := He.ga K "is_fraction",
      fd_is_fraction := fd2,
      F_is_fraction := F2,
      m_is_fraction := He.glo_ok X G (c.d.fact 2 (f := .glo "is_fraction") rfl),
      b_is_fraction := (FunD.bindsN F2 fun _ _ _ _ _ _ us hl => match us, hl with | [_], _ => rfl),
      a_need_whole := He.ga K "need_whole",
      fd_need_whole := fd3,
      F_need_whole := F3,
      m_need_whole := He.glo_ok X G (c.d.fact 3 (f := .glo "need_whole") rfl),
      b_need_whole := (FunD.bindsN F3 fun _ _ _ _ _ _ us hl => match us, hl with | [_], _ => rfl),
      a_need_fraction := He.ga K "need_fraction",
      fd_need_fraction := fd4,
      F_need_fraction := F4,
      m_need_fraction := He.glo_ok X G (c.d.fact 4 (f := .glo "need_fraction") rfl),
      b_need_fraction := (FunD.bindsN F4 fun _ _ _ _ _ _ us hl => match us, hl with | [_], _ => rfl),
      a_made_by := He.ga K "made_by",
      fd_made_by := fd5,
      F_made_by := F5,
      m_made_by := He.glo_ok X G (c.d.fact 5 (f := .glo "made_by") rfl),
      b_made_by := (FunD.bindsN F5 fun _ _ _ _ _ _ us hl => match us, hl with | [_, _], _ => rfl),
      a_plus_by := He.ga K "plus_by",
      fd_plus_by := fd6,
      F_plus_by := F6,
      m_plus_by := He.glo_ok X G (c.d.fact 6 (f := .glo "plus_by") rfl),
      b_plus_by := (FunD.bindsN F6 fun _ _ _ _ _ _ us hl => match us, hl with | [_, _], _ => rfl),
      a_minus_by := He.ga K "minus_by",
      fd_minus_by := fd7,
      F_minus_by := F7,
      m_minus_by := He.glo_ok X G (c.d.fact 7 (f := .glo "minus_by") rfl),
      b_minus_by := (FunD.bindsN F7 fun _ _ _ _ _ _ us hl => match us, hl with | [_, _], _ => rfl),
      a_times_by := He.ga K "times_by",
      fd_times_by := fd8,
      F_times_by := F8,
      m_times_by := He.glo_ok X G (c.d.fact 8 (f := .glo "times_by") rfl),
      b_times_by := (FunD.bindsN F8 fun _ _ _ _ _ _ us hl => match us, hl with | [_, _], _ => rfl),
      a_over_by := He.ga K "over_by",
      fd_over_by := fd9,
      F_over_by := F9,
      m_over_by := He.glo_ok X G (c.d.fact 9 (f := .glo "over_by") rfl),
      b_over_by := (FunD.bindsN F9 fun _ _ _ _ _ _ us hl => match us, hl with | [_, _], _ => rfl),
      a_less_by := He.ga K "less_by",
      fd_less_by := fd10,
      F_less_by := F10,
      m_less_by := He.glo_ok X G (c.d.fact 10 (f := .glo "less_by") rfl),
      b_less_by := (FunD.bindsN F10 fun _ _ _ _ _ _ us hl => match us, hl with | [_, _], _ => rfl),
      a_made := He.ga K "made",
      fd_made := fd11,
      F_made := F11,
      m_made := He.glo_ok X G (c.d.fact 11 (f := .glo "made") rfl),
      a_need_two := He.ga K "need_two",
      fd_need_two := fd12,
      F_need_two := F12,
      m_need_two := He.glo_ok X G (c.d.fact 12 (f := .glo "need_two") rfl),
      b_need_two := (FunD.bindsN F12 fun _ _ _ _ _ _ us hl => match us, hl with | [_, _], _ => rfl),
      a_plus := He.ga K "plus",
      fd_plus := fd13,
      F_plus := F13,
      m_plus := He.glo_ok X G (c.d.fact 13 (f := .glo "plus") rfl),
      b_plus := (FunD.bindsN F13 fun _ _ _ _ _ _ us hl => match us, hl with | [_, _], _ => rfl),
      a_minus := He.ga K "minus",
      fd_minus := fd14,
      F_minus := F14,
      m_minus := He.glo_ok X G (c.d.fact 14 (f := .glo "minus") rfl),
      b_minus := (FunD.bindsN F14 fun _ _ _ _ _ _ us hl => match us, hl with | [_, _], _ => rfl),
      a_times := He.ga K "times",
      fd_times := fd15,
      F_times := F15,
      m_times := He.glo_ok X G (c.d.fact 15 (f := .glo "times") rfl),
      b_times := (FunD.bindsN F15 fun _ _ _ _ _ _ us hl => match us, hl with | [_, _], _ => rfl),
      a_over := He.ga K "over",
      fd_over := fd16,
      F_over := F16,
      m_over := He.glo_ok X G (c.d.fact 16 (f := .glo "over") rfl),
      b_over := (FunD.bindsN F16 fun _ _ _ _ _ _ us hl => match us, hl with | [_, _], _ => rfl),
      a_less := He.ga K "less",
      fd_less := fd17,
      F_less := F17,
      m_less := He.glo_ok X G (c.d.fact 17 (f := .glo "less") rfl),
      b_less := (FunD.bindsN F17 fun _ _ _ _ _ _ us hl => match us, hl with | [_, _], _ => rfl),
      a__law_cell_at := He.ga K "_law_cell_at",
      fd__law_cell_at := fd18,
      F__law_cell_at := F18,
      m__law_cell_at := He.glo_ok X G (c.d.fact 18 (f := .glo "_law_cell_at") rfl),
      b__law_cell_at := (FunD.bindsN F18 fun _ _ _ _ _ _ us hl => match us, hl with | [_, _], _ => rfl),
      a__law_state := He.ga K "_law_state",
      fd__law_state := fd19,
      F__law_state := F19,
      m__law_state := He.glo_ok X G (c.d.fact 19 (f := .glo "_law_state") rfl),
      b__law_state := (FunD.bindsN F19 fun _ _ _ _ _ _ us hl => match us, hl with | [_, _], _ => rfl),
      a__law_choice := He.ga K "_law_choice",
      fd__law_choice := fd20,
      F__law_choice := F20,
      m__law_choice := He.glo_ok X G (c.d.fact 20 (f := .glo "_law_choice") rfl),
      b__law_choice := (FunD.bindsN F20 fun _ _ _ _ _ _ us hl => match us, hl with | [_, _], _ => rfl),
      a__law_low := He.ga K "_law_low",
      fd__law_low := fd21,
      F__law_low := F21,
      m__law_low := He.glo_ok X G (c.d.fact 21 (f := .glo "_law_low") rfl),
      b__law_low := (FunD.bindsN F21 fun _ _ _ _ _ _ us hl => match us, hl with | [_, _], _ => rfl),
      a__law_fraction := He.ga K "_law_fraction",
      fd__law_fraction := fd22,
      F__law_fraction := F22,
      m__law_fraction := He.glo_ok X G (c.d.fact 22 (f := .glo "_law_fraction") rfl),
      b__law_fraction := (FunD.bindsN F22 fun _ _ _ _ _ _ us hl => match us, hl with | [_], _ => rfl),
      a__law_great := He.ga K "_law_great",
      fd__law_great := fd23,
      F__law_great := F23,
      m__law_great := He.glo_ok X G (c.d.fact 23 (f := .glo "_law_great") rfl),
      b__law_great := (FunD.bindsN F23 fun _ _ _ _ _ _ us hl => match us, hl with | [_], _ => rfl),
      a__law_ring_right := He.ga K "_law_ring_right",
      fd__law_ring_right := fd24,
      F__law_ring_right := F24,
      m__law_ring_right := He.glo_ok X G (c.d.fact 24 (f := .glo "_law_ring_right") rfl),
      b__law_ring_right := (FunD.bindsN F24 fun _ _ _ _ _ _ us hl => match us, hl with | [_, _, _], _ => rfl),
      a__law_order_right := He.ga K "_law_order_right",
      fd__law_order_right := fd25,
      F__law_order_right := F25,
      m__law_order_right := He.glo_ok X G (c.d.fact 25 (f := .glo "_law_order_right") rfl),
      b__law_order_right := (FunD.bindsN F25 fun _ _ _ _ _ _ us hl => match us, hl with | [_, _, _], _ => rfl),
      a_law := He.ga K "law",
      fd_law := fd26,
      F_law := F26,
      m_law := He.glo_ok X G (c.d.fact 26 (f := .glo "law") rfl),
      b_law := (FunD.bindsN F26 fun _ _ _ _ _ _ us hl => match us, hl with | [_], _ => rfl),
      n_abs := He.free_ok X G (c.d.fact 27 (f := .free "abs") rfl),
      n_all := He.free_ok X G (c.d.fact 28 (f := .free "all") rfl),
      n_bool := He.free_ok X G (c.d.fact 29 (f := .free "bool") rfl),
      n_int := He.free_ok X G (c.d.fact 30 (f := .free "int") rfl),
      n_isinstance := He.free_ok X G (c.d.fact 31 (f := .free "isinstance") rfl),
      n_len := He.free_ok X G (c.d.fact 32 (f := .free "len") rfl),
      n_max := He.free_ok X G (c.d.fact 33 (f := .free "max") rfl),
      n_min := He.free_ok X G (c.d.fact 34 (f := .free "min") rfl),
      n_range := He.free_ok X G (c.d.fact 35 (f := .free "range") rfl),
      n_tuple := He.free_ok X G (c.d.fact 36 (f := .free "tuple") rfl),
      e_NoFraction := He.ga K "NoFraction",
      m_NoFraction := He.glo_ok X G (c.d.fact 37 (f := .glo "NoFraction") rfl),
      x_NoFraction := (He.exc_ok (c.d.fact 38 (f := .exc "NoFraction") rfl)).1,
      k_NoFraction := (He.exc_ok (c.d.fact 38 (f := .exc "NoFraction") rfl)).2.1,
      s_NoFraction := (He.exc_ok (c.d.fact 38 (f := .exc "NoFraction") rfl)).2.2.1,
      t_NoFraction := (He.exc_ok (c.d.fact 38 (f := .exc "NoFraction") rfl)).2.2.2,
      e_NoWhole := He.ga K "NoWhole",
      m_NoWhole := He.glo_ok X G (c.d.fact 39 (f := .glo "NoWhole") rfl),
      x_NoWhole := (He.exc_ok (c.d.fact 40 (f := .exc "NoWhole") rfl)).1,
      k_NoWhole := (He.exc_ok (c.d.fact 40 (f := .exc "NoWhole") rfl)).2.1,
      s_NoWhole := (He.exc_ok (c.d.fact 40 (f := .exc "NoWhole") rfl)).2.2.1,
      t_NoWhole := (He.exc_ok (c.d.fact 40 (f := .exc "NoWhole") rfl)).2.2.2,
      g_NOUGHT := fun hK hM hg => const_ok X G (c.x 0) hK hM hg (by decide),
      bk_made_1 := (FunD.zbn1 F11 1 [] [0, 1] (List.map Z.d [(.int 1)]) (by simp [He.DefD.dvs, d_made]) (fun H => .cons (.d (.int _)) .nil) fun _ _ _ _ _ _ _ us its ws h1 h2 h3 => match us, h1, its, h2, ws, h3 with | [_], _, [_], _, [], _ => ⟨_, rfl, rfl⟩) }, rfl, fun s u => FunD.bindsA (ps := ["_law_script"]) F26 (fun _ _ _ _ _ _ us hl => match us, hl with | [_], _ => rfl) s [u] rfl⟩
end Hd
open PySem PySem.W PySem.Calls PyProof.Rows
set_option maxRecDepth 100000 in
set_option maxHeartbeats 0 in
theorem PySem.Challenge.cw_platerest_k04_whole_fractions_together_holds : PySem.Challenge.rw_platerest_k04_whole_fractions_together.Holds := by
  w_on; o_law
  refine HandSHeadRun.head_any (r := OpenLaw.row PySem.Challenge.rw_platerest_k04_whole_fractions_together) (q := view (OpenLaw.row PySem.Challenge.rw_platerest_k04_whole_fractions_together).prog [33]) (H := Hd.hk) (ob := Hd.ob) (M := 3000) (loose := Hd.names) (d := HandSHeadRun.topDef (OpenLaw.row PySem.Challenge.rw_platerest_k04_whole_fractions_together).prog 33) (kwd := []) Hd.ob_eq
    (by kernel_rfl) (fun s => by kernel_rfl) Hd.run (by kernel_rfl) (by kernel_rfl) (by kernel_rfl) (by rfl) (by first | assumption | decide +kernel) (by decide +kernel) ⟨rfl, rfl, rfl, rfl, rfl, by decide +kernel⟩ ?hw ?hc
  case hw => w_witness2
  case hc =>
    refine ZL.zwalkE (l := PySem.Challenge.rw_platerest_k04_whole_fractions_together) (n := 63) (k := 7) (x := "_law_script") rfl (by decide) (by kernel_rfl) ⟨rfl, by decide, by decide⟩ ?F
    intro w mg fa h Y G hmg0
    obtain ⟨K, KX, c⟩ := Y
    have hmg : mg ("law" : PySem.Str) = some (.ref fa) := by
      have e : (HandSHeadRun.topDef (OpenLaw.row PySem.Challenge.rw_platerest_k04_whole_fractions_together).prog 33).name = ("law" : PySem.Str) := by kernel_rfl
      rw [← e]
      exact hmg0
    obtain ⟨T, ea, hb⟩ := Hd.facts KX G c
    have e := hmg.symm.trans T.m_law
    cases e
    exact ⟨K, T.fd_law, _, KX, hb, fun ns hl => ZL.vdue (_root_.K.law_true ns hl), fun base _ _ => _root_.K.ok_law T⟩
