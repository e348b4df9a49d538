import PyProof.Rows.All
import Wide.All
import OpenK.AllK
import Wide.FinOn
import HandS.ForExc
import HandS.Comp
import HandS.Dict
import HandS.Iter
import HandS.Walk
import HandS.IsInst
import HandS.TupAny
import HandS.Wide
import HandS.Text
import HandS.Defaults
import PyProof.ReprRoads
import HandS.Lambda
import HandS.RaiseMore
import HandS.ExcCtx
import HandS.Deep
import HandS.Style
import KE.GoesEnum
import HandS.Conv
import KE.KUnpackStar
import HandS.TryOnly
import HandS.SortInts
import HandS.TupSets
import HandS.Steps
import HandS.TupMul
import KE.KDictZip
import HandS.SetBool
import HandS.Head0
import HandS.Head1
import HandS.Head2
import HandS.HeadEnd
import HandS.HeadHook1
import HandS.HeadHook2
import HandS.TupLe
import HandS.ExcIs
import HandS.HotCalls
import HandS.HeadHook3
import HandS.HeadHook4
import HandS.EndTab
import PySem.Challenge.RW_platerest_k67_other_thicknesses
set_option Elab.async false
set_option linter.all false
set_option maxRecDepth 100000
set_option maxHeartbeats 4000000
namespace ZL
open PySem PySem.Spec PyProof.Rows L2
inductive Z where
  | d (x : PyData)
  | r (a : Addr)
  | k (xs : List PyData)
abbrev zi (i : Int) : Z := .d (.int i)
abbrev zb (b : Bool) : Z := .d (.bool b)
abbrev zt (xs : List PyData) : Z := .d (.tuple xs)
abbrev zl (xs : List PyData) : Z := .d (.list xs)
abbrev zs (x : Str) : Z := .d (.str x)
def SqF (H : Hp) (a : Addr) (xs : List V) : Prop := ∃ o, H a = some (.frz o (.lst xs))
def SqK (K : PySem.W.Frag) (H : Hp) (a : Addr) (xs : List V) : Prop :=
  (∃ o, H a = some (.frz o (.lst xs))) ∨
    ∃ (o : Obj) (its : Array Value) (n : Nat), K.lookup a = some o ∧ o.cls = .type "list" ∧ o.dict = none ∧ o.data = .seq its n ∧ its.size ≤ sizeLine ∧ Vals xs its.toList
theorem SqF.l {K : PySem.W.Frag} {H : Hp} {a : Addr} {xs : List V} (h : SqF H a xs) : SqL K H a xs := .inl (.inr h)
theorem SqK.l {K : PySem.W.Frag} {H : Hp} {a : Addr} {xs : List V} (h : SqK K H a xs) : SqL K H a xs := by
  rcases h with h | h
  · exact .inl (.inr h)
  · exact .inr h
mutual
inductive Fz (K : PySem.W.Frag) (H : Hp) : V → PyData → Prop
  | non : Fz K H .non .none
  | bl (b : Bool) : Fz K H (.bl b) (.bool b)
  | int (i : Int) : Fz K H (.int i) (.int i)
  | str (x : Str) : Fz K H (.str x) (.str x)
  | lst {a : Addr} {xs : List V} {ds : List PyData} : SqF H a xs → FzAll K H xs ds → Fz K H (.ref a) (.list ds)
  | tup {a : Addr} {xs : List V} {ds : List PyData} : SqT K H a xs → FzAll K H xs ds → Fz K H (.ref a) (.tuple ds)
  | dic {a : Addr} {o : Obj} {kvs : List (Key × V)} {ds : List (Int × PyData)} : H a = some (.frz o (.dK kvs)) → kvs.map (·.1) = ds.map (fun p => Sum.inl p.1) → FzAll K H (kvs.map (·.2)) (ds.map (·.2)) → Fz K H (.ref a) (.dict (ds.map fun p => (.int p.1, p.2)))
inductive FzAll (K : PySem.W.Frag) (H : Hp) : List V → List PyData → Prop
  | nil : FzAll K H [] []
  | cons {v : V} {vs : List V} {d : PyData} {ds : List PyData} : Fz K H v d → FzAll K H vs ds → FzAll K H (v :: vs) (d :: ds)
end
structure Le (H H' : Hp) : Prop where
  tup : ∀ b xs, H b = some (.tup xs) → H' b = some (.tup xs)
  frz : ∀ b o u, H b = some (.frz o u) → H' b = some (.frz o u)
theorem Le.refl (H : Hp) : Le H H := ⟨fun _ _ h => h, fun _ _ _ h => h⟩
theorem Le.trans {H H1 H2 : Hp} (a : Le H H1) (b : Le H1 H2) : Le H H2 := ⟨fun c xs h => b.tup c xs (a.tup c xs h), fun c o u h => b.frz c o u (a.frz c o u h)⟩
theorem Le.same {H H' : Hp} (h : Same H H') : Le H H' := ⟨fun _ _ e => h _ _ e, fun _ _ _ e => h _ _ e⟩
section
variable {K : PySem.W.Frag} {H H' : Hp}
theorem SqF.le (l : Le H H') {a : Addr} {xs : List V} (h : SqF H a xs) : SqF H' a xs := let ⟨o, h⟩ := h; ⟨o, l.frz _ _ _ h⟩
theorem SqK.le (l : Le H H') {a : Addr} {xs : List V} (h : SqK K H a xs) : SqK K H' a xs := by
  rcases h with ⟨o, h⟩ | h
  · exact .inl ⟨o, l.frz _ _ _ h⟩
  · exact .inr h
theorem sqT_le (l : Le H H') {a : Addr} {xs : List V} (h : SqT K H a xs) : SqT K H' a xs := by
  rcases h with (h | ⟨o, h⟩) | h
  · exact .inl (.inl (l.tup _ _ h))
  · exact .inl (.inr ⟨o, l.frz _ _ _ h⟩)
  · exact .inr h
mutual
theorem Fz.le (l : Le H H') : ∀ {d : PyData} {v : V}, Fz K H v d → Fz K H' v d
  | _, _, .non => .non
  | _, _, .bl b => .bl b
  | _, _, .int i => .int i
  | _, _, .str x => .str x
  | _, _, .lst s h => .lst (s.le l) (FzAll.le l h)
  | _, _, .tup s h => .tup (sqT_le l s) (FzAll.le l h)
  | _, _, .dic e k h => .dic (l.frz _ _ _ e) k (FzAll.le l h)
theorem FzAll.le (l : Le H H') : ∀ {ds : List PyData} {vs : List V}, FzAll K H vs ds → FzAll K H' vs ds
  | _, _, .nil => .nil
  | _, _, .cons h t => .cons (Fz.le l h) (FzAll.le l t)
end
theorem FzAll.length : ∀ {ds : List PyData} {vs : List V}, FzAll K H vs ds → vs.length = ds.length
  | _, _, .nil => rfl
  | _, _, .cons _ t => congrArg Nat.succ (FzAll.length t)
theorem FzAll.append : ∀ {ds : List PyData} {vs : List V} {es : List PyData} {us : List V}, FzAll K H vs ds → FzAll K H us es → FzAll K H (vs ++ us) (ds ++ es)
  | _, _, _, _, .nil, h => h
  | _, _, _, _, .cons h t, q => .cons h (FzAll.append t q)
theorem FzAll.one {v : V} {d : PyData} (h : Fz K H v d) : FzAll K H [v] [d] := .cons h .nil
theorem FzAll.take : ∀ (n : Nat) {ds : List PyData} {vs : List V}, FzAll K H vs ds → FzAll K H (vs.take n) (ds.take n)
  | 0, _, _, _ => .nil
  | n + 1, _, _, .nil => .nil
  | n + 1, _, _, .cons h t => .cons h (FzAll.take n t)
theorem FzAll.drop : ∀ (n : Nat) {ds : List PyData} {vs : List V}, FzAll K H vs ds → FzAll K H (vs.drop n) (ds.drop n)
  | 0, _, _, h => h
  | n + 1, _, _, .nil => .nil
  | n + 1, _, _, .cons h t => FzAll.drop n t
theorem FzAll.set : ∀ (n : Nat) {ds : List PyData} {vs : List V} {v : V} {d : PyData}, Fz K H v d → FzAll K H vs ds → FzAll K H (vs.set n v) (ds.set n d)
  | _, _, _, _, _, _, .nil => .nil
  | 0, _, _, _, _, q, .cons h t => .cons q t
  | n + 1, _, _, _, _, q, .cons h t => .cons h (FzAll.set n q t)
theorem FzAll.get : ∀ {ds : List PyData} {vs : List V} {i : Nat} {d : PyData}, FzAll K H vs ds → ds[i]? = some d → ∃ v, vs[i]? = some v ∧ Fz K H v d
  | _, _, _, _, .nil, e => by simp at e
  | _, _, 0, _, .cons h t, e => by simp at e; subst e; exact ⟨_, rfl, h⟩
  | _, _, i + 1, _, .cons h t, e => by
    obtain ⟨v, e1, q⟩ := FzAll.get (i := i) t (by simpa using e)
    exact ⟨v, by simpa using e1, q⟩
theorem FzAll.get' : ∀ {ds : List PyData} {vs : List V} {i : Nat} {v : V}, FzAll K H vs ds → vs[i]? = some v → ∃ d, ds[i]? = some d ∧ Fz K H v d
  | _, _, _, _, .nil, e => by simp at e
  | _, _, 0, _, .cons h t, e => by simp at e; subst e; exact ⟨_, rfl, h⟩
  | _, _, i + 1, _, .cons h t, e => by
    obtain ⟨v, e1, q⟩ := FzAll.get' (i := i) t (by simpa using e)
    exact ⟨v, by simpa using e1, q⟩
theorem FzAll.ints : ∀ {ns : List Int} {vs : List V}, FzAll K H vs (ns.map PyData.int) → vs = ns.map V.int
  | [], _, h => by cases h; rfl
  | n :: r, _, h => by
    cases h with
    | cons h t => cases h; rw [FzAll.ints t]; rfl
theorem FzAll.ofInts : ∀ (ns : List Int), FzAll K H (ns.map V.int) (ns.map PyData.int)
  | [] => .nil
  | n :: r => .cons (.int n) (FzAll.ofInts r)
theorem FzAll.bools : ∀ {bs : List Bool} {vs : List V}, FzAll K H vs (bs.map PyData.bool) → vs = bs.map V.bl
  | [], _, h => by cases h; rfl
  | n :: r, _, h => by
    cases h with
    | cons h t => cases h; rw [FzAll.bools t]; rfl
end
inductive Cell where
  | lst (xs : List PyData)
  | tab (dss : List (List PyData))
  | own (p : Addr) (m : Nat)
  | tbl (q : Str)
abbrev Sto := Addr → Option Cell
def Sto.put (S : Sto) (a : Addr) (c : Cell) : Sto := fun b => if b = a then some c else S b
theorem put_same {S : Sto} {a : Addr} {c : Cell} : S.put a c a = some c := by unfold Sto.put; rw [if_pos rfl]
theorem put_ne {S : Sto} {a b : Addr} {c : Cell} (h : b ≠ a) : S.put a c b = S b := by unfold Sto.put; rw [if_neg h]
def CellOk (K : PySem.W.Frag) (S : Sto) (H : Hp) (a : Addr) : Cell → Prop
  | .lst ds => ∃ xs, H a = some (.lst xs) ∧ FzAll K H xs ds
  | .tab dss => ∃ as : List Addr, H a = some (.lst (as.map V.ref)) ∧ as.length = dss.length ∧ ∀ m b ds, as[m]? = some b → dss[m]? = some ds → S b = some (.own a m) ∧ ∃ xs, H b = some (.lst xs) ∧ FzAll K H xs ds
  | .own p m => (∃ xs, H a = some (.lst xs)) ∧ (∃ dss, S p = some (.tab dss)) ∧ ∃ as : List Addr, H p = some (.lst (as.map V.ref)) ∧ as[m]? = some a
  | .tbl q => LamX.TabS H a q
def RS0 (K : PySem.W.Frag) (S : Sto) (H : Hp) : Prop := ∀ a c, S a = some c → CellOk K S H a c
def Step (S S' : Sto) (H H' : Hp) : Prop := ∀ b o, H b = some o → S b = none → H' b = some o ∧ S' b = none
theorem Step.refl (S : Sto) (H : Hp) : Step S S H H := fun _ _ h e => ⟨h, e⟩
theorem Step.trans {S S1 S2 : Sto} {H H1 H2 : Hp} (a : Step S S1 H H1) (b : Step S1 S2 H1 H2) : Step S S2 H H2 := fun c o h e => let ⟨h1, e1⟩ := a c o h e; b c o h1 e1
section
variable {K : PySem.W.Frag} {S S' : Sto} {H H' : Hp}
theorem CellOk.is {a : Addr} {c : Cell} (h : CellOk K S H a c) : (∃ xs, H a = some (.lst xs)) ∨ ∃ ps, H a = some (.tbl ps) := by
  cases c with
  | lst ds => obtain ⟨xs, q, _⟩ := h; exact .inl ⟨xs, q⟩
  | tab dss => obtain ⟨as, q, _⟩ := h; exact .inl ⟨_, q⟩
  | own p m => exact .inl h.1
  | tbl q => obtain ⟨ps, q, _⟩ := h; exact .inr ⟨ps, q⟩
structure Ln (H H' : Hp) : Prop where
  le : Le H H'
  tb : ∀ b ps, H b = some (.tbl ps) → H' b = some (.tbl ps)
  cd : ∀ b q, H b = some (LamX.CodeO b q) → H' b = some (LamX.CodeO b q)
theorem Ln.same (h : Same H H') : Ln H H' := ⟨.same h, fun b ps e => h b _ e, fun b q e => h b _ e⟩
theorem Ln.refl (H : Hp) : Ln H H := ⟨.refl _, fun _ _ e => e, fun _ _ e => e⟩
theorem Ln.but {a : Addr} {o : HO} {u : HO} (h : H a = some u) (h1 : ∀ xs, u ≠ .tup xs) (h2 : ∀ ob v, u ≠ .frz ob v) (h3 : ∀ ps, u ≠ .tbl ps) (h4 : ∀ q, u ≠ LamX.CodeO a q) : Ln H (upd H a o) := by
  have ne : ∀ {b : Addr} {v : HO}, H b = some v → (b = a → u ≠ v) → b ≠ a := fun {b v} e n z => by
    have := n z
    rw [z, h] at e
    exact this (Option.some.inj e)
  exact ⟨⟨fun b xs e => by rw [upd_ne (ne e fun _ => h1 xs)]; exact e, fun b ob v e => by rw [upd_ne (ne e fun _ => h2 ob v)]; exact e⟩, fun b ps e => by rw [upd_ne (ne e fun _ => h3 ps)]; exact e,
    fun b q e => by rw [upd_ne (ne e fun z => by rw [z]; exact h4 q)]; exact e⟩
theorem tabS_ln {a : Addr} {q : Str} (h : LamX.TabS H a q) (l : Ln H H') : LamX.TabS H' a q := by
  obtain ⟨ps, h1, h2, h3⟩ := h
  refine ⟨ps, l.tb _ _ h1, h2, fun pos cv hc => ?_⟩
  obtain ⟨c, e1, e2⟩ := h3 pos cv hc
  exact ⟨c, e1, l.cd _ _ e2⟩
theorem CellOk.keep {a : Addr} {c : Cell} (h : CellOk K S H a c) (l : Ln H H') (k : ∀ b xs, (b = a ∨ (∃ m, S b = some (.own a m)) ∨ ∃ m, S a = some (.own b m)) → H b = some (.lst xs) → H' b = some (.lst xs)) (o : ∀ b m, S b = some (.own a m) → S' b = some (.own a m)) (t : ∀ p m, c = .own p m → S a = some c ∧ ∀ dss, S p = some (.tab dss) → ∃ dss', S' p = some (.tab dss')) : CellOk K S' H' a c := by
  cases c with
  | lst ds => obtain ⟨xs, q, f⟩ := h; exact ⟨xs, k a xs (.inl rfl) q, f.le l.le⟩
  | tab dss =>
    obtain ⟨as, q, e, r⟩ := h
    refine ⟨as, k a _ (.inl rfl) q, e, fun m b ds h1 h2 => ?_⟩
    obtain ⟨h3, xs, h4, f⟩ := r m b ds h1 h2
    exact ⟨o b m h3, xs, k b xs (.inr (.inl ⟨m, h3⟩)) h4, f.le l.le⟩
  | own p m =>
    obtain ⟨⟨xs, q⟩, ⟨dss, ep⟩, as, hp, e⟩ := h
    obtain ⟨h1, h2⟩ := t p m rfl
    exact ⟨⟨xs, k a xs (.inl rfl) q⟩, h2 dss ep, as, k p _ (.inr (.inr ⟨m, h1⟩)) hp, e⟩
  | tbl q => exact tabS_ln h l
theorem CellOk.all {a : Addr} {c : Cell} (h : CellOk K S H a c) (e : S a = some c) (l : Ln H H') (k : ∀ b xs, S b ≠ none → H b = some (.lst xs) → H' b = some (.lst xs)) (o : ∀ b d, S b = some d → S' b = some d) : CellOk K S' H' a c := by
  refine h.keep l (fun b xs q hb => k b xs ?_ hb) (fun b m q => o _ _ q) fun p m q => ⟨e, fun dss q => ⟨dss, o _ _ q⟩⟩
  rcases q with rfl | ⟨m, q⟩ | ⟨m, q⟩
  · rw [e]; exact fun z => nomatch z
  · rw [q]; exact fun z => nomatch z
  · rw [e] at q
    cases q
    obtain ⟨_, ⟨dss, ep⟩, _⟩ := h
    rw [ep]; exact fun z => nomatch z
theorem RS0.notin (r : RS0 K S H) {b : Addr} {o : HO} (h : H b = some o) (n : ∀ xs, o ≠ .lst xs) (n2 : ∀ ps, o ≠ .tbl ps := by intro _ z; exact nomatch z) : S b = none := by
  cases e : S b with
  | none => rfl
  | some c =>
    rcases (r b _ e).is with ⟨xs, q⟩ | ⟨ps, q⟩
    · rw [h] at q
      exact absurd (Option.some.inj q) (n xs)
    · rw [h] at q
      exact absurd (Option.some.inj q) (n2 ps)
theorem Step.le (r : RS0 K S H) (s : Step S S' H H') : Le H H' :=
  ⟨fun b xs h => (s b _ h (r.notin h fun _ z => nomatch z)).1, fun b o u h => (s b _ h (r.notin h fun _ z => nomatch z)).1⟩
theorem RS0.fresh (r : RS0 K S H) {p : Addr} (h : H p = none) : S p = none := by
  cases e : S p with
  | none => rfl
  | some c =>
    rcases (r p _ e).is with ⟨xs, q⟩ | ⟨xs, q⟩ <;> (rw [h] at q; cases q)
theorem RS0.same (r : RS0 K S H) (h : Same H H') : RS0 K S H' := fun a c e => (r a c e).all e (Ln.same h) (fun b xs _ q => h _ _ q) fun _ _ q => q
theorem same_fresh {p : Addr} {o : HO} (h : H p = none) : Same H (upd H p o) := fun b u e => by rw [upd_ne (ne_of_none e h)]; exact e
theorem step_same (h : Same H H') : Step S S H H' := fun b o e n => ⟨h _ _ e, n⟩
theorem RS0.new (r : RS0 K S H) {p : Addr} {xs : List V} {ds : List PyData} (h : H p = none) (f : FzAll K H xs ds) : RS0 K (S.put p (.lst ds)) (upd H p (.lst xs)) := fun a c e => by
  by_cases q : a = p
  · subst q
    rw [put_same] at e; cases e
    exact ⟨xs, upd_same, f.le (.same (same_fresh h))⟩
  · rw [put_ne q] at e
    refine (r a c e).all e (Ln.same (same_fresh h)) (fun b xs _ q => same_fresh h b _ q) fun b d q => ?_
    rw [put_ne fun z => by rw [z, r.fresh h] at q; cases q]; exact q
theorem step_new {p : Addr} {o : HO} {c : Cell} (h : H p = none) : Step S (S.put p c) H (upd H p o) := fun b u e n => ⟨same_fresh h b u e, by rw [put_ne (ne_of_none e h)]; exact n⟩
theorem le_set {a : Addr} {xs ys : List V} (h : H a = some (.lst xs)) : Le H (upd H a (.lst ys)) :=
  ⟨fun b zs e => by rw [upd_ne (ne_of e h fun z => nomatch z)]; exact e, fun b o u e => by rw [upd_ne (ne_of e h fun z => nomatch z)]; exact e⟩
theorem ln_set {a : Addr} {xs : List V} {o : HO} (h : H a = some (.lst xs)) : Ln H (upd H a o) := .but h (fun _ z => nomatch z) (fun _ _ z => nomatch z) (fun _ z => nomatch z) fun q z => by unfold LamX.CodeO at z; cases z
theorem RS0.set (r : RS0 K S H) {a : Addr} {es : List PyData} {xs : List V} {ds : List PyData} (e : S a = some (.lst es)) (f : FzAll K H xs ds) : RS0 K (S.put a (.lst ds)) (upd H a (.lst xs)) := by
  obtain ⟨ys, h, _⟩ := r a _ e
  intro b c e'
  by_cases q : b = a
  · subst q
    rw [put_same] at e'; cases e'
    exact ⟨xs, upd_same, f.le (le_set h)⟩
  · rw [put_ne q] at e'
    refine (r b c e').keep (ln_set h) (fun x zs hx hz => ?_) (fun x m hx => ?_) fun p m hp => ⟨e', fun dss hd => ⟨dss, ?_⟩⟩
    · have : x ≠ a := by
        rcases hx with rfl | ⟨m, hx⟩ | ⟨m, hx⟩
        · exact q
        · intro z; rw [z, e] at hx; cases hx
        · intro z
          rw [e'] at hx
          cases hx
          obtain ⟨_, ⟨dss, ep⟩, _⟩ := r b _ e'
          rw [z, e] at ep; cases ep
      rw [upd_ne this]; exact hz
    · rw [put_ne fun z => by rw [z, e] at hx; cases hx]; exact hx
    · rw [put_ne fun z => by rw [z, e] at hd; cases hd]; exact hd
theorem step_set {a : Addr} {c c' : Cell} {o : HO} (e : S a = some c) : Step S (S.put a c') H (upd H a o) := fun b u h n => by
  have ne : b ≠ a := fun z => by rw [z, e] at n; cases n
  exact ⟨by rw [upd_ne ne]; exact h, by rw [put_ne ne]; exact n⟩
end
structure Bs where
  S0 : Sto
  H0 : Hp
def RS (K : PySem.W.Frag) (B : Bs) (S : Sto) (H : Hp) : Prop := RS0 K S H ∧ Step B.S0 S B.H0 H
theorem RS.step {K : PySem.W.Frag} {B : Bs} {S S' : Sto} {H H' : Hp} (r : RS K B S H) (r' : RS0 K S' H') (s : Step S S' H H') : RS K B S' H' := ⟨r', r.2.trans s⟩
inductive RZ (K : PySem.W.Frag) (H : Hp) : V → Z → Prop
  | d {v : V} {x : PyData} : Fz K H v x → RZ K H v (.d x)
  | r (a : Addr) : RZ K H (.ref a) (.r a)
  | k {a : Addr} {xs : List V} {ds : List PyData} : SqK K H a xs → FzAll K H xs ds → RZ K H (.ref a) (.k ds)
inductive RZs (K : PySem.W.Frag) (H : Hp) : List V → List Z → Prop
  | nil : RZs K H [] []
  | cons {v : V} {vs : List V} {z : Z} {zs : List Z} : RZ K H v z → RZs K H vs zs → RZs K H (v :: vs) (z :: zs)
abbrev ZEnv := List (Option Z)
inductive RE (K : PySem.W.Frag) (H : Hp) : ZEnv → L2.St → Prop
  | nil : RE K H [] []
  | non {o : Option V} {ρ : ZEnv} {σ : L2.St} : RE K H ρ σ → RE K H (none :: ρ) (o :: σ)
  | val {z : Z} {v : V} {ρ : ZEnv} {σ : L2.St} : RZ K H v z → RE K H ρ σ → RE K H (some z :: ρ) (some v :: σ)
section
variable {K : PySem.W.Frag} {H H' : Hp}
theorem RZ.le (l : Le H H') {v : V} {z : Z} : RZ K H v z → RZ K H' v z
  | .d h => .d (h.le l)
  | .r a => .r a
  | .k s h => .k (s.le l) (h.le l)
theorem RZs.le (l : Le H H') : ∀ {vs : List V} {zs : List Z}, RZs K H vs zs → RZs K H' vs zs
  | _, _, .nil => .nil
  | _, _, .cons h t => .cons (h.le l) (RZs.le l t)
theorem RE.le (l : Le H H') : ∀ {ρ : ZEnv} {σ : L2.St}, RE K H ρ σ → RE K H' ρ σ
  | _, _, .nil => .nil
  | _, _, .non t => .non (RE.le l t)
  | _, _, .val h t => .val (h.le l) (RE.le l t)
theorem RE.get : ∀ {ρ : ZEnv} {σ : L2.St} {i : Nat} {z : Z}, RE K H ρ σ → ρ[i]? = some (some z) → ∃ v, σ[i]? = some (some v) ∧ RZ K H v z
  | _, _, _, _, .nil, e => by simp at e
  | _, _, 0, _, .non _, e => by simp at e
  | _, _, 0, _, .val h t, e => by simp at e; subst e; exact ⟨_, rfl, h⟩
  | _, _, i + 1, _, .non t, e => by
    obtain ⟨v, e1, q⟩ := RE.get (i := i) t (by simpa using e)
    exact ⟨v, by simpa using e1, q⟩
  | _, _, i + 1, _, .val h t, e => by
    obtain ⟨v, e1, q⟩ := RE.get (i := i) t (by simpa using e)
    exact ⟨v, by simpa using e1, q⟩
theorem RE.set : ∀ {ρ : ZEnv} {σ : L2.St} (i : Nat) {v : V} {z : Z}, RZ K H v z → RE K H ρ σ → RE K H (ρ.set i (some z)) (σ.set i (some v))
  | _, _, _, _, _, _, .nil => .nil
  | _, _, 0, _, _, q, .non t => .val q t
  | _, _, 0, _, _, q, .val h t => .val q t
  | _, _, i + 1, _, _, q, .non t => .non (RE.set i q t)
  | _, _, i + 1, _, _, q, .val h t => .val h (RE.set i q t)
theorem RE.unset : ∀ {ρ : ZEnv} {σ : L2.St} (i : Nat) {o : Option V}, RE K H ρ σ → RE K H (ρ.set i none) (σ.set i o)
  | _, _, _, _, .nil => .nil
  | _, _, 0, _, .non t => .non t
  | _, _, 0, _, .val h t => .non t
  | _, _, i + 1, _, .non t => .non (RE.unset i t)
  | _, _, i + 1, _, .val h t => .val h (RE.unset i t)
def zwipe (ρ : ZEnv) : List Nat → ZEnv
  | [] => ρ
  | v :: vs => (zwipe ρ vs).set v none
theorem RE.wipe {ρ : ZEnv} {σ : L2.St} (h : RE K H ρ σ) : ∀ vs : List Nat, RE K H (zwipe ρ vs) (wipe σ vs)
  | [] => h
  | v :: vs => RE.unset v (RE.wipe h vs)
def zstart (N : List Str) (zs : List Z) : ZEnv := zs.map some ++ List.replicate (N.length - zs.length) none
theorem RE.nones : ∀ (n : Nat), RE K H (List.replicate n none) (List.replicate n none)
  | 0 => .nil
  | n + 1 => .non (RE.nones n)
theorem RE.starts : ∀ {vs : List V} {zs : List Z} {ρ : ZEnv} {σ : L2.St}, RZs K H vs zs → RE K H ρ σ → RE K H (zs.map some ++ ρ) (vs.map some ++ σ)
  | _, _, _, _, .nil, h => h
  | _, _, _, _, .cons q t, h => .val q (RE.starts t h)
theorem RZs.length : ∀ {vs : List V} {zs : List Z}, RZs K H vs zs → vs.length = zs.length
  | _, _, .nil => rfl
  | _, _, .cons _ t => congrArg Nat.succ (RZs.length t)
theorem RE.start {N : List Str} {vs : List V} {zs : List Z} (h : RZs K H vs zs) : RE K H (zstart N zs) (start N vs) := by
  unfold zstart L2.start
  rw [h.length]
  exact RE.starts h (RE.nones _)
end
abbrev ZQ := Z → Sto → Prop
abbrev ZT := ZEnv → Sto → ZQ → Prop
abbrev ZA := ZEnv → Sto → (List Z → Sto → Prop) → Prop
abbrev ZB := ZEnv → Sto → (Bool → Sto → Prop) → Prop
def low (K : PySem.W.Frag) (B : Bs) (t : ZT) : TE := fun σ H Q => ∃ ρ S, RE K H ρ σ ∧ RS K B S H ∧ t ρ S fun z S' => ∀ v H', Step S S' H H' → RZ K H' v z → RS K B S' H' → Q v H'
def lowA (K : PySem.W.Frag) (B : Bs) (t : ZA) : TA := fun σ H Q => ∃ ρ S, RE K H ρ σ ∧ RS K B S H ∧ t ρ S fun zs S' => ∀ vs H', Step S S' H H' → RZs K H' vs zs → RS K B S' H' → Q vs H'
def lowB (K : PySem.W.Frag) (B : Bs) (t : ZB) : TT := fun σ H Q => ∃ ρ S, RE K H ρ σ ∧ RS K B S H ∧ t ρ S fun b S' => ∀ H', Step S S' H H' → RS K B S' H' → Q b H'
structure ZE (X : Cx) (B : Bs) (e : Expr) (t : ZT) : Prop where
  mono : ∀ {ρ S} {Q Q' : ZQ}, (∀ z S', Q z S' → Q' z S') → t ρ S Q → t ρ S Q'
  pe : PE X e (low X.K B t)
structure ZAs (X : Cx) (B : Bs) (es : List Expr) (t : ZA) : Prop where
  mono : ∀ {ρ S} {Q Q' : List Z → Sto → Prop}, (∀ z S', Q z S' → Q' z S') → t ρ S Q → t ρ S Q'
  pa : PA X es (lowA X.K B t)
structure ZTe (X : Cx) (B : Bs) (e : Expr) (t : ZB) : Prop where
  mono : ∀ {ρ S} {Q Q' : Bool → Sto → Prop}, (∀ z S', Q z S' → Q' z S') → t ρ S Q → t ρ S Q'
  pt : PT X e (lowB X.K B t)
structure ZW (X : Cx) (B : Bs) (e : Expr) (t : ZB) : Prop where
  mono : ∀ {ρ S} {Q Q' : Bool → Sto → Prop}, (∀ z S', Q z S' → Q' z S') → t ρ S Q → t ρ S Q'
  pw : PW X e (lowB X.K B t)
theorem PE.imp {X : Cx} {e : Expr} {t t' : TE} (h : PE X e t) (q : ∀ σ H Q, t' σ H Q → t σ H Q) : PE X e t' := ⟨fun pins s σ H Q I w => h.run pins s σ H Q I (q σ H Q w)⟩
theorem PA.imp {X : Cx} {e : List Expr} {t t' : TA} (h : PA X e t) (q : ∀ σ H Q, t' σ H Q → t σ H Q) : PA X e t' := ⟨fun pos pins s σ H Q I w => h.run pos pins s σ H Q I (q σ H Q w)⟩
theorem PT.imp {X : Cx} {e : Expr} {t t' : TT} (h : PT X e t) (q : ∀ σ H Q, t' σ H Q → t σ H Q) : PT X e t' := ⟨fun pins s σ H Q I w => h.run pins s σ H Q I (q σ H Q w)⟩
theorem PW.imp {X : Cx} {e : Expr} {t t' : TT} (h : PW X e t) (q : ∀ σ H Q, t' σ H Q → t σ H Q) : PW X e t' := ⟨fun wh pins s σ H Q I w => h.run wh pins s σ H Q I (q σ H Q w)⟩
theorem PS.imp {X : Cx} {e : Stmt} {t t' : TS} (h : PS X e t) (q : ∀ D σ H, t' D σ H → t D σ H) : PS X e t' := ⟨fun pins s σ H D I w => h.run pins s σ H D I (q D σ H w)⟩
theorem PSs.imp {X : Cx} {e : List Stmt} {t t' : TS} (h : PSs X e t) (q : ∀ D σ H, t' D σ H → t D σ H) : PSs X e t' := ⟨fun pins s σ H D I w => h.run pins s σ H D I (q D σ H w)⟩
section
variable {X : Cx} {B : Bs} {e a b : Expr} {es : List Expr} {ta tb : ZT} {t : ZA} {tc : ZB}
theorem ZE.go (h : ZE X B e ta) {ρ : ZEnv} {S : Sto} {σ : L2.St} {H : Hp} {R : ZQ} {Q : VK} (hE : RE X.K H ρ σ) (hS : RS X.K B S H) (w : ta ρ S R)
    (k : ∀ z S' v H', R z S' → Step S S' H H' → RE X.K H' ρ σ → RS X.K B S' H' → RZ X.K H' v z → Q v H') : low X.K B ta σ H Q :=
  ⟨ρ, S, hE, hS, h.mono (fun z S' r v H' st rz rs => k z S' v H' r st (hE.le (st.le hS.1)) rs rz) w⟩
theorem ZAs.go (h : ZAs X B es t) {ρ : ZEnv} {S : Sto} {σ : L2.St} {H : Hp} {R : List Z → Sto → Prop} {Q : List V → Hp → Prop} (hE : RE X.K H ρ σ) (hS : RS X.K B S H) (w : t ρ S R)
    (k : ∀ z S' v H', R z S' → Step S S' H H' → RE X.K H' ρ σ → RS X.K B S' H' → RZs X.K H' v z → Q v H') : lowA X.K B t σ H Q :=
  ⟨ρ, S, hE, hS, h.mono (fun z S' r v H' st rz rs => k z S' v H' r st (hE.le (st.le hS.1)) rs rz) w⟩
theorem ZTe.go (h : ZTe X B e tc) {ρ : ZEnv} {S : Sto} {σ : L2.St} {H : Hp} {R : Bool → Sto → Prop} {Q : Bool → Hp → Prop} (hE : RE X.K H ρ σ) (hS : RS X.K B S H) (w : tc ρ S R)
    (k : ∀ z S' H', R z S' → Step S S' H H' → RE X.K H' ρ σ → RS X.K B S' H' → Q z H') : lowB X.K B tc σ H Q :=
  ⟨ρ, S, hE, hS, h.mono (fun z S' r H' st rs => k z S' H' r st (hE.le (st.le hS.1)) rs) w⟩
theorem ZW.go (h : ZW X B e tc) {ρ : ZEnv} {S : Sto} {σ : L2.St} {H : Hp} {R : Bool → Sto → Prop} {Q : Bool → Hp → Prop} (hE : RE X.K H ρ σ) (hS : RS X.K B S H) (w : tc ρ S R)
    (k : ∀ z S' H', R z S' → Step S S' H H' → RE X.K H' ρ σ → RS X.K B S' H' → Q z H') : lowB X.K B tc σ H Q :=
  ⟨ρ, S, hE, hS, h.mono (fun z S' r H' st rs => k z S' H' r st (hE.le (st.le hS.1)) rs) w⟩
abbrev ZR2 := Z → Z → Sto → ZQ → Prop
def lowR (K : PySem.W.Frag) (B : Bs) (r : ZR2) : R2 := fun x y H Q => ∃ z1 z2 S, RZ K H x z1 ∧ RZ K H y z2 ∧ RS K B S H ∧ r z1 z2 S fun z S' => ∀ v H', Step S S' H H' → RZ K H' v z → RS K B S' H' → Q v H'
structure ZOp (X : Cx) (f : Value → Value → Sem Value) (r : ZR2) : Prop where
  mono : ∀ {x y S} {Q Q' : ZQ}, (∀ z S', Q z S' → Q' z S') → r x y S Q → r x y S Q'
  op : ∀ B, OpR X f (lowR X.K B r)
def zOp (r : ZR2) (ta tb : ZT) : ZT := fun ρ S Q => ta ρ S fun x S1 => tb ρ S1 fun y S2 => r x y S2 Q
theorem low_op {f : Value → Value → Sem Value} {r : ZR2} (ho : ZOp X f r) (ha : ZE X B a ta) (hb : ZE X B b tb) : ∀ σ H Q, low X.K B (zOp r ta tb) σ H Q → tOp (lowR X.K B r) (low X.K B ta) (low X.K B tb) σ H Q := by
  rintro σ H Q ⟨ρ, S, hE, hS, h⟩
  refine ha.go hE hS h fun x S1 v1 H1 h1 st1 E1 R1 z1 => ?_
  refine hb.go E1 R1 h1 fun y S2 v2 H2 h2 st2 E2 R2 z2 => ?_
  exact ⟨x, y, S2, z1.le (st2.le R1.1), z2, R2, ho.mono (fun z S' q v H' st rz rs => q v H' ((st1.trans st2).trans st) rz rs) h2⟩
theorem zOp_mono {f : Value → Value → Sem Value} {r : ZR2} (ho : ZOp X f r) (ha : ZE X B a ta) (hb : ZE X B b tb) {ρ : ZEnv} {S : Sto} {Q Q' : ZQ} (q : ∀ z S', Q z S' → Q' z S') (h : zOp r ta tb ρ S Q) : zOp r ta tb ρ S Q' :=
  ha.mono (fun x S1 h1 => hb.mono (fun y S2 h2 => ho.mono q h2) h1) h
theorem ze_op {op : Operator} {r : ZR2} {pos : Pos} (ho : ZOp X (binaryOp op) r) (ha : ZE X B a ta) (hb : ZE X B b tb) : ZE X B (.BinOp a op b pos) (zOp r ta tb) :=
  ⟨zOp_mono ho ha hb, PE.imp (pe_op (ho.op B) ha.pe hb.pe) (low_op ho ha hb)⟩
theorem ze_cmp {op : CmpOp} {r : ZR2} {pos : Pos} (ho : ZOp X (compareOp op) r) (ha : ZE X B a ta) (hb : ZE X B b tb) (hm : behindInMarks op b = false := by first | rfl | exact nomark _) : ZE X B (.Compare a [op] [b] pos) (zOp r ta tb) :=
  ⟨zOp_mono ho ha hb, PE.imp (pe_cmpR (ho.op B) ha.pe hb.pe hm) (low_op ho ha hb)⟩
def zVar (i : Nat) : ZT := fun ρ S Q => match ρ[i]? with
  | some (some z) => Q z S
  | _ => False
def zC (z : Z) : ZT := fun _ S Q => Q z S
theorem zv (i : Nat) {x : Str} {pos : Pos} (hN : X.N[i]? = some x := by rfl) (hv : Vis X.env.scope x := by first | exact Or.inl rfl | exact Or.inr (Or.inl rfl) | exact Or.inr (Or.inr rfl)) (hd : (x == ("__debug__" : Str)) = false := by decide)
    (hcd : (x == ("__classdict__" : Str)) = false := by decide) : ZE X B (.Name x pos) (zVar i) := by
  refine ⟨fun {ρ S Q Q'} q h => ?_, PE.imp (pe_var hN hv hd hcd) ?_⟩
  · unfold zVar at *
    split at h
    · exact q _ _ h
    · exact h.elim
  · rintro σ H Q ⟨ρ, S, hE, hS, h⟩
    unfold zVar at h
    split at h
    · rename_i z e
      obtain ⟨v, e1, rz⟩ := hE.get e
      exact ⟨v, e1, h v H (.refl _ _) rz hS⟩
    · exact h.elim
theorem ze_C {z : Z} {v : V} (h : PE X e (tC v)) (hz : ∀ H, RZ X.K H v z) : ZE X B e (zC z) := by
  refine ⟨fun q h => q _ _ h, PE.imp h ?_⟩
  rintro σ H Q ⟨ρ, S, hE, hS, h⟩
  exact h v H (.refl _ _) (hz H) hS
theorem ze_int {i j pos} : ZE X B (.Constant (.int i) j pos) (zC (zi i)) := ze_C pe_int fun _ => .d (.int i)
theorem ze_bl {i j pos} : ZE X B (.Constant (.bool i) j pos) (zC (zb i)) := ze_C pe_bl fun _ => .d (.bl i)
theorem ze_non {j pos} : ZE X B (.Constant .none j pos) (zC (.d .none)) := ze_C pe_non fun _ => .d .non
theorem ze_str {x j pos} : ZE X B (.Constant (.str x) j pos) (zC (zs x)) := ze_C pe_str fun _ => .d (.str x)
theorem ze_glob {x : Str} {v : V} {u : Value} {z : Z} {pos : Pos} (hg : Gl X x) (hm : X.mg x = some u) (r : RelV v u) (hz : ∀ H, RZ X.K H v z) (hd : (x == ("__debug__" : Str)) = false := by decide) : ZE X B (.Name x pos) (zC z) :=
  ze_C (pe_glob hg hm r hd) hz
def zNil : ZA := fun _ S Q => Q [] S
def zCons (ta : ZT) (t : ZA) : ZA := fun ρ S Q => ta ρ S fun x S1 => t ρ S1 fun xs S2 => Q (x :: xs) S2
theorem za_nil : ZAs X B [] zNil := by
  refine ⟨fun q h => q _ _ h, PA.imp pa_nil ?_⟩
  rintro σ H Q ⟨ρ, S, hE, hS, h⟩
  exact h [] H (.refl _ _) .nil hS
theorem za_cons (ha : ZE X B a ta) (hr : ZAs X B es t) (hs : starEach (a :: es) X.env = (false, eval a X.env) :: starEach es X.env := by rfl) : ZAs X B (a :: es) (zCons ta t) := by
  refine ⟨fun q h => ha.mono (fun x S1 h1 => hr.mono (fun xs S2 h2 => q _ _ h2) h1) h, PA.imp (pa_cons ha.pe hr.pa hs) ?_⟩
  rintro σ H Q ⟨ρ, S, hE, hS, h⟩
  refine ha.go hE hS h fun x S1 v1 H1 h1 st1 E1 R1 z1 => ?_
  refine hr.go E1 R1 h1 fun xs S2 vs H2 h2 st2 E2 R2 zs => ?_
  exact h2 (v1 :: vs) H2 (st1.trans st2) (.cons (z1.le (st2.le R1.1)) zs) R2
def datas : List Z → Option (List PyData)
  | [] => some []
  | .d x :: r => (datas r).map (x :: ·)
  | _ :: _ => none
theorem datas_fz {K : PySem.W.Frag} {H : Hp} : ∀ {vs : List V} {zs : List Z} {ds : List PyData}, RZs K H vs zs → datas zs = some ds → FzAll K H vs ds
  | _, _, _, .nil, e => by simp [datas] at e; subst e; exact .nil
  | _, .d x :: r, ds, .cons (.d h) t, e => by
    simp only [datas, Option.map_eq_some_iff] at e
    obtain ⟨es, e1, e2⟩ := e
    subst e2
    exact .cons h (datas_fz t e1)
  | _, .r _ :: _, _, .cons _ _, e => by simp [datas] at e
  | _, .k _ :: _, _, .cons _ _, e => by simp [datas] at e
def zTup (t : ZA) : ZT := fun ρ S Q => t ρ S fun zs S1 => match datas zs with
  | some ds => ds.length ≤ sizeLine ∧ Q (zt ds) S1
  | none => False
theorem ze_tup {x1 pos} (h : ZAs X B es t) : ZE X B (.Tuple es x1 pos) (zTup t) := by
  refine ⟨fun {ρ S Q Q'} q w => h.mono (fun zs S1 h1 => ?_) w, PE.imp (pe_tup h.pa) ?_⟩
  · split at h1
    · rename_i ds e
      exact ⟨h1.1, q _ _ h1.2⟩
    · exact h1.elim
  · rintro σ H Q ⟨ρ, S, hE, hS, w⟩
    refine h.go hE hS w fun zs S1 vs H1 h1 st1 E1 R1 rz => ?_
    split at h1
    · rename_i ds e
      have f := datas_fz rz e
      refine ⟨by rw [f.length]; exact h1.1, fun p hp => ?_⟩
      have sm : Same H1 (upd H1 p (.tup vs)) := same_fresh hp
      exact h1.2 _ _ (st1.trans (step_same sm)) (.d (.tup (SqT.of upd_same) (f.le (.same sm)))) (R1.step (R1.1.same sm) (step_same sm))
    · exact h1.elim
theorem pe_rest {e : Expr} {t : TE} (h : PE X e t) : PE X e (fun σ H Q => t σ H fun v H' => ∃ a xs, v = .ref a ∧ H' a = some (.lst xs) ∧ ∀ o, Q v (upd H' a (.frz o (.lst xs)))) := by
  refine ⟨fun pins s σ H Q I w => ?_⟩
  refine thn (h.run pins s σ H _ I w) fun u s1 ⟨v, H1, I1, r1, a, xs, ev, ea, q⟩ => ?_
  obtain ⟨o, I2⟩ := I1.lock ea True.intro
  exact ⟨v, _, I2, r1, q o⟩
theorem pe_restD {e : Expr} {t : TE} (h : PE X e t) : PE X e (fun σ H Q => t σ H fun v H' => ∃ a xs, v = .ref a ∧ H' a = some (.dK xs) ∧ ∀ o, Q v (upd H' a (.frz o (.dK xs)))) := by
  refine ⟨fun pins s σ H Q I w => ?_⟩
  refine thn (h.run pins s σ H _ I w) fun u s1 ⟨v, H1, I1, r1, a, xs, ev, ea, q⟩ => ?_
  obtain ⟨o, I2⟩ := I1.lock ea True.intro
  exact ⟨v, _, I2, r1, q o⟩
def zLst (t : ZA) : ZT := fun ρ S Q => t ρ S fun zs S1 => match datas zs with
  | some ds => ds.length ≤ sizeLine ∧ Q (zl ds) S1
  | none => False
theorem ze_lst {pos} (h : ZAs X B es t) : ZE X B (.List es pos) (zLst t) := by
  refine ⟨fun {ρ S Q Q'} q w => h.mono (fun zs S1 h1 => ?_) w, PE.imp (pe_rest (pe_lst h.pa)) ?_⟩
  · split at h1
    · rename_i ds e
      exact ⟨h1.1, q _ _ h1.2⟩
    · exact h1.elim
  · rintro σ H Q ⟨ρ, S, hE, hS, w⟩
    refine h.go hE hS w fun zs S1 vs H1 h1 st1 E1 R1 rz => ?_
    split at h1
    · rename_i ds e
      have f := datas_fz rz e
      refine ⟨by rw [f.length]; exact h1.1, fun p hp => ⟨p, vs, rfl, upd_same, fun o => ?_⟩⟩
      rw [upd_upd]
      have sm : Same H1 (upd H1 p (.frz o (.lst vs))) := same_fresh hp
      exact h1.2 _ _ (st1.trans (step_same sm)) (.d (.lst ⟨o, upd_same⟩ (f.le (.same sm)))) (R1.step (R1.1.same sm) (step_same sm))
    · exact h1.elim
def zLstM (t : ZA) : ZT := fun ρ S Q => t ρ S fun zs S1 => match datas zs with
  | some ds => ds.length ≤ sizeLine ∧ ∀ p, S1 p = none → Q (.r p) (S1.put p (.lst ds))
  | none => False
theorem ze_lstM {pos} (h : ZAs X B es t) : ZE X B (.List es pos) (zLstM t) := by
  refine ⟨fun {ρ S Q Q'} q w => h.mono (fun zs S1 h1 => ?_) w, PE.imp (pe_lst h.pa) ?_⟩
  · split at h1
    · rename_i ds e
      exact ⟨h1.1, fun p hp => q _ _ (h1.2 p hp)⟩
    · exact h1.elim
  · rintro σ H Q ⟨ρ, S, hE, hS, w⟩
    refine h.go hE hS w fun zs S1 vs H1 h1 st1 E1 R1 rz => ?_
    split at h1
    · rename_i ds e
      have f := datas_fz rz e
      refine ⟨by rw [f.length]; exact h1.1, fun p hp => ?_⟩
      exact h1.2 p (R1.1.fresh hp) _ _ (st1.trans (step_new hp)) (.r p) (R1.step (R1.1.new hp f) (step_new hp))
    · exact h1.elim
end
end ZL
namespace ZL
open PySem PySem.Spec PyProof.Rows L2
section
variable {X : Cx} {B : Bs}
def rZI (C : Int → Int → Prop) (g : Int → Int → Z) : ZR2 := fun x y S Q => match x, y with
  | .d (.int i), .d (.int j) => C i j ∧ Q (g i j) S
  | _, _ => False
def rZ0 (g : Int → Int → Z) : ZR2 := fun x y S Q => match x, y with
  | .d (.int i), .d (.int j) => Q (g i j) S
  | _, _ => False
theorem zop_I {f : Value → Value → Sem Value} {C : Int → Int → Prop} {g : Int → Int → Int} (h : OpR X f (rI C fun i j => .int (g i j))) : ZOp X f (rZI C fun i j => zi (g i j)) := by
  constructor
  · intro x y S Q Q' q w
    unfold rZI at *
    split at w
    · exact ⟨w.1, q _ _ w.2⟩
    · exact w.elim
  · rintro B pins s σ H x y v u Q I rx ry ⟨z1, z2, S, h1, h2, hS, w⟩
    unfold rZI at w
    split at w
    · cases h1 with | d h1 => cases h1; cases h2 with | d h2 => cases h2; exact h pins s σ H _ _ v u Q I rx ry ⟨_, _, rfl, rfl, w.1, w.2 _ H (.refl _ _) (.d (.int _)) hS⟩
    · exact w.elim
theorem zop_0 {f : Value → Value → Sem Value} {g : Int → Int → Int} (h : OpR X f (rI0 fun i j => .int (g i j))) : ZOp X f (rZ0 fun i j => zi (g i j)) := by
  constructor
  · intro x y S Q Q' q w
    unfold rZ0 at *
    split at w
    · exact q _ _ w
    · exact w.elim
  · rintro B pins s σ H x y v u Q I rx ry ⟨z1, z2, S, h1, h2, hS, w⟩
    unfold rZ0 at w
    split at w
    · cases h1 with | d h1 => cases h1; cases h2 with | d h2 => cases h2; exact h pins s σ H _ _ v u Q I rx ry ⟨_, _, rfl, rfl, w _ H (.refl _ _) (.d (.int _)) hS⟩
    · exact w.elim
theorem zop_0b {f : Value → Value → Sem Value} {g : Int → Int → Bool} (h : OpR X f (rI0 fun i j => .bl (g i j))) : ZOp X f (rZ0 fun i j => zb (g i j)) := by
  constructor
  · intro x y S Q Q' q w
    unfold rZ0 at *
    split at w
    · exact q _ _ w
    · exact w.elim
  · rintro B pins s σ H x y v u Q I rx ry ⟨z1, z2, S, h1, h2, hS, w⟩
    unfold rZ0 at w
    split at w
    · cases h1 with | d h1 => cases h1; cases h2 with | d h2 => cases h2; exact h pins s σ H _ _ v u Q I rx ry ⟨_, _, rfl, rfl, w _ H (.refl _ _) (.d (.bl _)) hS⟩
    · exact w.elim
theorem zsub : ZOp X (binaryOp .Sub) (rZ0 fun i j => zi (i - j)) := zop_0 op_sub
theorem zlt : ZOp X (compareOp .Lt) (rZ0 fun i j => zb (decide (i < j))) := zop_0b op_lt
theorem zle : ZOp X (compareOp .LtE) (rZ0 fun i j => zb (decide (i ≤ j))) := zop_0b op_le
theorem zgt : ZOp X (compareOp .Gt) (rZ0 fun i j => zb (decide (j < i))) := zop_0b op_gt
def MulOk (i j : Int) : Prop := IntMulOk i j
theorem MulOk.left {i j : Int} (h1 : -(2 ^ 64) < i) (h2 : i < 2 ^ 64) : MulOk i j := .of_left (intBits_le_64 h1 h2)
theorem bits_le {x : Int} {n : Nat} (h : x.natAbs < 2 ^ n) : Builtin.Int.intBits x ≤ n := by
  unfold Builtin.Int.intBits
  split
  · exact Nat.zero_le _
  · rename_i hx
    have h0 : x.natAbs ≠ 0 := fun e => hx (by simpa using e)
    have := (Nat.log2_lt h0).mpr h
    omega
theorem MulOk.wide {i j : Int} {a b : Nat} (ha : i.natAbs < 2 ^ a) (hb : j.natAbs < 2 ^ b) (h : a + b ≤ 134217728) : MulOk i j := .of_le (bits_le ha) (bits_le hb) h
def rZAdd : ZR2 := fun x y S Q => match x, y with
  | .d (.int i), .d (.int j) => Q (zi (i + j)) S
  | .d (.str i), .d (.str j) => i.length + j.length ≤ sizeLine ∧ Q (zs (i ++ j)) S
  | .d (.tuple a), .d (.tuple b) => a.length + b.length ≤ sizeLine ∧ Q (zt (a ++ b)) S
  | _, _ => False
theorem zadd : ZOp X (binaryOp .Add) rZAdd := by
  constructor
  · intro x y S Q Q' q w
    unfold rZAdd at *
    split at w
    · exact q _ _ w
    · exact ⟨w.1, q _ _ w.2⟩
    · exact ⟨w.1, q _ _ w.2⟩
    · exact w.elim
  · rintro B pins s σ H x y v u Q I rx ry ⟨z1, z2, S, h1, h2, hS, w⟩
    unfold rZAdd at w
    split at w
    · cases h1 with | d h1 => cases h1; cases h2 with | d h2 => cases h2; exact op_add pins s σ H _ _ v u Q I rx ry ⟨_, _, rfl, rfl, w _ H (.refl _ _) (.d (.int _)) hS⟩
    · cases h1 with | d h1 => cases h1; cases h2 with | d h2 => cases h2; exact op_add_str pins s σ H _ _ v u Q I rx ry ⟨_, _, rfl, rfl, w.1, w.2 _ H (.refl _ _) (.d (.str _)) hS⟩
    · rename_i a b
      cases h1 with
      | d h1 =>
        cases h1 with
        | @tup p xs _ s1 f1 =>
          cases h2 with
          | d h2 =>
            cases h2 with
            | @tup p2 ys _ s2 f2 =>
              refine op_catA pins s σ H _ _ v u Q I rx ry ⟨p, p2, xs, ys, rfl, rfl, s1, s2, by rw [f1.length, f2.length]; exact w.1, fun e => ?_, fun e e2 => ?_, fun e e2 t ht => ?_⟩
              · subst e
                cases f1
                exact w.2 _ H (.refl _ _) (.d (.tup s2 f2)) hS
              · subst e2
                cases f2
                have w2 := w.2
                rw [List.append_nil] at w2
                exact w2 _ H (.refl _ _) (.d (.tup s1 f1)) hS
              · have sm : Same H (upd H t (.tup (xs ++ ys))) := same_fresh ht
                exact w.2 _ _ (step_same sm) (.d (.tup (SqT.of upd_same) ((f1.append f2).le (.same sm)))) (hS.step (hS.1.same sm) (step_same sm))
    · exact w.elim
def rZMul : ZR2 := rZI MulOk fun i j => zi (i * j)
theorem zmul : ZOp X (binaryOp .Mult) rZMul := by
  constructor
  · intro x y S Q Q' q w
    unfold rZMul rZI at *
    split at w
    · exact ⟨w.1, q _ _ w.2⟩
    · exact w.elim
  · rintro B pins s σ H x y v u Q I rx ry ⟨z1, z2, S, h1, h2, hS, w⟩
    unfold rZMul rZI at w
    split at w
    · rename_i i j
      cases h1 with | d h1 => cases h1; cases h2 with | d h2 => cases h2; obtain ⟨t, rfl⟩ := rx; obtain ⟨t', rfl⟩ := ry; exact mul_int ⟨.int (i * j), H, I.tok _, ⟨_, rfl⟩, w.2 _ H (.refl _ _) (.d (.int _)) hS⟩ w.1
    · exact w.elim
def DivOk (_ j : Int) : Prop := j ≠ 0 ∧ j.natAbs.log2 < 9000
theorem DivOk.wide {i j : Int} {n : Nat} (h : j ≠ 0) (h2 : j.natAbs < 2 ^ n) (hn : n ≤ 9000 := by decide) : DivOk i j := ⟨h, by
  have := (Nat.log2_lt (by omega)).mpr h2
  omega⟩
theorem DivOk.small {i j : Int} (h : j ≠ 0) (h2 : j.natAbs < 2 ^ 64) : DivOk i j := .wide h h2
theorem op_fdivZ : OpR X (binaryOp .FloorDiv) (rI DivOk fun i j => .int (i.fdiv j)) := opI fun _ _ _ _ _ _ _ hc q => floordiv_int hc.1 q (.inl (PyProof.noPylong_of_log2 hc.2))
theorem zfdiv : ZOp X (binaryOp .FloorDiv) (rZI DivOk fun i j => zi (i.fdiv j)) := zop_I op_fdivZ
theorem zmod : ZOp X (binaryOp .Mod) (rZI (fun _ j => 0 < j) fun i j => zi (i % j)) := zop_I op_mod
def PowOk (i j : Int) : Prop := 0 ≤ j ∧ j ≤ 1000000 ∧ i.natAbs < 2 ^ 64
theorem zpow : ZOp X (binaryOp .Pow) (rZI PowOk fun i j => zi (i ^ j.toNat)) := zop_I (C := PowOk) fun pins s σ H x y v u Q I rx ry h => op_pow pins s σ H x y v u Q I rx ry h
def zNeg (ta : ZT) : ZT := fun ρ S Q => ta ρ S fun x S1 => match x with
  | .d (.int i) => Q (zi (-i)) S1
  | _ => False
theorem ze_neg {a : Expr} {ta : ZT} {pos : Pos} (ha : ZE X B a ta) : ZE X B (.UnaryOp .USub a pos) (zNeg ta) := by
  refine ⟨fun {ρ S Q Q'} q w => ha.mono (fun z S1 h1 => ?_) w, PE.imp (pe_un un_neg ha.pe) ?_⟩
  · split at h1
    · exact q _ _ h1
    · exact h1.elim
  · rintro σ H Q ⟨ρ, S, hE, hS, h⟩
    refine ha.go hE hS h fun x S1 v1 H1 h1 st1 E1 R1 z1 => ?_
    split at h1
    · cases z1 with | d z1 => cases z1; exact ⟨_, rfl, h1 _ H1 st1 (.d (.int _)) R1⟩
    · exact h1.elim
theorem Fz.dp {K : PySem.W.Frag} {H : Hp} : ∀ {d : PyData} {v : V}, d.hasDict = false → Fz K H v d → Dp K H v d := by
  have main : ∀ n, (∀ (d : PyData) (v : V), sizeOf d < n → d.hasDict = false → Fz K H v d → Dp K H v d) ∧ ∀ (ds : List PyData) (vs : List V), sizeOf ds < n → PyData.hasDictAll ds = false → FzAll K H vs ds → DpAll K H vs ds := by
    intro n
    induction n with
    | zero => exact ⟨fun _ _ h => absurd h (Nat.not_lt_zero _), fun _ _ h => absurd h (Nat.not_lt_zero _)⟩
    | succ n ih =>
      constructor
      · intro d v hn hd h
        cases h with
        | non => exact .non
        | bl b => exact .bl b
        | int i => exact .int i
        | str x => exact .str x
        | lst s f => exact .lst s.l (ih.2 _ _ (by simp only [PyData.list.sizeOf_spec] at hn; omega) (by simpa [PyData.hasDict] using hd) f)
        | tup s f => exact .tup s (ih.2 _ _ (by simp only [PyData.tuple.sizeOf_spec] at hn; omega) (by simpa [PyData.hasDict] using hd) f)
        | dic e _ _ => simp [PyData.hasDict] at hd
      · intro ds vs hn hd h
        cases h with
        | nil => exact .nil
        | cons h t =>
          simp only [List.cons.sizeOf_spec] at hn
          simp only [PyData.hasDictAll, Bool.or_eq_false_iff] at hd
          exact .cons (ih.1 _ _ (by omega) hd.1 h) (ih.2 _ _ (by omega) hd.2 t)
  intro d v hd h
  exact (main (sizeOf d + 1)).1 d v (Nat.lt_succ_self _) hd h
theorem noDict_of_shaped {d : PyData} (h : SeqAt.shaped d = true) : d.hasDict = false := PyData.hasDict_of_canLay d (SeqAt.canLay_of_shaped h)
def Sh (a b : PyData) : Prop := SeqAt.shaped a = true ∧ SeqAt.shaped b = true
def rZEq : ZR2 := fun x y S Q => match x, y with
  | .d (.int i), .d (.int j) => Q (zb (decide (i = j))) S
  | .d (.str i), .d (.str j) => Q (zb (decide (i = j))) S
  | .d a, .d b => Sh a b ∧ Q (zb (PyData.eqv a b)) S
  | _, _ => False
def rZNe : ZR2 := fun x y S Q => match x, y with
  | .d (.int i), .d (.int j) => Q (zb (!decide (i = j))) S
  | .d (.str i), .d (.str j) => Q (zb (!decide (i = j))) S
  | .d a, .d b => Sh a b ∧ Q (zb (!PyData.eqv a b)) S
  | _, _ => False
theorem zeqU (hu : X.A.units + 64 < cLine) : ZOp X (compareOp .Eq) rZEq := by
  constructor
  · intro x y S Q Q' q w
    unfold rZEq at *
    split at w
    · exact q _ _ w
    · exact q _ _ w
    · exact ⟨w.1, q _ _ w.2⟩
    · exact w.elim
  · rintro B pins s σ H x y v u Q I rx ry ⟨z1, z2, S, h1, h2, hS, w⟩
    unfold rZEq at w
    split at w
    · cases h1 with | d h1 => cases h1; cases h2 with | d h2 => cases h2; refine op_eq pins s σ H _ _ v u Q I rx ry ⟨rfl, ?_⟩; have w1 := w (.bl _) H (.refl _ _) (.d (.bl _)) hS; simpa using w1
    · cases h1 with | d h1 => cases h1; cases h2 with | d h2 => cases h2; refine op_eq pins s σ H _ _ v u Q I rx ry ⟨rfl, ?_⟩; have w1 := w (.bl _) H (.refl _ _) (.d (.bl _)) hS; simpa using w1
    · cases h1 with | d h1 => cases h2 with | d h2 => exact op_eqD hu pins s σ H _ _ v u Q I rx ry ⟨_, _, h1.dp (noDict_of_shaped w.1.1), h2.dp (noDict_of_shaped w.1.2), w.1.1, w.1.2, w.2 _ H (.refl _ _) (.d (.bl _)) hS⟩
    · exact w.elim
theorem zeq {k : Nat} (hr : Room k X.A) : ZOp X (compareOp .Eq) rZEq := zeqU hr.units
theorem zneU (hu : X.A.units + 64 < cLine) : ZOp X (compareOp .NotEq) rZNe := by
  constructor
  · intro x y S Q Q' q w
    unfold rZNe at *
    split at w
    · exact q _ _ w
    · exact q _ _ w
    · exact ⟨w.1, q _ _ w.2⟩
    · exact w.elim
  · rintro B pins s σ H x y v u Q I rx ry ⟨z1, z2, S, h1, h2, hS, w⟩
    unfold rZNe at w
    split at w
    · cases h1 with | d h1 => cases h1; cases h2 with | d h2 => cases h2; refine op_ne pins s σ H _ _ v u Q I rx ry ⟨rfl, ?_⟩; have w1 := w (.bl _) H (.refl _ _) (.d (.bl _)) hS; simpa using w1
    · cases h1 with | d h1 => cases h1; cases h2 with | d h2 => cases h2; refine op_ne pins s σ H _ _ v u Q I rx ry ⟨rfl, ?_⟩; have w1 := w (.bl _) H (.refl _ _) (.d (.bl _)) hS; simpa using w1
    · cases h1 with | d h1 => cases h2 with | d h2 => exact op_neD hu pins s σ H _ _ v u Q I rx ry ⟨_, _, h1.dp (noDict_of_shaped w.1.1), h2.dp (noDict_of_shaped w.1.2), w.1.1, w.1.2, w.2 _ H (.refl _ _) (.d (.bl _)) hS⟩
    · exact w.elim
theorem zne {k : Nat} (hr : Room k X.A) : ZOp X (compareOp .NotEq) rZNe := zneU hr.units
def zTest (t : ZT) : ZB := fun ρ S Q => t ρ S fun z S1 => match z with
  | .d (.bool b) => Q b S1
  | _ => False
theorem zTest_mono {e : Expr} {t : ZT} (h : ZE X B e t) {ρ : ZEnv} {S : Sto} {Q Q' : Bool → Sto → Prop} (q : ∀ z S', Q z S' → Q' z S') (w : zTest t ρ S Q) : zTest t ρ S Q' :=
  h.mono (fun z S1 h1 => by
    split at h1
    · exact q _ _ h1
    · exact h1.elim) w
theorem low_test {e : Expr} {t : ZT} (h : ZE X B e t) : ∀ σ H Q, lowB X.K B (zTest t) σ H Q → tB (low X.K B t) σ H Q := by
  rintro σ H Q ⟨ρ, S, hE, hS, w⟩
  refine h.go hE hS w fun z S1 v H1 h1 st1 E1 R1 rz => ?_
  split at h1
  · cases rz with | d rz => cases rz; exact ⟨_, rfl, h1 H1 st1 R1⟩
  · exact h1.elim
theorem zt_val {e : Expr} {t : ZT} (h : ZE X B e t) (he : ∀ whole, isTrue e X.env whole = (do let v ← whole; standAt e.pos; holding [v] (truthy v)) := by intro _; rfl) : ZTe X B e (zTest t) :=
  ⟨zTest_mono h, PT.imp (pt_val h.pe he) (low_test h)⟩
theorem zt_cmp {op : CmpOp} {r : ZR2} {a b : Expr} {ta tb : ZT} {pos : Pos} (ho : ZOp X (compareOp op) r) (ha : ZE X B a ta) (hb : ZE X B b tb) (hm : behindInMarks op b = false := by first | rfl | exact nomark _) :
    ZTe X B (.Compare a [op] [b] pos) (zTest (zOp r ta tb)) := by
  refine ⟨zTest_mono (ze_cmp (pos := pos) ho ha hb hm), PT.imp (pt_cmpR (ho.op B) ha.pe hb.pe hm) fun σ H Q w => ?_⟩
  have w2 := low_test (ze_cmp (pos := pos) ho ha hb hm) σ H Q w
  exact low_op ho ha hb σ H _ w2
def zBr (b : Bool) (x y : Prop) : Prop := match b with
  | true => x
  | false => y
theorem zBr.mono {b : Bool} {x y x' y' : Prop} (h1 : x → x') (h2 : y → y') (h : zBr b x y) : zBr b x' y' := by
  cases b with
  | true => exact h1 h
  | false => exact h2 h
def zOr (t u : ZB) : ZB := fun ρ S Q => t ρ S fun c S1 => zBr c (Q true S1) (u ρ S1 Q)
def zNot (t : ZB) : ZB := fun ρ S Q => t ρ S fun c S1 => Q (!c) S1
variable {a b : Expr} {rest : List Expr} {tA tB' : ZB} {pos : Pos}
theorem zw_or1 (ha : ZTe X B a tA) : ZW X B (.BoolOp .Or [a] pos) tA := ⟨ha.mono, pw_or1 ha.pt⟩
theorem zw_or (ha : ZTe X B a tA) (hb : ZW X B (.BoolOp .Or (b :: rest) pos) tB') : ZW X B (.BoolOp .Or (a :: b :: rest) pos) (zOr tA tB') := by
  refine ⟨fun {ρ S Q Q'} q w => ha.mono (fun c S1 h1 => h1.mono (q _ _) (hb.mono q)) w, PW.imp (pw_or ha.pt hb.pw) ?_⟩
  rintro σ H Q ⟨ρ, S, hE, hS, w⟩
  refine ha.go hE hS w fun c S1 H1 h1 st1 E1 R1 => ?_
  cases c with
  | true => exact h1 H1 st1 R1
  | false => exact hb.go E1 R1 h1 fun d S2 H2 h2 st2 E2 R2 => h2 H2 (st1.trans st2) R2
theorem ZW.t (h : ZW X B a tA) : ZTe X B a tA := ⟨h.mono, h.pw.pt⟩
theorem zt_not (ha : ZTe X B a tA) : ZTe X B (.UnaryOp .Not a pos) (zNot tA) := by
  refine ⟨fun {ρ S Q Q'} q w => ha.mono (fun c S1 h1 => q _ _ h1) w, PT.imp (pt_not ha.pt) ?_⟩
  rintro σ H Q ⟨ρ, S, hE, hS, w⟩
  exact ha.go hE hS w fun c S1 H1 h1 st1 E1 R1 => h1 H1 st1 R1
variable {ta tb : ZT}
def zAndV (ta tb : ZT) : ZT := fun ρ S Q => ta ρ S fun x S1 => match x with
  | .d (.bool c) => zBr c (tb ρ S1 Q) (Q (zb false) S1)
  | _ => False
def zNotV (ta : ZT) : ZT := fun ρ S Q => ta ρ S fun x S1 => match x with
  | .d (.bool c) => Q (zb (!c)) S1
  | _ => False
theorem ze_one {op} (h : ZE X B a ta) : ZE X B (.BoolOp op [a] pos) ta := ⟨h.mono, pe_one h.pe⟩
theorem ze_and (ha : ZE X B a ta) (hb : ZE X B (.BoolOp .And (b :: rest) pos) tb) : ZE X B (.BoolOp .And (a :: b :: rest) pos) (zAndV ta tb) := by
  refine ⟨fun {ρ S Q Q'} q w => ha.mono (fun c S1 h1 => ?_) w, PE.imp (pe_and ha.pe hb.pe) ?_⟩
  · split at h1
    · exact h1.mono (hb.mono q) (q _ _)
    · exact h1.elim
  · rintro σ H Q ⟨ρ, S, hE, hS, w⟩
    refine ha.go hE hS w fun c S1 v1 H1 h1 st1 E1 R1 rz => ?_
    split at h1
    · rename_i c
      cases rz with | d rz => cases rz; refine ⟨_, rfl, ?_⟩; cases c with
        | true => exact iteT (hb.go E1 R1 h1 fun d S2 v2 H2 h2 st2 E2 R2 z2 => h2 v2 H2 (st1.trans st2) z2 R2)
        | false => exact iteF (h1 _ H1 st1 (.d (.bl _)) R1)
    · exact h1.elim
theorem ze_not (ha : ZE X B a ta) : ZE X B (.UnaryOp .Not a pos) (zNotV ta) := by
  refine ⟨fun {ρ S Q Q'} q w => ha.mono (fun c S1 h1 => ?_) w, PE.imp (pe_not ha.pe) ?_⟩
  · split at h1
    · exact q _ _ h1
    · exact h1.elim
  · rintro σ H Q ⟨ρ, S, hE, hS, w⟩
    refine ha.go hE hS w fun c S1 v1 H1 h1 st1 E1 R1 rz => ?_
    split at h1
    · cases rz with | d rz => cases rz; exact ⟨_, rfl, h1 _ H1 st1 (.d (.bl _)) R1⟩
    · exact h1.elim
def zIf (t : ZB) (ta tb : ZT) : ZT := fun ρ S Q => t ρ S fun c S1 => zBr c (ta ρ S1 Q) (tb ρ S1 Q)
theorem ze_if {c : Expr} (hc : ZTe X B c tA) (ha : ZE X B a ta) (hb : ZE X B b tb) : ZE X B (.IfExp c a b pos) (zIf tA ta tb) := by
  refine ⟨fun {ρ S Q Q'} q w => hc.mono (fun c S1 h1 => h1.mono (ha.mono q) (hb.mono q)) w, PE.imp (pe_ifExp hc.pt ha.pe hb.pe) ?_⟩
  rintro σ H Q ⟨ρ, S, hE, hS, w⟩
  refine hc.go hE hS w fun c S1 H1 h1 st1 E1 R1 => ?_
  cases c with
  | true => exact iteT (ha.go E1 R1 h1 fun d S2 v2 H2 h2 st2 E2 R2 z2 => h2 v2 H2 (st1.trans st2) z2 R2)
  | false => exact iteF (hb.go E1 R1 h1 fun d S2 v2 H2 h2 st2 E2 R2 z2 => h2 v2 H2 (st1.trans st2) z2 R2)
def rowZ (S : Sto) : Z → Option (List PyData)
  | .d (.list xs) => some xs
  | .d (.tuple xs) => some xs
  | .k xs => some xs
  | .r a => match S a with
    | some (.lst xs) => some xs
    | _ => none
  | _ => none
theorem rowZ_sq {K : PySem.W.Frag} {S : Sto} {H : Hp} {z : Z} {v : V} {xs : List PyData} (hS : RS0 K S H) (rz : RZ K H v z) (e : rowZ S z = some xs) : ∃ a vs, v = .ref a ∧ (SqL K H a vs ∨ SqT K H a vs) ∧ FzAll K H vs xs := by
  cases rz with
  | d h =>
    cases h with
    | lst s f => simp [rowZ] at e; subst e; exact ⟨_, _, rfl, .inl s.l, f⟩
    | tup s f => simp [rowZ] at e; subst e; exact ⟨_, _, rfl, .inr s, f⟩
    | _ => simp [rowZ] at e
  | k s f => simp [rowZ] at e; subst e; exact ⟨_, _, rfl, .inl s.l, f⟩
  | r a =>
    simp only [rowZ] at e
    cases q : S a with
    | none => rw [q] at e; cases e
    | some c =>
      cases c with
      | tab _ => rw [q] at e; cases e
      | own _ _ => rw [q] at e; cases e
      | tbl _ => rw [q] at e; cases e
      | lst ys =>
        rw [q] at e
        cases e
        obtain ⟨vs, h, f⟩ := hS a _ q
        exact ⟨a, vs, rfl, .inl (.of h), f⟩
def rZIx : ZR2 := fun x y S Q => match y with
  | .d (.int i) => match rowZ S x with
    | some xs => match atI xs i with
      | some d => Q (.d d) S
      | none => False
    | none => False
  | _ => False
theorem atI_fz {K : PySem.W.Frag} {H : Hp} {vs : List V} {xs : List PyData} {i : Int} {d : PyData} (f : FzAll K H vs xs) (e : atI xs i = some d) : ∃ v, atI vs i = some v ∧ Fz K H v d := by
  unfold atI at e ⊢
  rw [f.length]
  cases q : ixN xs.length i with
  | none => rw [q] at e; cases e
  | some j =>
    rw [q] at e
    exact f.get (i := j) e
theorem ze_ix {a b : Expr} {ta tb : ZT} {pos : Pos} (ha : ZE X B a ta) (hb : ZE X B b tb) (hs : PlainIx b := by intro _ _; rfl) : ZE X B (.Subscript a b pos) (zOp rZIx ta tb) := by
  have mono : ∀ {x y S} {Q Q' : ZQ}, (∀ z S', Q z S' → Q' z S') → rZIx x y S Q → rZIx x y S Q' := by
    intro x y S Q Q' q w
    unfold rZIx at *
    repeat' split at w
    · exact q _ _ w
    · exact w.elim
    · exact w.elim
    · exact w.elim
  refine ⟨fun {ρ S Q Q'} q w => ha.mono (fun x S1 h1 => hb.mono (fun y S2 h2 => mono q h2) h1) w, PE.imp (pe_ix (ix_list.or ix_tup) ha.pe hb.pe hs) ?_⟩
  rintro σ H Q ⟨ρ, S, hE, hS, w⟩
  refine ha.go hE hS w fun x S1 v1 H1 h1 st1 E1 R1 z1 => ?_
  refine hb.go E1 R1 h1 fun y S2 v2 H2 h2 st2 E2 R2 z2 => ?_
  unfold rZIx at h2
  split at h2
  · split at h2
    · rename_i xs e
      split at h2
      · rename_i d e2
        obtain ⟨p, vs, rfl, hq, f⟩ := rowZ_sq R2.1 (z1.le (st2.le R1.1)) e
        obtain ⟨v, ev, fv⟩ := atI_fz f e2
        cases z2 with
        | d z2 =>
          cases z2
          rcases hq with hq | hq
          · exact .inl ⟨p, vs, _, v, rfl, rfl, hq, ev, h2 v H2 (st1.trans st2) (.d fv) R2⟩
          · exact .inr ⟨p, vs, _, v, rfl, rfl, hq, ev, h2 v H2 (st1.trans st2) (.d fv) R2⟩
      · exact h2.elim
    · exact h2.elim
  · exact h2.elim
end
end ZL
namespace ZL
open PySem PySem.Spec PyProof.Rows L2
mutual
def lfree : PyData → Bool
  | .list _ => false
  | .tuple xs => lfreeAll xs
  | .dict [] => true
  | .dict _ => false
  | _ => true
def lfreeAll : List PyData → Bool
  | [] => true
  | x :: xs => lfree x && lfreeAll xs
end
structure Shw (x : PyData) : Prop where
  s : x.showable = true
  d : x.depth ≤ 100
  l : x.hasDict = false ∨ lfree x = true
  z : x.shown.length ≤ sizeLine
theorem dic_rows {P : Program} {w : World} {h : Heap} : ∀ {ds : List (Int × PyData)} {es : List DictEntry} {vs : List (Key × Value)} {kvs : List (Key × V)}, Pairs (mixKind P w) es vs → KV kvs vs → kvs.map (·.1) = ds.map (fun p => Sum.inl p.1) →
    ReadsAll h (es.map (·.key)) (ds.map fun p => PyData.int p.1) [] ∧ Vals (kvs.map (·.2)) (es.map (·.val)) := by
  intro ds
  induction ds with
  | nil =>
    intro es vs kvs hp kv hk
    have : kvs = [] := List.map_eq_nil_iff.mp hk
    subst this
    generalize vs = ws at kv hp
    cases kv
    cases hp
    exact ⟨.nil, .nil⟩
  | cons p r ih =>
    intro es vs kvs hp kv hk
    cases kvs with
    | nil => simp at hk
    | cons c kvs =>
      simp only [List.map_cons, List.cons.injEq] at hk
      generalize hq : c :: kvs = cs at kv
      cases kv with
      | nil => cases hq
      | cons a b =>
        cases hq
        cases hp with
        | @cons e _ _ _ k q t =>
          obtain ⟨h1, h2⟩ := ih t b hk.2
          have k1 : keyIs (Sum.inl p.1) e.key = true := by rw [← hk.1, a.1]; exact k
          rcases keyIs_shape k1 with ⟨i, t, e1, e2⟩ | ⟨x, t, e1, _⟩
          · cases e1
            refine ⟨?_, ?_⟩
            · rw [List.map_cons, List.map_cons, e2]
              exact .cons (.int _ t) h1
            · rw [List.map_cons, List.map_cons, q]
              exact .cons a.2 h2
          · cases e1
section
variable {X : Cx} {pins : List (Addr × Obj)} {σ : L2.St} {H : Hp} {s : Shared}
mutual
theorem Fz.reads (I : Inv X pins σ H s) : ∀ {d : PyData} {v : V} {u : Value}, Fz X.K H v d → RelV v u → ∃ as, Reads s.heap u d as ∧ (lfree d = true → sysModules ∉ as)
  | _, _, _, .non, r => by cases r; exact ⟨_, .none, fun _ => by simp⟩
  | _, _, _, .bl b, r => by cases r; exact ⟨_, .bool b, fun _ => by simp⟩
  | _, _, _, .int i, r => by obtain ⟨t, rfl⟩ := r; exact ⟨_, .int i t, fun _ => by simp⟩
  | _, _, _, .str x, r => by obtain ⟨t, rfl⟩ := r; exact ⟨_, .str x t, fun _ => by simp⟩
  | _, _, _, .lst q f, r => by
    cases r
    obtain ⟨its, rv, ⟨o, n, e, c, _, dt⟩, _⟩ := I.list (SqF.l q)
    obtain ⟨as, ra, _⟩ := FzAll.reads I f rv
    exact ⟨_, .list e c dt (by simpa using ra), fun h => by simp [lfree] at h⟩
  | _, _, _, .tup q f, r => by
    cases r
    obtain ⟨its, rv, ⟨o, e, c, n, dt⟩, _⟩ := I.tuple q
    obtain ⟨as, ra, ha⟩ := FzAll.reads I f rv
    exact ⟨_, .tuple e c dt (by simpa using ra), fun h => ha (by simpa [lfree] using h)⟩
  | _, _, _, .dic (a := a) (kvs := kvs) (ds := ds) q hk hf, r => by
    cases r
    obtain ⟨e, z, y, vs, kv, ob, es, ep, e2, hx, hd, _, hl, _⟩ := I.hok _ _ q
    obtain ⟨r1, r2⟩ := dic_rows (h := s.heap) hl kv hk
    obtain ⟨as, ra, ha⟩ := FzAll.reads I hf r2
    refine ⟨_, .dict (kvs := ds.map fun p => (PyData.int p.1, p.2)) e2 hx.1 hd (by rw [List.map_map]; exact r1) (by rw [List.map_map]; exact ra), fun hl2 h => ?_⟩
    cases ds with
    | cons p r => simp [lfree] at hl2
    | nil =>
      have e0 : kvs = [] := List.map_eq_nil_iff.mp (show kvs.map (fun x => x.fst) = [] from hk)
      subst e0
      have e1 : List.map (fun x => x.val) es.toList = [] := by
        generalize List.map (fun x => x.val) es.toList = l at r2
        cases r2
        rfl
      rw [e1] at ra
      have e3 : as = [] := by
        generalize hz : List.map (fun (x : Int × PyData) => x.2) [] = l at ra
        cases ra
        rfl
      subst e3
      simp only [List.append_nil, List.mem_singleton] at h
      rw [h] at y
      simp at y
theorem FzAll.reads (I : Inv X pins σ H s) : ∀ {ds : List PyData} {vs : List V} {us : List Value}, FzAll X.K H vs ds → Vals vs us → ∃ as, ReadsAll s.heap us ds as ∧ (lfreeAll ds = true → sysModules ∉ as)
  | _, _, _, .nil, r => by cases r; exact ⟨_, .nil, fun _ => by simp⟩
  | _, _, _, .cons h t, r => by
    cases r with
    | cons r1 r2 =>
      obtain ⟨as, q1, n1⟩ := Fz.reads I h r1
      obtain ⟨bs, q2, n2⟩ := FzAll.reads I t r2
      refine ⟨_, .cons q1 q2, fun hl hm => ?_⟩
      simp only [lfreeAll, Bool.and_eq_true] at hl
      rcases List.mem_append.mp hm with hm | hm
      · exact n1 hl.1 hm
      · exact n2 hl.2 hm
end
end
section
variable {X : Cx} {B : Bs}
abbrev ZC1 := List Z → Sto → ZQ → Prop
def lowC (K : PySem.W.Frag) (B : Bs) (r : ZC1) : List V → Hp → VK → Prop := fun vs H Q => ∃ zs S, RZs K H vs zs ∧ RS K B S H ∧ r zs S fun z S' => ∀ v H', Step S S' H H' → RZ K H' v z → RS K B S' H' → Q v H'
structure ZCl (X : Cx) (f : Value) (r : ZC1) : Prop where
  mono : ∀ {zs S} {Q Q' : ZQ}, (∀ z S', Q z S' → Q' z S') → r zs S Q → r zs S Q'
  op : ∀ B, CallR X f (lowC X.K B r)
def zCall (r : ZC1) (t : ZA) : ZT := fun ρ S Q => t ρ S fun zs S1 => r zs S1 Q
theorem low_call {f : Value} {r : ZC1} {es : List Expr} {t : ZA} (hc : ZCl X f r) (ha : ZAs X B es t) : ∀ σ H Q, low X.K B (zCall r t) σ H Q → tCB (lowC X.K B r) (lowA X.K B t) σ H Q := by
  rintro σ H Q ⟨ρ, S, hE, hS, h⟩
  refine ha.go hE hS h fun zs S1 vs H1 h1 st1 E1 R1 z1 => ?_
  exact ⟨zs, S1, z1, R1, hc.mono (fun z S' q v H' st rz rs => q v H' (st1.trans st) rz rs) h1⟩
variable {x : Str} {p pos : Pos} {e : Expr} {es : List Expr} {t : ZA} {id T : String} {r : ZC1}
theorem ze_callB (hc : ZCl X (.builtin id) r) (hg : Gl X x) (hm : X.mg x = none) (hv : bootBuiltins x = some (.builtin id)) (ha : ZAs X B (e :: es) t) (hn : x ≠ "__name__" := by decide) (hdb : (x == ("__debug__" : Str)) = false := by decide)
    (he : starEach (e :: es) X.env = (false, eval e X.env) :: starEach es X.env := by rfl) (hpl : (backTo pos (starEach es X.env)).any (·.1) = false := by rfl) : ZE X B (.Call (.Name x p) (e :: es) [] pos) (zCall r t) :=
  ⟨fun q w => ha.mono (fun zs S1 h1 => hc.mono q h1) w, PE.imp (pe_callB (hc.op B) hg hm hv ha.pa hn hdb he hpl) (low_call hc ha)⟩
theorem ze_callTy (hc : ZCl X (.type T) r) (hg : Gl X x) (hm : X.mg x = none) (hv : bootBuiltins x = some (.type T)) (ha : ZAs X B (e :: es) t) (hn : x ≠ "__name__" := by decide) (hdb : (x == ("__debug__" : Str)) = false := by decide)
    (he : starEach (e :: es) X.env = (false, eval e X.env) :: starEach es X.env := by rfl) (hpl : (backTo pos (starEach es X.env)).any (·.1) = false := by rfl) : ZE X B (.Call (.Name x p) (e :: es) [] pos) (zCall r t) :=
  ⟨fun q w => ha.mono (fun zs S1 h1 => hc.mono q h1) w, PE.imp (pe_callTy (hc.op B) hg hm hv ha.pa hn hdb he hpl) (low_call hc ha)⟩
theorem rzs1 {K : PySem.W.Frag} {H : Hp} {vs : List V} {z : Z} (h : RZs K H vs [z]) : ∃ v, vs = [v] ∧ RZ K H v z := by
  cases h with | cons h t => cases t; exact ⟨_, rfl, h⟩
theorem rzs2 {K : PySem.W.Frag} {H : Hp} {vs : List V} {z z' : Z} (h : RZs K H vs [z, z']) : ∃ v v', vs = [v, v'] ∧ RZ K H v z ∧ RZ K H v' z' := by
  cases h with | cons h t => cases t with | cons h' t => cases t; exact ⟨_, _, rfl, h, h'⟩
theorem zcl_ii {f : Value} {g : Int → Int → Int} (h : CallR X f (fun xs H Q => ∃ i j, xs = [.int i, .int j] ∧ Q (.int (g i j)) H)) : ZCl X f (fun zs S Q => match zs with | [.d (.int i), .d (.int j)] => Q (zi (g i j)) S | _ => False) := by
  constructor
  · intro zs S Q Q' q w
    split at w
    · exact q _ _ w
    · exact w.elim
  · rintro B pins s σ H vs us Q I r ⟨zs, S, rz, hS, w⟩
    split at w
    · obtain ⟨v, v', rfl, hz, hz'⟩ := rzs2 rz
      cases hz with | d hz => cases hz; cases hz' with | d hz' => cases hz'; exact h pins s σ H _ us Q I r ⟨_, _, rfl, w _ H (.refl _ _) (.d (.int _)) hS⟩
    · exact w.elim
def absI (i : Int) : Int := if i < 0 then -i else i
def maxI (i j : Int) : Int := if j > i then j else i
def minI (i j : Int) : Int := if j < i then j else i
theorem absI_eq (i : Int) : absI i = (i.natAbs : Int) := by unfold absI; split <;> omega
theorem maxI_eq (i j : Int) : maxI i j = max i j := by unfold maxI; split <;> omega
theorem minI_eq (i j : Int) : minI i j = min i j := by unfold minI; split <;> omega
def rZMax : ZC1 := fun zs S Q => match zs with | [.d (.int i), .d (.int j)] => Q (zi (maxI i j)) S | _ => False
def rZMin : ZC1 := fun zs S Q => match zs with | [.d (.int i), .d (.int j)] => Q (zi (minI i j)) S | _ => False
theorem zmax (hc : X.calm = true := by rfl) : ZCl X (.builtin "max") rZMax := zcl_ii (g := maxI) (call_max2 hc)
theorem zmin (hc : X.calm = true := by rfl) : ZCl X (.builtin "min") rZMin := zcl_ii (g := minI) (call_min2 hc)
def rZInt : ZC1 := fun zs S Q => match zs with | [.d (.int i)] => Q (zi i) S | [.d (.bool b)] => Q (zi (if b then 1 else 0)) S | _ => False
theorem zint : ZCl X (.type "int") rZInt := by
  constructor
  · intro zs S Q Q' q w
    unfold rZInt at *
    split at w
    · exact q _ _ w
    · exact q _ _ w
    · exact w.elim
  · rintro B pins s σ H vs us Q I r ⟨zs, S, rz, hS, w⟩
    unfold rZInt at w
    split at w
    · obtain ⟨v, rfl, hz⟩ := rzs1 rz
      cases hz with | d hz => cases hz; exact call_int1 pins s σ H _ us Q I r (.inl ⟨_, rfl, w _ H (.refl _ _) (.d (.int _)) hS⟩)
    · obtain ⟨v, rfl, hz⟩ := rzs1 rz
      cases hz with | d hz => cases hz; exact call_int1 pins s σ H _ us Q I r (.inr ⟨_, rfl, w _ H (.refl _ _) (.d (.int _)) hS⟩)
    · exact w.elim
def rZLen : ZC1 := fun zs S Q => match zs with
  | [.d (.str x)] => x.length ≤ sizeLine ∧ Q (zi x.length) S
  | [z] => match rowZ S z with
    | some xs => Q (zi xs.length) S
    | none => False
  | _ => False
theorem zlen : ZCl X (.builtin "len") rZLen := by
  constructor
  · intro zs S Q Q' q w
    unfold rZLen at *
    split at w
    · exact ⟨w.1, q _ _ w.2⟩
    · split at w
      · exact q _ _ w
      · exact w.elim
    · exact w.elim
  · rintro B pins s σ H vs us Q I r ⟨zs, S, rz, hS, w⟩
    unfold rZLen at w
    split at w
    · obtain ⟨v, rfl, hz⟩ := rzs1 rz
      cases hz with | d hz => cases hz; exact call_len_str pins s σ H _ us Q I r ⟨_, rfl, w.1, w.2 _ H (.refl _ _) (.d (.int _)) hS⟩
    · split at w
      · rename_i xs e
        obtain ⟨v, rfl, hz⟩ := rzs1 rz
        obtain ⟨a, ws, rfl, sq, f⟩ := rowZ_sq hS.1 hz e
        refine call_len_seq pins s σ H _ us Q I r ⟨a, ws, rfl, sq, ?_⟩
        rw [f.length]
        exact w _ H (.refl _ _) (.d (.int _)) hS
      · exact w.elim
    · exact w.elim
def rZTuple : ZC1 := fun zs S Q => match zs with
  | [z] => match rowZ S z with
    | some xs => Q (zt xs) S
    | none => False
  | _ => False
theorem ztuple : ZCl X (.type "tuple") rZTuple := by
  constructor
  · intro zs S Q Q' q w
    unfold rZTuple at *
    split at w
    · split at w
      · exact q _ _ w
      · exact w.elim
    · exact w.elim
  · rintro B pins s σ H vs us Q I r ⟨zs, S, rz, hS, w⟩
    unfold rZTuple at w
    split at w
    · split at w
      · rename_i xs e
        obtain ⟨v, rfl, hz⟩ := rzs1 rz
        obtain ⟨a, ws, rfl, sq, f⟩ := rowZ_sq hS.1 hz e
        refine call_tuple_of pins s σ H _ us Q I r ⟨a, ws, rfl, ?_⟩
        rcases sq with sq | sq
        · refine .inl ⟨sq, fun l hl => ?_⟩
          have sm : Same H (upd H l (.tup ws)) := same_fresh hl
          exact w _ _ (step_same sm) (.d (.tup (SqT.of upd_same) (f.le (.same sm)))) (hS.step (hS.1.same sm) (step_same sm))
        · exact .inr ⟨sq, w _ H (.refl _ _) (.d (.tup sq f)) hS⟩
      · exact w.elim
    · exact w.elim
theorem callR_rest {f : Value} {r : List V → Hp → VK → Prop} (h : CallR X f r) : CallR X f (fun vs H Q => r vs H fun v H' => ∃ a xs, v = .ref a ∧ H' a = some (.lst xs) ∧ ∀ o, Q v (upd H' a (.frz o (.lst xs)))) := by
  intro pins s σ H vs us Q I rv w
  refine thn (h pins s σ H vs us _ I rv w) fun u s1 ⟨v, H1, I1, r1, a, xs, ev, ea, q⟩ => ?_
  obtain ⟨o, I2⟩ := I1.lock ea True.intro
  exact ⟨v, _, I2, r1, q o⟩
theorem opR_rest {f : Value → Value → Sem Value} {r : R2} (h : OpR X f r) : OpR X f (fun x y H Q => r x y H fun v H' => ∃ a xs, v = .ref a ∧ H' a = some (.lst xs) ∧ ∀ o, Q v (upd H' a (.frz o (.lst xs)))) := by
  intro pins s σ H x y v u Q I rx ry w
  refine thn (h pins s σ H x y v u _ I rx ry w) fun u s1 ⟨v, H1, I1, r1, a, xs, ev, ea, q⟩ => ?_
  obtain ⟨o, I2⟩ := I1.lock ea True.intro
  exact ⟨v, _, I2, r1, q o⟩
def rZList : ZC1 := fun zs S Q => match zs with
  | [z] => match rowZ S z with
    | some xs => Q (zl xs) S
    | none => False
  | _ => False
theorem rest_end {K : PySem.W.Frag} {S : Sto} {H : Hp} {B : Bs} {Q : VK} {xs : List V} {ds : List PyData} (hS : RS K B S H) (f : FzAll K H xs ds) (w : ∀ v H', Step S S H H' → RZ K H' v (zl ds) → RS K B S H' → Q v H') (p : Addr) (hp : H p = none) :
    ∃ a ys, V.ref p = .ref a ∧ (upd H p (.lst xs)) a = some (.lst ys) ∧ ∀ o, Q (.ref p) (upd (upd H p (.lst xs)) a (.frz o (.lst ys))) := by
  refine ⟨p, xs, rfl, upd_same, fun o => ?_⟩
  rw [upd_upd]
  have sm : Same H (upd H p (.frz o (.lst xs))) := same_fresh hp
  exact w _ _ (step_same sm) (.d (.lst ⟨o, upd_same⟩ (f.le (.same sm)))) (hS.step (hS.1.same sm) (step_same sm))
theorem zlist : ZCl X (.type "list") rZList := by
  constructor
  · intro zs S Q Q' q w
    unfold rZList at *
    split at w
    · split at w
      · exact q _ _ w
      · exact w.elim
    · exact w.elim
  · rintro B pins s σ H vs us Q I r ⟨zs, S, rz, hS, w⟩
    unfold rZList at w
    split at w
    · split at w
      · rename_i xs e
        obtain ⟨v, rfl, hz⟩ := rzs1 rz
        obtain ⟨a, ws, rfl, sq, f⟩ := rowZ_sq hS.1 hz e
        exact callR_rest call_list_of pins s σ H _ us Q I r ⟨a, ws, rfl, sq, fun l hl => rest_end hS f w l hl⟩
      · exact w.elim
    · exact w.elim
def boolsZ : List PyData → Option (List Bool)
  | [] => some []
  | .bool b :: r => (boolsZ r).map (b :: ·)
  | _ :: _ => none
theorem boolsZ_map : ∀ {ds : List PyData} {bs : List Bool}, boolsZ ds = some bs → ds = bs.map PyData.bool
  | [], bs, e => by simp [boolsZ] at e; subst e; rfl
  | .bool b :: r, bs, e => by
    simp only [boolsZ, Option.map_eq_some_iff] at e
    obtain ⟨c, e1, e2⟩ := e
    subst e2
    rw [boolsZ_map e1]; rfl
  | .none :: _, _, e => by simp [boolsZ] at e
  | .int _ :: _, _, e => by simp [boolsZ] at e
  | .str _ :: _, _, e => by simp [boolsZ] at e
  | .list _ :: _, _, e => by simp [boolsZ] at e
  | .tuple _ :: _, _, e => by simp [boolsZ] at e
  | .dict _ :: _, _, e => by simp [boolsZ] at e
theorem boolsZ_of : ∀ bs : List Bool, boolsZ (bs.map PyData.bool) = some bs
  | [] => rfl
  | b :: r => by simp [boolsZ, boolsZ_of r]
def rZAll : ZC1 := fun zs S Q => ∃ bs : List Bool, zs = [zl (bs.map PyData.bool)] ∧ Q (zb (bs.all fun b => b)) S
def rZAny : ZC1 := fun zs S Q => ∃ bs : List Bool, zs = [zl (bs.map PyData.bool)] ∧ Q (zb (bs.any fun b => b)) S
theorem zall (hc : X.calm = true := by rfl) : ZCl X (.builtin "all") rZAll := by
  constructor
  · rintro zs S Q Q' q ⟨bs, e, w⟩
    exact ⟨bs, e, q _ _ w⟩
  · rintro B pins s σ H vs us Q I r ⟨zs, S, rz, hS, bs, rfl, w⟩
    obtain ⟨v, rfl, hz⟩ := rzs1 rz
    cases hz with
    | d hz =>
      cases hz with
      | @lst a xs _ sq f =>
        rw [f.bools] at sq
        exact cr_all hc pins s σ H _ us Q I r ⟨a, bs, rfl, sq.l, w _ H (.refl _ _) (.d (.bl _)) hS⟩
theorem zany (hc : X.calm = true := by rfl) : ZCl X (.builtin "any") rZAny := by
  constructor
  · rintro zs S Q Q' q ⟨bs, e, w⟩
    exact ⟨bs, e, q _ _ w⟩
  · rintro B pins s σ H vs us Q I r ⟨zs, S, rz, hS, bs, rfl, w⟩
    obtain ⟨v, rfl, hz⟩ := rzs1 rz
    cases hz with
    | d hz =>
      cases hz with
      | @lst a xs _ sq f =>
        rw [f.bools] at sq
        exact cr_any hc pins s σ H _ us Q I r ⟨a, bs, rfl, sq.l, w _ H (.refl _ _) (.d (.bl _)) hS⟩
def rZRepr : ZC1 := fun zs S Q => match zs with
  | [.d x] => Shw x ∧ Q (zs1 x) S
  | _ => False
where zs1 (x : PyData) : Z := .d (.str x.shown)
theorem zrepr {k : Nat} (hr : Room k X.A) (hG : X.A.guards = some []) : ZCl X (.builtin "repr") rZRepr := by
  constructor
  · intro zs S Q Q' q w
    unfold rZRepr at *
    split at w
    · exact ⟨w.1, q _ _ w.2⟩
    · exact w.elim
  · rintro B pins s σ H vs us Q I r ⟨zs, S, rz, hS, w⟩
    unfold rZRepr at w
    split at w
    · rename_i d
      obtain ⟨h, w⟩ := w
      obtain ⟨v, rfl, hz⟩ := rzs1 rz
      obtain ⟨u, rfl, ru⟩ := vals1 r
      cases hz with
      | d hz =>
        have fin := fun (h' : Heap) (t : Tok) (tk : Nat) (kk : ∀ b o, s.heap.get? b = some o → h'.get? b = some o) => (show EP X pins σ Q (.str d.shown t) { s with heap := h', toks := tk } from ⟨.str d.shown, H, I.kept kk, ⟨_, rfl⟩, w _ H (.refl _ _) (.d (.str _)) hS⟩)
        have hu := hr.un
        obtain ⟨as, rd, ns⟩ := hz.reads I ru
        have hsm : d.hasDict = true → sysModules ∉ as := fun hd => ns (h.l.resolve_left (by rw [hd]; simp))
        have big : ∀ a, u = .ref a → wpAny (model X.prog X.w) X.A (call (.builtin "repr") [u]) (EP X pins σ Q) X.xe s := fun a e => by
          subst e
          exact repr_of_reads' rd h.s hsm hG (by have := h.d; omega) (fun _ _ q => q) (fun h' t tk kk => fin h' t tk kk) h.z
        cases hz with
        | non => cases ru; exact PySem.P.repr_of_none ⟨.str _, H, I.tok _, ⟨_, rfl⟩, w _ H (.refl _ _) (.d (.str _)) hS⟩
        | bl b => cases ru; exact PySem.P.repr_of_bool ⟨.str _, H, I.tok _, ⟨_, rfl⟩, by have := w _ H (.refl _ _) (.d (.str _)) hS; simpa [rZRepr.zs1, PyData.shown] using this⟩
        | int i => obtain ⟨t, rfl⟩ := ru; exact PySem.P.repr_of_int (by simpa [PyData.showable] using h.s) ⟨.str _, H, I.tok _, ⟨_, rfl⟩, by have := w _ H (.refl _ _) (.d (.str _)) hS; simpa [rZRepr.zs1, PyData.shown] using this⟩
        | str x => obtain ⟨t, rfl⟩ := ru; exact PySem.P.repr_of_str ⟨.str _, H, I.tok _, ⟨_, rfl⟩, by have := w _ H (.refl _ _) (.d (.str _)) hS; simpa [rZRepr.zs1, PyData.shown] using this⟩ (by simpa [PyData.shown] using h.z)
        | lst q f => exact big _ ru
        | tup q f => exact big _ ru
        | dic q _ _ => exact big _ ru
    · exact w.elim
end
end ZL
namespace ZL
open PySem PySem.Spec PyProof.Rows L2
inductive Ty7 where
  | int | bool | str | list | tuple | dict
def Ty7.name : Ty7 → String
  | .int => "int" | .bool => "bool" | .str => "str" | .list => "list" | .tuple => "tuple" | .dict => "dict"
def isD : Ty7 → PyData → Bool
  | .int, .int _ => true
  | .int, .bool _ => true
  | .bool, .bool _ => true
  | .str, .str _ => true
  | .list, .list _ => true
  | .tuple, .tuple _ => true
  | .dict, .dict _ => true
  | _, _ => false
def isZ : Ty7 → Z → Bool
  | T, .d x => isD T x
  | .list, .r _ => true
  | .list, .k _ => true
  | _, _ => false
def thereZ (S : Sto) : Z → Prop
  | .r a => ∃ xs, S a = some (.lst xs)
  | _ => True
def nameD : PyData → String
  | .none => "NoneType" | .bool _ => "bool" | .int _ => "int" | .str _ => "str" | .list _ => "list" | .tuple _ => "tuple" | .dict _ => "dict"
theorem kit7 {K : PySem.W.Frag} (T : Ty7) (d : PyData) : PySem.W.kitOne K (.type (nameD d)) (.type T.name) = some (isD T d) := by
  cases T <;> cases d <;> (refine kit_ty ?_; simp only [nameD, Ty7.name, isD]; decide +kernel)
theorem fz_ty {K : PySem.W.Frag} {H : Hp} {v : V} {d : PyData} (h : Fz K H v d) : TyX K H v (.type (nameD d)) := by
  cases h with
  | non => exact .base .non
  | bl b => exact .base (.bl b)
  | int i => exact .base (.int i)
  | str x => exact .base (.str x)
  | lst q f => obtain ⟨o, q⟩ := q; exact .base (.frz q)
  | tup q f =>
    rcases q with (q | ⟨o, q⟩) | ⟨o, its, n, q, c, _⟩
    · exact .base (.tup q)
    · exact .fTuple q
    · exact .kTuple q c
  | dic q _ _ => exact .fDict q
section
variable {X : Cx} {B : Bs}
def zIsi (T : Ty7) (ta : ZT) : ZT := fun ρ S Q => ta ρ S fun z S1 => thereZ S1 z ∧ Q (zb (isZ T z)) S1
theorem rz_ty {K : PySem.W.Frag} {S : Sto} {H : Hp} {v : V} {z : Z} (hS : RS0 K S H) (h : RZ K H v z) (th : thereZ S z) (T : Ty7) : ∃ t, TyX K H v t ∧ PySem.W.kitOne K t (.type T.name) = some (isZ T z) := by
  cases h with
  | d h => exact ⟨_, fz_ty h, kit7 T _⟩
  | r a =>
    obtain ⟨xs, e⟩ := th
    obtain ⟨vs, q, _⟩ := hS a _ e
    exact ⟨_, .base (.lst q), by have := kit7 (K := K) T (.list []); cases T <;> exact this⟩
  | k q f =>
    rcases q with ⟨o, q⟩ | ⟨o, its, n, q, c, _⟩
    · exact ⟨_, .base (.frz q), by have := kit7 (K := K) T (.list []); cases T <;> exact this⟩
    · exact ⟨_, .kList q c, by have := kit7 (K := K) T (.list []); cases T <;> exact this⟩
theorem ze_isi (T : Ty7) {e c : Expr} {te : ZT} {p pos : Pos} (hm : X.mg "isinstance" = none) (he : ZE X B e te) (hc : PE X c (tC (.ty T.name))) (hg : Gl X "isinstance" := by rfl)
    (hs : starEach (e :: [c]) X.env = (false, eval e X.env) :: starEach [c] X.env := by rfl) (hs2 : starEach [c] X.env = (false, eval c X.env) :: starEach [] X.env := by rfl) (hpl : (backTo pos (starEach [c] X.env)).any (·.1) = false := by rfl) :
    ZE X B (.Call (.Name "isinstance" p) [e, c] [] pos) (zIsi T te) := by
  refine ⟨fun {ρ S Q Q'} q w => he.mono (fun z S1 h1 => ⟨h1.1, q _ _ h1.2⟩) w, PE.imp (pe_callB call_isi hg hm PyProof.Rows.boot_isinstance (pa_cons he.pe (pa_cons hc pa_nil hs2) hs) (by decide) (by decide) hs hpl) ?_⟩
  rintro σ H Q ⟨ρ, S, hE, hS, w⟩
  refine he.go hE hS w fun z S1 v1 H1 h1 st1 E1 R1 rz => ?_
  obtain ⟨t, ty, k⟩ := rz_ty R1.1 rz h1.1 T
  exact ⟨v1, .ty T.name, t, .type T.name, _, rfl, .ty _, ty, k, h1.2 _ H1 st1 (.d (.bl _)) R1⟩
theorem pe_ty (T : Ty7) {x : Str} {p : Pos} (hm : X.mg x = none) (hx : x = Str.ofString T.name := by rfl) (hg : Gl X x := by rfl) (hv : bootBuiltins x = some (.type T.name) := by decide +kernel) (hn : x ≠ "__name__" := by decide) (hd : (x == ("__debug__" : Str)) = false := by decide) :
    PE X (.Name x p) (tC (.ty T.name)) := pe_bltn hg hm hv rfl hn hd
abbrev ZPt := ZEnv → Sto → (Option Int → Sto → Prop) → Prop
def lowO (K : PySem.W.Frag) (B : Bs) (t : ZPt) : TO := fun σ H Q => ∃ ρ S, RE K H ρ σ ∧ RS K B S H ∧ t ρ S fun o S' => ∀ H', Step S S' H H' → RS K B S' H' → Q o H'
structure ZO (X : Cx) (B : Bs) (e : Option Expr) (t : ZPt) : Prop where
  mono : ∀ {ρ S} {Q Q' : Option Int → Sto → Prop}, (∀ z S', Q z S' → Q' z S') → t ρ S Q → t ρ S Q'
  po : PO X e (lowO X.K B t)
def zNoPart : ZPt := fun _ S Q => Q none S
def zPart (t : ZT) : ZPt := fun ρ S Q => t ρ S fun z S1 => match z with
  | .d (.int i) => Q (some i) S1
  | _ => False
theorem PO.imp {e : Option Expr} {t t' : TO} (h : PO X e t) (q : ∀ σ H Q, t' σ H Q → t σ H Q) : PO X e t' := ⟨fun pins s σ H Q I w => h.run pins s σ H Q I (q σ H Q w)⟩
theorem zo_none : ZO X B none zNoPart := by
  refine ⟨fun q w => q _ _ w, PO.imp po_none ?_⟩
  rintro σ H Q ⟨ρ, S, hE, hS, w⟩
  exact w H (.refl _ _) hS
theorem zo_some {e : Expr} {t : ZT} (h : ZE X B e t) : ZO X B (some e) (zPart t) := by
  refine ⟨fun {ρ S Q Q'} q w => h.mono (fun z S1 h1 => ?_) w, PO.imp (po_some h.pe) ?_⟩
  · split at h1
    · exact q _ _ h1
    · exact h1.elim
  · rintro σ H Q ⟨ρ, S, hE, hS, w⟩
    refine h.go hE hS w fun z S1 v1 H1 h1 st1 E1 R1 rz => ?_
    split at h1
    · cases rz with | d rz => cases rz; exact ⟨_, rfl, h1 H1 st1 R1⟩
    · exact h1.elim
def cutD (xs : List PyData) (lo hi : Option Int) : List PyData := (xs.drop (HT.sIx xs.length 0 lo)).take (HT.sIx xs.length xs.length hi - HT.sIx xs.length 0 lo)
theorem cut_fz {K : PySem.W.Frag} {H : Hp} {vs : List V} {xs : List PyData} (f : FzAll K H vs xs) (lo hi : Option Int) : FzAll K H (cutV vs lo hi) (cutD xs lo hi) := by
  unfold cutV cutD
  rw [f.length]
  exact (f.drop _).take _
def rZSl : Z → Option Int → Option Int → Sto → ZQ → Prop := fun x lo hi S Q => match x with
  | .d (.tuple xs) => Q (zt (cutD xs lo hi)) S
  | z => match rowZ S z with
    | some xs => Q (zl (cutD xs lo hi)) S
    | none => False
theorem slR_rest {r : V → Option Int → Option Int → Hp → VK → Prop} (h : SlR X r) : SlR X (fun x lo hi H Q => r x lo hi H fun v H' => ∃ a xs, v = .ref a ∧ H' a = some (.lst xs) ∧ ∀ o, Q v (upd H' a (.frz o (.lst xs)))) := by
  intro pins s σ H x v vl vu lo hi sl Q I rx hs pl pu w
  obtain ⟨T, id, e1, e2, e3⟩ := h pins s σ H x v vl vu lo hi sl _ I rx hs pl pu w
  refine ⟨T, id, e1, e2, thn e3 fun u s1 ⟨v, H1, I1, r1, a, xs, ev, ea, q⟩ => ?_⟩
  obtain ⟨o, I2⟩ := I1.lock ea True.intro
  exact ⟨v, _, I2, r1, q o⟩
theorem rowZ_list {K : PySem.W.Frag} {S : Sto} {H : Hp} {z : Z} {v : V} {xs : List PyData} (hS : RS0 K S H) (rz : RZ K H v z) (n : ∀ ys, z ≠ zt ys) (e : rowZ S z = some xs) : ∃ a vs, v = .ref a ∧ SqL K H a vs ∧ FzAll K H vs xs := by
  cases rz with
  | d h =>
    cases h with
    | lst s f => simp [rowZ] at e; subst e; exact ⟨_, _, rfl, s.l, f⟩
    | tup s f => exact absurd rfl (n _)
    | _ => simp [rowZ] at e
  | k s f => simp [rowZ] at e; subst e; exact ⟨_, _, rfl, s.l, f⟩
  | r b =>
    simp only [rowZ] at e
    cases q : S b with
    | none => rw [q] at e; cases e
    | some c =>
      cases c with
      | tab _ => rw [q] at e; cases e
      | own _ _ => rw [q] at e; cases e
      | tbl _ => rw [q] at e; cases e
      | lst ys =>
        rw [q] at e
        cases e
        obtain ⟨vs, h, f⟩ := hS b _ q
        exact ⟨b, vs, rfl, .of h, f⟩
def zSl (ta : ZT) (tl th : ZPt) : ZT := fun ρ S Q => ta ρ S fun z S1 => tl ρ S1 fun lo S2 => th ρ S2 fun hi S3 => rZSl z lo hi S3 Q
theorem ze_slice {e : Expr} {lo hi : Option Expr} {te : ZT} {tl th : ZPt} {p2 pos : Pos} (he : ZE X B e te) (hl : ZO X B lo tl) (hh : ZO X B hi th) : ZE X B (.Subscript e (.Slice lo hi none p2) pos) (zSl te tl th) := by
  refine ⟨fun {ρ S Q Q'} q w => he.mono (fun z S1 h1 => hl.mono (fun a S2 h2 => hh.mono (fun b S3 h3 => ?_) h2) h1) w, PE.imp (pe_slice (sl_tupA.or (slR_rest sl_list)) he.pe hl.po hh.po) ?_⟩
  · unfold rZSl at *
    split at h3
    · exact q _ _ h3
    · split at h3
      · exact q _ _ h3
      · exact h3.elim
  · rintro σ H Q ⟨ρ, S, hE, hS, w⟩
    refine he.go hE hS w fun z S1 v1 H1 h1 st1 E1 R1 rz => ?_
    refine ⟨ρ, S1, E1, R1, hl.mono (fun o S2 h2 H2 st2 R2 => ?_) h1⟩
    refine ⟨ρ, S2, E1.le (st2.le R1.1), R2, hh.mono (fun o2 S3 h3 H3 st3 R3 => ?_) h2⟩
    have rz3 := (rz.le (st2.le R1.1)).le (st3.le R2.1)
    have st := (st1.trans st2).trans st3
    unfold rZSl at h3
    split at h3
    · cases rz3 with
      | d rz3 =>
        cases rz3 with
        | @tup a vs xs sq f =>
          refine .inl ⟨a, vs, rfl, sq, fun hw => ?_, fun hw p hp => ?_⟩
          · refine h3 _ H3 st (.d (.tup sq ?_)) R3
            unfold cutD
            rw [f.length] at hw
            rw [hw.1, hw.2, List.drop_zero, Nat.sub_zero, List.take_length]
            exact f
          · have sm : Same H3 (upd H3 p (.tup (cutV vs o o2))) := same_fresh hp
            exact h3 _ _ (st.trans (step_same sm)) (.d (.tup (SqT.of upd_same) ((cut_fz f o o2).le (.same sm)))) (R3.step (R3.1.same sm) (step_same sm))
    · rename_i nt
      split at h3
      · rename_i xs e
        obtain ⟨a, vs, rfl, sq, f⟩ := rowZ_list R3.1 rz3 (fun ys ez => nt ys ez) e
        exact .inr ⟨a, vs, rfl, sq, fun p hp => rest_end R3 (cut_fz f o o2) (fun v H' st' rz' rs' => h3 v H' (st.trans st') rz' rs') p hp⟩
      · exact h3.elim
theorem lst_of {pins : List (Addr × Obj)} {σ : L2.St} {H : Hp} {s : Shared} (I : Inv X pins σ H s) {a : Addr} {xs : List V} (h : Rd H a (.lst xs)) : ∃ (its : List Value) (n : Nat), Vals xs its ∧ s.heap.get? a = some { cls := .type "list", data := .seq its.toArray n } := by
  obtain ⟨_, its, n, r, e⟩ := h.ok I.hok
  exact ⟨its, n, r, e⟩
def rCatL : R2 := fun x y H Q => ∃ l b xs zs, x = .ref l ∧ y = .ref b ∧ Rd H l (.lst xs) ∧ Rd H b (.lst zs) ∧ xs.length + zs.length ≤ sizeLine ∧ ∀ p, H p = none → Q (.ref p) (upd H p (.lst (xs ++ zs)))
theorem op_catL : OpR X (binaryOp .Add) rCatL := by
  rintro pins s σ H x y v u Q I rx ry ⟨l, b, xs, zs, rfl, rfl, h1, h2, hz, q⟩
  cases rx
  cases ry
  obtain ⟨its, n, r, e⟩ := lst_of I h1
  obtain ⟨its2, n2, r2, e2⟩ := lst_of I h2
  have l1 := r.length
  have l2 := r2.length
  refine PySem.P.add_list e e2 ?_ (by simp only [List.size_toArray]; omega)
  rw [show its.toArray ++ its2.toArray = (its ++ its2).toArray by simp]
  exact ⟨.ref _, _, I.lnew (t' := s.toks) (r.append r2) (by rw [List.length_append]; omega), rfl, q _ I.fresh⟩
def listZ (S : Sto) : Z → Option (List PyData)
  | .d (.list xs) => some xs
  | .r a => match S a with
    | some (.lst xs) => some xs
    | _ => none
  | _ => none
theorem listZ_rd {K : PySem.W.Frag} {S : Sto} {H : Hp} {z : Z} {v : V} {xs : List PyData} (hS : RS0 K S H) (rz : RZ K H v z) (e : listZ S z = some xs) : ∃ a vs, v = .ref a ∧ Rd H a (.lst vs) ∧ FzAll K H vs xs := by
  cases rz with
  | d h =>
    cases h with
    | lst s f => simp [listZ] at e; subst e; exact ⟨_, _, rfl, .inr s, f⟩
    | _ => simp [listZ] at e
  | k s f => simp [listZ] at e
  | r b =>
    simp only [listZ] at e
    cases q : S b with
    | none => rw [q] at e; cases e
    | some c =>
      cases c with
      | tab _ => rw [q] at e; cases e
      | own _ _ => rw [q] at e; cases e
      | tbl _ => rw [q] at e; cases e
      | lst ys =>
        rw [q] at e
        cases e
        obtain ⟨vs, h, f⟩ := hS b _ q
        exact ⟨b, vs, rfl, .inl h, f⟩
def rZCat : ZR2 := fun x y S Q => match listZ S x, listZ S y with
  | some a, some b => a.length + b.length ≤ sizeLine ∧ Q (zl (a ++ b)) S
  | _, _ => False
theorem zcat : ZOp X (binaryOp .Add) rZCat := by
  constructor
  · intro x y S Q Q' q w
    unfold rZCat at *
    split at w
    · exact ⟨w.1, q _ _ w.2⟩
    · exact w.elim
  · rintro B pins s σ H x y v u Q I rx ry ⟨z1, z2, S, h1, h2, hS, w⟩
    unfold rZCat at w
    split at w
    · rename_i a b e1 e2
      obtain ⟨l, vs, rfl, q1, f1⟩ := listZ_rd hS.1 h1 e1
      obtain ⟨l2, vs2, rfl, q2, f2⟩ := listZ_rd hS.1 h2 e2
      exact opR_rest op_catL pins s σ H _ _ v u Q I rx ry ⟨l, l2, vs, vs2, rfl, rfl, q1, q2, by rw [f1.length, f2.length]; exact w.1, fun p hp => rest_end hS (f1.append f2) w.2 p hp⟩
    · exact w.elim
def rZCatM : ZR2 := fun x y S Q => match listZ S x, listZ S y with
  | some a, some b => a.length + b.length ≤ sizeLine ∧ ∀ p, S p = none → Q (.r p) (S.put p (.lst (a ++ b)))
  | _, _ => False
theorem zcatM : ZOp X (binaryOp .Add) rZCatM := by
  constructor
  · intro x y S Q Q' q w
    unfold rZCatM at *
    split at w
    · exact ⟨w.1, fun p hp => q _ _ (w.2 p hp)⟩
    · exact w.elim
  · rintro B pins s σ H x y v u Q I rx ry ⟨z1, z2, S, h1, h2, hS, w⟩
    unfold rZCatM at w
    split at w
    · rename_i a b e1 e2
      obtain ⟨l, vs, rfl, q1, f1⟩ := listZ_rd hS.1 h1 e1
      obtain ⟨l2, vs2, rfl, q2, f2⟩ := listZ_rd hS.1 h2 e2
      exact op_catL pins s σ H _ _ v u Q I rx ry ⟨l, l2, vs, vs2, rfl, rfl, q1, q2, by rw [f1.length, f2.length]; exact w.1, fun p hp => w.2 p (hS.1.fresh hp) _ _ (step_new hp) (.r p) (hS.step (hS.1.new hp (f1.append f2)) (step_new hp))⟩
    · exact w.elim
def zDict0 : ZT := fun _ S Q => Q (.d (.dict [])) S
theorem ze_dict0 {pos : Pos} (h : PE X (.Dict [] [] pos) (fun _ H Q => ∀ p, H p = none → Q (.ref p) (upd H p (.dK [])))) : ZE X B (.Dict [] [] pos) zDict0 := by
  refine ⟨fun q w => q _ _ w, PE.imp (pe_restD h) ?_⟩
  rintro σ H Q ⟨ρ, S, hE, hS, w⟩ p hp
  refine ⟨p, [], rfl, upd_same, fun o => ?_⟩
  rw [upd_upd]
  have sm : Same H (upd H p (.frz o (.dK []))) := same_fresh hp
  exact w _ _ (step_same sm) (.d (.dic (kvs := []) (ds := []) upd_same rfl .nil)) (hS.step (hS.1.same sm) (step_same sm))
def zApp (to te : ZT) : ZT := fun ρ S Q => to ρ S fun x S1 => match x with
  | .r p => (∃ xs, S1 p = some (.lst xs)) ∧ te ρ S1 fun y S2 => match y with
    | .d d => match S2 p with
      | some (.lst xs) => xs.length < sizeLine ∧ Q (.d .none) (S2.put p (.lst (xs ++ [d])))
      | _ => False
    | _ => False
  | _ => False
theorem ze_app {o e : Expr} {to te : ZT} {apos pos : Pos} (ho : ZE X B o to) (he : ZE X B e te)
    (pe : ∀ {ta : TE} {tb : TE}, PE X o ta → PE X e tb → PE X (.Call (.Attribute o "append" apos) [e] [] pos) (tBM X.K "list" rAppend ta (tCons tb tNil)) := by intro ta tb h1 h2; exact pe_bm PySem.F.plainAttrs_list PySem.F.slot_list_append PySem.F.type_list_append mt_append h1 (pa_cons h2 pa_nil)) :
    ZE X B (.Call (.Attribute o "append" apos) [e] [] pos) (zApp to te) := by
  refine ⟨fun {ρ S Q Q'} q w => ho.mono (fun x S1 h1 => ?_) w, PE.imp (pe ho.pe he.pe) ?_⟩
  · split at h1
    · refine ⟨h1.1, he.mono (fun y S2 h2 => ?_) h1.2⟩
      split at h2
      · split at h2
        · exact ⟨h2.1, q _ _ h2.2⟩
        · exact h2.elim
      · exact h2.elim
    · exact h1.elim
  · rintro σ H Q ⟨ρ, S, hE, hS, w⟩
    refine ho.go hE hS w fun x S1 v1 H1 h1 st1 E1 R1 z1 => ?_
    split at h1
    · rename_i p
      cases z1
      obtain ⟨⟨xs, e1⟩, h1⟩ := h1
      obtain ⟨vs, q1, _⟩ := R1.1 p _ e1
      refine ⟨.inl ⟨rfl, vs, .of q1⟩, he.go E1 R1 h1 fun y S2 v2 H2 h2 st2 E2 R2 z2 => ?_⟩
      split at h2
      · split at h2
        · rename_i d _ ys e2
          cases z2 with
          | d z2 =>
            obtain ⟨ws, q2, f2⟩ := R2.1 p _ e2
            have f3 := f2.append (.one z2)
            have sS := step_set (c' := .lst (ys ++ [d])) (o := .lst (ws ++ [v2])) (H := H2) e2
            exact ⟨p, ws, v2, rfl, rfl, q2, by rw [f2.length]; exact h2.1, h2.2 .non _ ((st1.trans st2).trans sS) (.d .non) (R2.step (R2.1.set e2 f3) sS)⟩
        · exact h2.elim
      · exact h2.elim
    · exact h1.elim
end
end ZL
namespace ZL
open PySem PySem.Spec PyProof.Rows L2
theorem wipe_at {σ : L2.St} {vs : List Nat} {j : Nat} : (wipe σ vs)[j]? = if j ∈ vs then σ[j]?.map (fun _ => none) else σ[j]? := by
  induction vs with
  | nil => simp [wipe]
  | cons v vs ih =>
    unfold wipe
    by_cases e : j = v
    · subst e
      rw [List.getElem?_set]
      simp only [List.mem_cons, true_or, if_true]
      by_cases h : j < σ.length
      · simp [wipe_length, h]
      · simp [wipe_length, h]
    · rw [List.getElem?_set_ne (Ne.symm e), ih]
      simp [e]
theorem wipe_set {σ : L2.St} {vs : List Nat} {i : Nat} {o : Option V} (h : i ∈ vs) : wipe (σ.set i o) vs = wipe σ vs := by
  apply List.ext_getElem?
  intro j
  rw [wipe_at, wipe_at]
  by_cases e : j ∈ vs
  · simp only [e, if_true]
    by_cases q : i = j
    · subst q
      rw [List.getElem?_set]
      by_cases l : i < σ.length <;> simp [l]
    · rw [List.getElem?_set_ne q]
  · simp only [e, if_false]
    have : i ≠ j := fun q => e (q ▸ h)
    rw [List.getElem?_set_ne this]
theorem wipe_wipe {σ : L2.St} {vs : List Nat} : wipe (wipe σ vs) vs = wipe σ vs := by
  apply List.ext_getElem?
  intro j
  rw [wipe_at, wipe_at]
  by_cases e : j ∈ vs
  · simp only [e, if_true]
    cases σ[j]? <;> rfl
  · simp only [e, if_false]
def Own (own : List Nat) (σ σ' : L2.St) : Prop := ∀ vs : List Nat, (∀ i ∈ own, i ∈ vs) → wipe σ' vs = wipe σ vs
abbrev ZG := Z → ZEnv → Sto → (ZEnv → Sto → Prop) → Prop
def lowG (K : PySem.W.Frag) (B : Bs) (own : List Nat) (g : ZG) : TG := fun v σ H Q => ∃ z ρ S, RZ K H v z ∧ RE K H ρ σ ∧ RS K B S H ∧ g z ρ S fun ρ' S' => ∀ σ' H', Step S S' H H' → RE K H' ρ' σ' → RS K B S' H' → Own own σ σ' → Q σ' H'
structure ZGt (X : Cx) (B : Bs) (tg : Expr) (own : List Nat) (g : ZG) : Prop where
  mono : ∀ {z ρ S} {Q Q' : ZEnv → Sto → Prop}, (∀ ρ' S', Q ρ' S' → Q' ρ' S') → g z ρ S Q → g z ρ S Q'
  pg : PG X tg (lowG X.K B own g)
abbrev ZGs := List PyData → ZEnv → Sto → (ZEnv → Sto → Prop) → Prop
def lowGs (K : PySem.W.Frag) (B : Bs) (own : List Nat) (g : ZGs) : TGs := fun vs σ H Q => ∃ zs ρ S, FzAll K H vs zs ∧ RE K H ρ σ ∧ RS K B S H ∧ g zs ρ S fun ρ' S' => ∀ σ' H', Step S S' H H' → RE K H' ρ' σ' → RS K B S' H' → Own own σ σ' → Q σ' H'
structure ZGts (X : Cx) (B : Bs) (tgs : List Expr) (own : List Nat) (g : ZGs) : Prop where
  mono : ∀ {z ρ S} {Q Q' : ZEnv → Sto → Prop}, (∀ ρ' S', Q ρ' S' → Q' ρ' S') → g z ρ S Q → g z ρ S Q'
  pgs : PGs X tgs (lowGs X.K B own g)
theorem PG.imp {X : Cx} {e : Expr} {t t' : TG} (h : PG X e t) (q : ∀ v σ H Q, t' v σ H Q → t v σ H Q) : PG X e t' := ⟨fun pins s σ H v u Q I r w => h.run pins s σ H v u Q I r (q v σ H Q w)⟩
theorem PGs.imp {X : Cx} {e : List Expr} {t t' : TGs} (h : PGs X e t) (q : ∀ v σ H Q, t' v σ H Q → t v σ H Q) : PGs X e t' := ⟨fun pins s σ H v u Q I r w => h.run pins s σ H v u Q I r (q v σ H Q w)⟩
section
variable {X : Cx} {B : Bs} {pos : Pos}
def zgName (i : Nat) : ZG := fun z ρ S Q => Q (ρ.set i (some z)) S
theorem zg_name {i : Nat} {x : Str} (hN : X.N.Nodup) (hi : X.N[i]? = some x := by rfl) (hx : Loc X.env.scope x := by first | exact Or.inl rfl | exact Or.inr rfl) (hf : X.fn x = true ∨ X.env.scope.names.lookup x = some .local := by first | exact .inl rfl | exact .inr rfl | assumption) : ZGt X B (.Name x pos) [i] (zgName i) := by
  refine ⟨fun q w => q _ _ w, PG.imp (pg_name hN hi hx hf) ?_⟩
  rintro v σ H Q ⟨z, ρ, S, rz, hE, hS, w⟩
  exact w _ H (.refl _ _) (hE.set i rz) hS fun vs h => wipe_set (h i (by simp))
def zgNil : ZGs := fun zs ρ S Q => match zs with
  | [] => Q ρ S
  | _ => False
def zgCons (t : ZG) (u : ZGs) : ZGs := fun zs ρ S Q => match zs with
  | x :: r => t (.d x) ρ S fun ρ' S' => u r ρ' S' Q
  | [] => False
theorem zgs_nil : ZGts X B [] [] zgNil := by
  refine ⟨fun {z ρ S Q Q'} q w => ?_, PGs.imp pgs_nil ?_⟩
  · unfold zgNil at *
    split at w
    · exact q _ _ w
    · exact w.elim
  · rintro vs σ H Q ⟨zs, ρ, S, f, hE, hS, w⟩
    unfold zgNil at w
    split at w
    · cases f
      exact ⟨rfl, w σ H (.refl _ _) hE hS fun _ _ => rfl⟩
    · exact w.elim
theorem zgs_cons {e : Expr} {es : List Expr} {o1 o2 : List Nat} {t : ZG} {u : ZGs} (h1 : ZGt X B e o1 t) (h2 : ZGts X B es o2 u)
    (hs : (assignEach (e :: es) X.env).map (·.2) = assign e X.env :: (assignEach es X.env).map (·.2) := by rfl) : ZGts X B (e :: es) (o1 ++ o2) (zgCons t u) := by
  refine ⟨fun {z ρ S Q Q'} q w => ?_, PGs.imp (pgs_cons h1.pg h2.pgs hs) ?_⟩
  · unfold zgCons at *
    split at w
    · exact h1.mono (fun _ _ w2 => h2.mono q w2) w
    · exact w.elim
  · rintro vs σ H Q ⟨zs, ρ, S, f, hE, hS, w⟩
    unfold zgCons at w
    split at w
    · cases f with
      | cons f1 f2 =>
        refine ⟨_, _, rfl, _, ρ, S, .d f1, hE, hS, h1.mono (fun ρ' S' w2 σ' H' st E' R' ow => ?_) w⟩
        refine ⟨_, ρ', S', f2.le (st.le hS.1), E', R', h2.mono (fun ρ2 S2 w3 σ2 H2 st2 E2 R2 ow2 => ?_) w2⟩
        exact w3 σ2 H2 (st.trans st2) E2 R2 fun vs h => (ow2 vs fun i hi => h i (List.mem_append_right _ hi)).trans (ow vs fun i hi => h i (List.mem_append_left _ hi))
    · exact w.elim
def zgTup (n : Nat) (t : ZGs) : ZG := fun z ρ S Q => match z with
  | .d (.tuple xs) => xs.length = n ∧ t xs ρ S Q
  | _ => False
theorem zg_tup {es : List Expr} {k : Nat} {own : List Nat} {t : ZGs} {n : Nat} (h : ZGts X B es own t) (hc : X.calm = true := by rfl) (hn : (assignEach es X.env).length = n := by rfl) (hst : (assignEach es X.env).findIdx? (·.1) = none := by rfl) :
    ZGt X B (.Tuple es k pos) own (zgTup n t) := by
  refine ⟨fun {z ρ S Q Q'} q w => ?_, PG.imp (pg_tup hc h.pgs hn hst) ?_⟩
  · unfold zgTup at *
    split at w
    · exact ⟨w.1, h.mono q w.2⟩
    · exact w.elim
  · rintro v σ H Q ⟨z, ρ, S, rz, hE, hS, w⟩
    unfold zgTup at w
    split at w
    · cases rz with
      | d f =>
        cases f with
        | @tup a xs ds sq f =>
          exact ⟨a, xs, rfl, sq, by rw [f.length]; exact w.1, _, ρ, S, f, hE, hS, w.2⟩
    · exact w.elim
def zgSub (to ti : ZT) : ZG := fun z ρ S Q => to ρ S fun o S1 => ti ρ S1 fun i S2 => match o, i, z with
  | .r p, .d (.int k), .d d => match S2 p with
    | some (.lst xs) => match ixN xs.length k with
      | some j => Q ρ (S2.put p (.lst (xs.set j d)))
      | none => False
    | _ => False
  | _, _, _ => False
theorem zg_sub {o i : Expr} {to ti : ZT} (ho : ZE X B o to) (hi : ZE X B i ti)
    (ha : ∀ v, assign (.Subscript o i pos) X.env v = (do
      let ov ← holding [v] (eval o X.env)
      let iv ← holding [v, ov] (eval i X.env)
      standAt pos
      holding [v, ov, iv] (setItem ov iv v)
      release [v, ov, iv] []) := by intro _; rfl) : ZGt X B (.Subscript o i pos) [] (zgSub to ti) := by
  refine ⟨fun {z ρ S Q Q'} q w => ho.mono (fun x S1 h1 => hi.mono (fun y S2 h2 => ?_) h1) w, PG.imp (pg_sub ho.pe hi.pe set_list ha) ?_⟩
  · split at h2
    · split at h2
      · split at h2
        · exact q _ _ h2
        · exact h2.elim
      · exact h2.elim
    · exact h2.elim
  · rintro v σ H Q ⟨z, ρ, S, rz, hE, hS, w⟩
    refine ho.go hE hS w fun x S1 v1 H1 h1 st1 E1 R1 z1 => ?_
    refine hi.go E1 R1 h1 fun y S2 v2 H2 h2 st2 E2 R2 z2 => ?_
    have rz2 := (rz.le (st1.le hS.1)).le (st2.le R1.1)
    split at h2
    · rename_i p k d
      split at h2
      · rename_i xs e
        split at h2
        · rename_i j ej
          cases z1
          cases z2 with
          | d z2 =>
            cases z2
            cases rz2 with
            | d rz2 =>
              obtain ⟨ws, q2, f2⟩ := R2.1 p _ e
              have sS := step_set (c' := .lst (xs.set j d)) (o := .lst (ws.set j v)) (H := H2) e
              have R3 := R2.step (R2.1.set e (f2.set j rz2)) sS
              exact ⟨p, ws, k, j, rfl, rfl, q2, by rw [f2.length]; exact ej, h2 σ _ ((st1.trans st2).trans sS) (E2.le (sS.le R2.1)) R3 fun _ _ => rfl⟩
        · exact h2.elim
      · exact h2.elim
    · exact h2.elim
structure ZEnds where
  nx : ZEnv → Sto → Prop
  rt : ZQ
  bk : ZEnv → Sto → Prop := fun _ _ => False
  ct : ZEnv → Sto → Prop := fun _ _ => False
abbrev ZTS := ZEnds → ZEnv → Sto → Prop
structure ELe (K : PySem.W.Frag) (B : Bs) (S : Sto) (H : Hp) (D : ZEnds) (E : Ends) : Prop where
  nx : ∀ ρ' S' σ' H', D.nx ρ' S' → Step S S' H H' → RE K H' ρ' σ' → RS K B S' H' → E.nx σ' H'
  rt : ∀ z S' v H', D.rt z S' → Step S S' H H' → RZ K H' v z → RS K B S' H' → E.rt v H'
  bk : ∀ ρ' S' σ' H', D.bk ρ' S' → Step S S' H H' → RE K H' ρ' σ' → RS K B S' H' → E.bk σ' H'
  ct : ∀ ρ' S' σ' H', D.ct ρ' S' → Step S S' H H' → RE K H' ρ' σ' → RS K B S' H' → E.ct σ' H'
theorem ELe.step {K : PySem.W.Frag} {S S1 : Sto} {H H1 : Hp} {D : ZEnds} {E : Ends} (h : ELe K B S H D E) (st : Step S S1 H H1) : ELe K B S1 H1 D E :=
  ⟨fun a b c d w s r q => h.nx a b c d w (st.trans s) r q, fun a b c d w s r q => h.rt a b c d w (st.trans s) r q, fun a b c d w s r q => h.bk a b c d w (st.trans s) r q, fun a b c d w s r q => h.ct a b c d w (st.trans s) r q⟩
def lowS (K : PySem.W.Frag) (B : Bs) (t : ZTS) : TS := fun E σ H => ∃ ρ S D, RE K H ρ σ ∧ RS K B S H ∧ ELe K B S H D E ∧ t D ρ S
structure ZS (X : Cx) (B : Bs) (st : Stmt) (t : ZTS) : Prop where
  ps : PS X st (lowS X.K B t)
structure ZSs (X : Cx) (B : Bs) (st : List Stmt) (t : ZTS) : Prop where
  pss : PSs X st (lowS X.K B t)
def zNext : ZTS := fun D ρ S => D.nx ρ S
def zSeq (t u : ZTS) : ZTS := fun D ρ S => t { D with nx := u D } ρ S
theorem zss_nil : ZSs X B [] zNext := ⟨PSs.imp pss_nil (by
  rintro E σ H ⟨ρ, S, D, hE, hS, l, w⟩
  exact l.nx _ _ _ _ w (.refl _ _) hE hS)⟩
theorem zss_cons {st : Stmt} {sts : List Stmt} {t u : ZTS} (h1 : ZS X B st t) (h2 : ZSs X B sts u) : ZSs X B (st :: sts) (zSeq t u) := ⟨PSs.imp (pss_cons h1.ps h2.pss) (by
  rintro E σ H ⟨ρ, S, D, hE, hS, l, w⟩
  exact ⟨ρ, S, { D with nx := u D }, hE, hS, ⟨fun ρ' S' σ' H' w' st' E' R' => ⟨ρ', S', D, E', R', l.step st', w'⟩, l.rt, l.bk, l.ct⟩, w⟩)⟩
variable {e : Expr} {te : ZT}
def zDrop (te : ZT) : ZTS := fun D ρ S => te ρ S fun _ S1 => D.nx ρ S1
theorem zs_expr (he : ZE X B e te) (hs : swapsWith e none pos.line X.env = pure false := by rfl) : ZS X B (.Expr e pos) (zDrop te) := ⟨PS.imp (ps_expr he.pe hs) (by
  rintro E σ H ⟨ρ, S, D, hE, hS, l, w⟩
  exact he.go hE hS w fun z S1 v H1 h1 st E1 R1 rz => l.nx _ _ _ _ h1 st E1 R1)⟩
def zRet (te : ZT) : ZTS := fun D ρ S => te ρ S D.rt
theorem zs_ret (he : ZE X B e te) : ZS X B (.Return (some e) pos) (zRet te) := ⟨PS.imp (ps_ret he.pe) (by
  rintro E σ H ⟨ρ, S, D, hE, hS, l, w⟩
  exact he.go hE hS w fun z S1 v H1 h1 st E1 R1 rz => l.rt _ _ _ _ h1 st rz R1)⟩
def zIfS (c : ZB) (t u : ZTS) : ZTS := fun D ρ S => c ρ S fun b S1 => zBr b (t D ρ S1) (u D ρ S1)
theorem zs_if {c : Expr} {a b : List Stmt} {tc : ZB} {t u : ZTS} (hc : ZTe X B c tc) (ha : ZSs X B a t) (hb : ZSs X B b u) : ZS X B (.If c a b pos) (zIfS tc t u) := ⟨PS.imp (ps_if hc.pt ha.pss hb.pss) (by
  rintro E σ H ⟨ρ, S, D, hE, hS, l, w⟩
  refine hc.go hE hS w fun c S1 H1 h1 st E1 R1 => ?_
  cases c with
  | true => exact iteT ⟨ρ, S1, D, E1, R1, l.step st, h1⟩
  | false => exact iteF ⟨ρ, S1, D, E1, R1, l.step st, h1⟩)⟩
def zAsg (te : ZT) (g : ZG) : ZTS := fun D ρ S => te ρ S fun z S1 => g z ρ S1 D.nx
theorem low_asg {E : Ends} {σ : L2.St} {H : Hp} {te : ZT} {g : ZG} {tg : Expr} {own : List Nat} (he : ZE X B e te) (hg : ZGt X B tg own g) (h : lowS X.K B (zAsg te g) E σ H) : tAsg (low X.K B te) (lowG X.K B own g) E σ H := by
  obtain ⟨ρ, S, D, hE, hS, l, w⟩ := h
  refine he.go hE hS w fun z S1 v H1 h1 st E1 R1 rz => ?_
  exact ⟨z, ρ, S1, rz, E1, R1, hg.mono (fun ρ' S' w' σ' H' st' E' R' _ => l.nx _ _ _ _ w' (st.trans st') E' R') h1⟩
theorem zs_asg {tg : Expr} {g : ZG} {own : List Nat} (he : ZE X B e te) (hg : ZGt X B tg own g) (hs : swapsWithSole [tg] e pos.line X.env = pure false := by rfl) (hw : swappedStores [tg] e X.env = pure none := by rfl)
    (h1 : (assignEach [tg] X.env).map (·.2) = [assign tg X.env] := by rfl) : ZS X B (.Assign [tg] e pos) (zAsg te g) := ⟨PS.imp (ps_asg he.pe hg.pg hs hw h1) fun _ _ _ h => low_asg he hg h⟩
theorem zs_set (i : Nat) {x : Str} {pos' : Pos} (hN : X.N.Nodup) (he : ZE X B e te) (hi : X.N[i]? = some x := by rfl) (hx : Loc X.env.scope x := by first | exact Or.inl rfl | exact Or.inr rfl) (hs : swapsWith e (some (.Name x pos')) pos.line X.env = pure false := by rfl) (hf : X.fn x = true ∨ X.env.scope.names.lookup x = some .local := by first | exact .inl rfl | exact .inr rfl | assumption) :
    ZS X B (.Assign [.Name x pos'] e pos) (zAsg te (zgName i)) := ⟨PS.imp (ps_set hN hi hx he.pe hs hf) (by
  rintro E σ H ⟨ρ, S, D, hE, hS, l, w⟩
  exact he.go hE hS w fun z S1 v H1 h1 st E1 R1 rz => l.nx _ _ _ _ h1 st (E1.set i rz) R1)⟩
def zPar (i j : Nat) (ta : ZA) : ZTS := fun D ρ S => ta ρ S fun zs S1 => match zs with
  | [x, y] => D.nx ((ρ.set i (some x)).set j (some y)) S1
  | _ => False
theorem zs_par {i j : Nat} {x y : Str} {a b : Expr} {ta : ZA} {px py pt : Pos} {kt k2 pt2} (hN : X.N.Nodup) (ha : ZAs X B [a, b] ta) (hc : X.calm = true := by rfl) (hi : X.N[i]? = some x := by rfl) (hj : X.N[j]? = some y := by rfl) (hij : i ≠ j := by decide)
    (hx : X.env.scope.names.lookup x = some .local := by rfl) (hy : X.env.scope.names.lookup y = some .local := by rfl)
    (hw : swappedStores [.Tuple [.Name x px, .Name y py] kt pt] (.Tuple [a, b] k2 pt2) X.env = pure (some [x, y]) := by rfl)
    (hs : swapsWithSole [.Tuple [.Name x px, .Name y py] kt pt] (.Tuple [a, b] k2 pt2) pos.line X.env = pure false := by rfl) :
    ZS X B (.Assign [.Tuple [.Name x px, .Name y py] kt pt] (.Tuple [a, b] k2 pt2) pos) (zPar i j ta) := ⟨PS.imp (ps_par hc hN hi hj hij hx hy ha.pa hw hs) (by
  rintro E σ H ⟨ρ, S, D, hE, hS, l, w⟩
  refine ha.go hE hS w fun zs S1 vs H1 h1 st E1 R1 rz => ?_
  split at h1
  · obtain ⟨v, v', rfl, r1, r2⟩ := rzs2 rz
    exact ⟨v, v', rfl, l.nx _ _ _ _ h1 st ((E1.set i r1).set j r2) R1⟩
  · exact h1.elim)⟩
structure WhR (c : ZB) (tb : ZTS) (D : ZEnds) (ρ : ZEnv) (S : Sto) : Prop where
  ex : ∃ I : Nat → ZEnv → Sto → Prop, (∃ m, I m ρ S) ∧ ∀ m ρ S, I m ρ S → c ρ S fun b S1 =>
    zBr b (tb { D with nx := fun ρ' S' => ∃ m', m' < m ∧ I m' ρ' S', ct := fun ρ' S' => ∃ m', m' < m ∧ I m' ρ' S', bk := D.nx } ρ S1) (D.nx ρ S1)
def zWhile (c : ZB) (tb : ZTS) : ZTS := fun D ρ S => WhR c tb D ρ S
theorem zs_while {c : Expr} {body : List Stmt} {tc : ZB} {tb : ZTS} (hp : PassesOwn (model X.prog X.w) X.A X.env X.xe) (hc : ZTe X B c tc) (hb : ZSs X B body tb) : ZS X B (.While c body [] pos) (zWhile tc tb) := ⟨PS.imp (ps_while hp hc.pt hb.pss) (by
  rintro E σ H ⟨ρ, S, D, hE, hS, l, ⟨I, ⟨m, hm⟩, turn⟩⟩
  refine ⟨fun n σ' H' => ∃ ρ' S', RE X.K H' ρ' σ' ∧ RS X.K B S' H' ∧ Step S S' H H' ∧ I n ρ' S', ⟨m, ρ, S, hE, hS, .refl _ _, hm⟩, ?_⟩
  rintro n σ1 H1 ⟨ρ1, S1, E1, R1, st1, h1⟩
  refine hc.go E1 R1 (turn n ρ1 S1 h1) fun b S2 H2 h2 st2 E2 R2 => ?_
  cases b with
  | true =>
    refine iteT ⟨fun σ' H' => ∃ n', n' < n ∧ ∃ ρ' S', RE X.K H' ρ' σ' ∧ RS X.K B S' H' ∧ Step S S' H H' ∧ I n' ρ' S', fun σ' H' ⟨n', hn, q⟩ => ⟨n', hn, q⟩, ρ1, S2, { D with nx := fun ρ' S' => ∃ m', m' < n ∧ I m' ρ' S', ct := fun ρ' S' => ∃ m', m' < n ∧ I m' ρ' S', bk := D.nx }, E2, R2, ⟨fun ρ' S' σ' H' w' st' E' R' => ?_, fun z S' v H' w' st' rz R' => l.rt _ _ _ _ w' ((st1.trans st2).trans st') rz R', fun ρ' S' σ' H' w' st' E' R' => l.nx _ _ _ _ w' ((st1.trans st2).trans st') E' R', fun ρ' S' σ' H' w' st' E' R' => ?_⟩, h2⟩
    · obtain ⟨m', hm', w'⟩ := w'
      exact ⟨m', hm', ρ', S', E', R', (st1.trans st2).trans st', w'⟩
    · obtain ⟨m', hm', w'⟩ := w'
      exact ⟨m', hm', ρ', S', E', R', (st1.trans st2).trans st', w'⟩
  | false => exact iteF (l.nx _ _ _ _ h2 (st1.trans st2) E2 R2))⟩
abbrev ZTI := ZEnv → Sto → (List PyData → List (Addr × List PyData) → Sto → Prop) → Prop
def Need (S : Sto) (l : List (Addr × List PyData)) : Prop := ∀ p ∈ l, S p.1 = some (.lst p.2)
def ItOk (K : PySem.W.Frag) (H0 : Hp) (J : It) (xs : List PyData) (l : List (Addr × List PyData)) : Prop :=
  ∃ G : Hp → Prop, Walk J xs.length G (fun i H v H' => ∃ x, xs[i]? = some x ∧ Same H H' ∧ Fz K H' v x) ∧ ∀ H S, Le H0 H → RS0 K S H → Need S l → G H
def lowI (K : PySem.W.Frag) (B : Bs) (t : ZTI) : TI := fun σ H R => ∃ ρ S, RE K H ρ σ ∧ RS K B S H ∧ t ρ S fun xs l S' => ∀ J H', Step S S' H H' → RS K B S' H' → ItOk K H' J xs l → R J H'
structure ZI (X : Cx) (B : Bs) (tg e : Expr) (t : ZTI) : Prop where
  mono : ∀ {ρ S} {Q Q' : List PyData → List (Addr × List PyData) → Sto → Prop}, (∀ xs l S', Q xs l S' → Q' xs l S') → t ρ S Q → t ρ S Q'
  pi : PI X tg e (lowI X.K B t)
theorem PI.imp {tg e : Expr} {t t' : TI} (h : PI X tg e t) (q : ∀ σ H R, t' σ H R → t σ H R) : PI X tg e t' := ⟨fun pins s σ H R I w => h.run pins s σ H R I (q σ H R w)⟩
theorem pi_seq {tg l : Expr} {tl : TE} (hl : PE X l tl) : PI X tg l (fun σ H R => tl σ H fun x H1 => ∃ a, x = .ref a ∧ (((∃ xs, SqL X.K H1 a xs) ∧ R (Itl X.K a) H1) ∨ ((∃ xs, SqT X.K H1 a xs) ∧ R (Itt X.K a) H1))) := by
  refine ⟨fun pins s σ H R I h => ?_⟩
  refine thn (hl.run pins s σ H _ I h) fun v s1 ⟨x, H1, I1, r1, a, ex, q1⟩ => ?_
  subst ex
  cases r1
  rcases q1 with ⟨⟨xs, hq⟩, q⟩ | ⟨⟨xs, hq⟩, q⟩
  · obtain ⟨its, rv, p, hz⟩ := I1.list hq
    exact wpAny_pyIter_list p.isList (pi_one (tk := s1.toks) I1 _ (turn_list a _) ⟨_, Heap.get?_push_size _ rfl, rfl, rfl⟩ q)
  · obtain ⟨its, rv, p, hz⟩ := I1.tuple hq
    exact wpAny_pyIter_tuple (show s1.heap.IsTuple a its.toArray from p) (pi_one (tk := s1.toks) I1 _ (turn_tuple a _) ⟨_, Heap.get?_push_size _ rfl, rfl, rfl⟩ q)
def needZ (z : Z) (xs : List PyData) : List (Addr × List PyData) := match z with
  | .r a => [(a, xs)]
  | _ => []
def ziRow (te : ZT) : ZTI := fun ρ S Q => te ρ S fun z S1 => match rowZ S1 z with
  | some xs => Q xs (needZ z xs) S1
  | none => False
theorem itok_list {K : PySem.W.Frag} {H0 : Hp} {a : Addr} {xs : List PyData} {l : List (Addr × List PyData)} (h : ∀ H S, Le H0 H → RS0 K S H → Need S l → ∃ vs, SqL K H a vs ∧ FzAll K H vs xs) : ItOk K H0 (Itl K a) xs l := by
  refine ⟨fun H => ∃ vs, SqL K H a vs ∧ FzAll K H vs xs, ⟨fun i H hi ⟨vs, q, f⟩ => ?_, fun H ⟨vs, q, f⟩ => ⟨vs, q, by rw [f.length]; exact Nat.le_refl _⟩, fun i H x H' hi ⟨vs, q, f⟩ y => ?_⟩, h⟩
  · obtain ⟨v, e, _⟩ := f.get (List.getElem?_eq_getElem hi)
    exact ⟨vs, v, q, e⟩
  · obtain ⟨e1, y⟩ := y
    subst e1
    obtain ⟨d, e, fd⟩ := f.get' (y vs q)
    exact ⟨d, e, .refl _, fd⟩
theorem itok_tup {K : PySem.W.Frag} {H0 : Hp} {a : Addr} {xs : List PyData} {l : List (Addr × List PyData)} (h : ∀ H S, Le H0 H → RS0 K S H → Need S l → ∃ vs, SqT K H a vs ∧ FzAll K H vs xs) : ItOk K H0 (Itt K a) xs l := by
  refine ⟨fun H => ∃ vs, SqT K H a vs ∧ FzAll K H vs xs, ⟨fun i H hi ⟨vs, q, f⟩ => ?_, fun H ⟨vs, q, f⟩ => ⟨vs, q, by rw [f.length]; exact Nat.le_refl _⟩, fun i H x H' hi ⟨vs, q, f⟩ y => ?_⟩, h⟩
  · obtain ⟨v, e, _⟩ := f.get (List.getElem?_eq_getElem hi)
    exact ⟨vs, v, q, e⟩
  · obtain ⟨e1, y⟩ := y
    subst e1
    obtain ⟨d, e, fd⟩ := f.get' (y vs q)
    exact ⟨d, e, .refl _, fd⟩
theorem src_of {K : PySem.W.Frag} {S : Sto} {H : Hp} {z : Z} {v : V} {xs : List PyData} (hS : RS0 K S H) (rz : RZ K H v z) (e : rowZ S z = some xs) :
    ∃ a, v = .ref a ∧ ((∀ H' S', Le H H' → RS0 K S' H' → Need S' (needZ z xs) → ∃ vs, SqL K H' a vs ∧ FzAll K H' vs xs) ∨ (∀ H' S', Le H H' → RS0 K S' H' → Need S' (needZ z xs) → ∃ vs, SqT K H' a vs ∧ FzAll K H' vs xs)) := by
  cases rz with
  | d h =>
    cases h with
    | lst s f => simp [rowZ] at e; subst e; exact ⟨_, rfl, .inl fun H' S' l _ _ => ⟨_, (s.le l).l, f.le l⟩⟩
    | tup s f => simp [rowZ] at e; subst e; exact ⟨_, rfl, .inr fun H' S' l _ _ => ⟨_, sqT_le l s, f.le l⟩⟩
    | _ => simp [rowZ] at e
  | k s f => simp [rowZ] at e; subst e; exact ⟨_, rfl, .inl fun H' S' l _ _ => ⟨_, (s.le l).l, f.le l⟩⟩
  | r a =>
    refine ⟨a, rfl, .inl fun H' S' l r n => ?_⟩
    obtain ⟨vs, q, f⟩ := r a _ (n (a, xs) (by simp [needZ]))
    exact ⟨vs, .of q, f⟩
theorem need_now {S : Sto} {z : Z} {xs : List PyData} (e : rowZ S z = some xs) : Need S (needZ z xs) := by
  intro p hp
  cases z with
  | r a =>
    simp only [needZ, List.mem_singleton] at hp
    subst hp
    simp only [rowZ] at e
    cases q : S a with
    | none => rw [q] at e; cases e
    | some c =>
      cases c with
      | tab _ => rw [q] at e; cases e
      | own _ _ => rw [q] at e; cases e
      | tbl _ => rw [q] at e; cases e
      | lst ys =>
        rw [q] at e
        cases e
        rfl
  | d x => simp [needZ] at hp
  | k x => simp [needZ] at hp
theorem zi_row {tg : Expr} (he : ZE X B e te) : ZI X B tg e (ziRow te) := by
  refine ⟨fun {ρ S Q Q'} q w => he.mono (fun z S1 h1 => ?_) w, PI.imp (pi_seq he.pe) ?_⟩
  · split at h1
    · exact q _ _ _ h1
    · exact h1.elim
  · rintro σ H R ⟨ρ, S, hE, hS, w⟩
    refine he.go hE hS w fun z S1 v H1 h1 st E1 R1 rz => ?_
    split at h1
    · rename_i xs e1
      obtain ⟨a, rfl, q⟩ := src_of R1.1 rz e1
      rcases q with q | q
      · obtain ⟨vs, sq, _⟩ := q H1 S1 (.refl _) R1.1 (need_now e1)
        exact ⟨a, rfl, .inl ⟨⟨vs, sq⟩, h1 _ H1 st R1 (itok_list q)⟩⟩
      · obtain ⟨vs, sq, _⟩ := q H1 S1 (.refl _) R1.1 (need_now e1)
        exact ⟨a, rfl, .inr ⟨⟨vs, sq⟩, h1 _ H1 st R1 (itok_tup q)⟩⟩
    · exact h1.elim
def rangeD (lo : Int) (n : Nat) : List PyData := (List.range n).map fun (i : Nat) => PyData.int (lo + (i : Int))
theorem rangeD_length (lo : Int) (n : Nat) : (rangeD lo n).length = n := by simp [rangeD]
theorem rangeD_get {lo : Int} {n i : Nat} (h : i < n) : (rangeD lo n)[i]? = some (.int (lo + (i : Int))) := by simp [rangeD, h]
theorem itok_range {K : PySem.W.Frag} {H0 : Hp} {lo : Int} {n : Nat} : ItOk K H0 (Itr lo n) (rangeD lo n) [] := by
  refine ⟨fun _ => True, ?_, fun _ _ _ _ _ => True.intro⟩
  rw [rangeD_length]
  exact walk_range.mono (fun _ _ => True.intro) fun i H x H' hi _ y => ⟨_, rangeD_get hi, by rw [y.1]; exact .refl _, by rw [y.2]; exact .int _⟩
def In62 (i : Int) : Prop := -(2 ^ 62) ≤ i ∧ i < 2 ^ 62
def ziRange1 (t : ZA) : ZTI := fun ρ S Q => t ρ S fun zs S1 => match zs with
  | [.d (.int j)] => In62 j ∧ Q (rangeD 0 j.toNat) [] S1
  | _ => False
theorem zi_range1 {a tg : Expr} {ta : ZA} {p pos : Pos} (hg : Gl X "range") (hm : X.mg "range" = none) (ha : ZAs X B [a] ta) (hs : starEach [a] X.env = [(false, eval a X.env)] := by rfl) : ZI X B tg (.Call (.Name "range" p) [a] [] pos) (ziRange1 ta) := by
  refine ⟨fun {ρ S Q Q'} q w => ha.mono (fun z S1 h1 => ?_) w, PI.imp (pi_range1 hg hm ha.pa hs) ?_⟩
  · split at h1
    · exact ⟨h1.1, q _ _ _ h1.2⟩
    · exact h1.elim
  · rintro σ H R ⟨ρ, S, hE, hS, w⟩
    refine ha.go hE hS w fun zs S1 vs H1 h1 st E1 R1 rz => ?_
    split at h1
    · obtain ⟨v, rfl, hz⟩ := rzs1 rz
      cases hz with | d hz => cases hz; exact ⟨_, rfl, h1.1.1, h1.1.2, h1.2 _ H1 st R1 itok_range⟩
    · exact h1.elim
structure ForR (g : ZG) (tb : ZTS) (D : ZEnds) (ρ : ZEnv) (xs : List PyData) (l : List (Addr × List PyData)) (S1 : Sto) : Prop where
  ex : ∃ I : Nat → ZEnv → Sto → Prop, I 0 ρ S1 ∧ (∀ i ρ' S', i ≤ xs.length → I i ρ' S' → Need S' l) ∧
    (∀ (i : Nat) (x : PyData) ρ' S', xs[i]? = some x → I i ρ' S' → g (.d x) ρ' S' fun ρ2 S2 => tb { D with nx := I (i + 1), ct := I (i + 1), bk := D.nx } ρ2 S2) ∧ ∀ ρ' S', I xs.length ρ' S' → D.nx ρ' S'
def zFor (ti : ZTI) (g : ZG) (tb : ZTS) : ZTS := fun D ρ S => ti ρ S fun xs l S1 => ForR g tb D ρ xs l S1
theorem zs_for {tg iter : Expr} {body : List Stmt} {ti : ZTI} {g : ZG} {tb : ZTS} {own : List Nat} (hp : PassesOwn (model X.prog X.w) X.A X.env X.xe) (hi : ZI X B tg iter ti) (hg : ZGt X B tg own g) (hb : ZSs X B body tb) (hc : X.calm = true := by rfl)
    (hs : ∀ x, foldedSetIterable iter X.env x = pure x := by intro _; rfl) : ZS X B (.For tg iter body [] pos) (zFor ti g tb) := ⟨PS.imp (ps_for hp hc hi.pi hg.pg hb.pss hs) (by
  rintro E σ H ⟨ρ, S, D, hE, hS, l, w⟩
  refine ⟨ρ, S, hE, hS, hi.mono (fun xs nd S1 h1 J H1 st1 R1 ok => ?_) w⟩
  obtain ⟨⟨I, i0, iN, turn, fin⟩⟩ := h1
  obtain ⟨G, W, hG⟩ := ok
  have E1 := hE.le (st1.le hS.1)
  refine for_it W (fun i σ' H' => ∃ ρ' S', RE X.K H' ρ' σ' ∧ RS X.K B S' H' ∧ Step S1 S' H1 H' ∧ I i ρ' S') ⟨ρ, S1, E1, R1, .refl _ _, i0⟩ ?_ ?_ ?_
  · rintro i σ' H' hi' ⟨ρ', S', E', R', st', h'⟩
    exact hG H' S' (st'.le R1.1) R'.1 (iN i ρ' S' hi' h')
  · rintro i x σ' H' H2 hlt ⟨ρ', S', E', R', st', h'⟩ ⟨d, ed, sm, fd⟩
    have st2 := step_same (S := S') sm
    refine ⟨.d d, ρ', S', .d fd, E'.le (.same sm), R'.step (R'.1.same sm) st2, hg.mono (fun ρ3 S3 h3 σ3 H3 st3 E3 R3 _ => ?_) (turn i d ρ' S' ed h')⟩
    have stA := (st'.trans st2).trans st3
    exact ⟨ρ3, S3, { D with nx := I (i + 1), ct := I (i + 1), bk := D.nx }, E3, R3, ⟨fun ρ4 S4 σ4 H4 w4 st4 E4 R4 => ⟨ρ4, S4, E4, R4, stA.trans st4, w4⟩, fun z S4 v H4 w4 st4 rz R4 => l.rt _ _ _ _ w4 (st1.trans (stA.trans st4)) rz R4, fun ρ4 S4 σ4 H4 w4 st4 E4 R4 => l.nx _ _ _ _ w4 (st1.trans (stA.trans st4)) E4 R4, fun ρ4 S4 σ4 H4 w4 st4 E4 R4 => ⟨ρ4, S4, E4, R4, stA.trans st4, w4⟩⟩, h3⟩
  · rintro σ' H' ⟨ρ', S', E', R', st', h'⟩
    exact l.nx _ _ _ _ (fin ρ' S' h') (st1.trans st') E' R')⟩
theorem Step.poke {S S' : Sto} {H H' : Hp} {L : Addr} {o : HO} (st : Step S S' H H') (h : ∀ u, H L = some u → S L = none → False) : Step S S' H (upd H' L o) := fun b u e n => by
  have ne : b ≠ L := fun z => by subst z; exact h u e n
  exact ⟨by rw [upd_ne ne]; exact (st b u e n).1, (st b u e n).2⟩
theorem RS.out {K : PySem.W.Frag} {B : Bs} {S : Sto} {H : Hp} {L : Addr} (r : RS K B S H) (n : H L = none) : ∀ u, B.H0 L = some u → B.S0 L = none → False := fun u e q => by
  have := (r.2 L u e q).1
  rw [n] at this
  cases this
theorem RS.poke {K : PySem.W.Frag} {B : Bs} {S : Sto} {H : Hp} {L : Addr} {o : HO} {us : List V} (r : RS K B S H) (n : S L = none) (e : H L = some (.lst us)) (h : ∀ u, B.H0 L = some u → B.S0 L = none → False) : RS K B S (upd H L o) := by
  refine ⟨fun a c ea => ?_, r.2.poke h⟩
  have ne : a ≠ L := fun z => by subst z; rw [n] at ea; cases ea
  have ls : Ln H (upd H L o) := ln_set e
  refine (r.1 a c ea).all ea ls (fun b xs hb q => ?_) fun _ _ q => q
  rw [upd_ne fun z => by subst z; exact hb n]; exact q
structure ZTs (X : Cx) (B : Bs) (ifs : List Expr) (t : ZB) : Prop where
  mono : ∀ {ρ S} {Q Q' : Bool → Sto → Prop}, (∀ z S', Q z S' → Q' z S') → t ρ S Q → t ρ S Q'
  pts : PTs X ifs (lowB X.K B t)
theorem PTs.imp {e : List Expr} {t t' : TT} (h : PTs X e t) (q : ∀ σ H Q, t' σ H Q → t σ H Q) : PTs X e t' := ⟨fun pins s σ H Q I w => h.run pins s σ H Q I (q σ H Q w)⟩
def zYes : ZB := fun _ S Q => Q true S
theorem zts_nil : ZTs X B [] zYes := by
  refine ⟨fun q w => q _ _ w, PTs.imp pts_nil ?_⟩
  rintro σ H Q ⟨ρ, S, hE, hS, w⟩
  exact w H (.refl _ _) hS
theorem zts_one {c : Expr} {t : ZB} (h : ZTe X B c t) : ZTs X B [c] t := ⟨h.mono, pts_one h.pt⟩
structure LcR (g : ZG) (tt : ZB) (te : ZT) (vs : List Nat) (ρ : ZEnv) (Q : ZQ) (xs : List PyData) (l : List (Addr × List PyData)) (S1 : Sto) : Prop where
  ex : ∃ I : Nat → List PyData → Sto → Prop, I 0 [] S1 ∧ (∀ i acc S', i ≤ xs.length → I i acc S' → Need S' l) ∧
    (∀ (i : Nat) (x : PyData) acc S', xs[i]? = some x → I i acc S' → g (.d x) (zwipe ρ vs) S' fun ρ2 S2 => tt ρ2 S2 fun b S3 =>
      zBr b (te ρ2 S3 fun y S4 => match y with
        | .d d => acc.length < sizeLine ∧ I (i + 1) (acc ++ [d]) S4
        | _ => False) (I (i + 1) acc S3)) ∧ ∀ acc S', I xs.length acc S' → Q (zl acc) S'
def zLc (ti : ZTI) (g : ZG) (tt : ZB) (te : ZT) (vs : List Nat) : ZT := fun ρ S Q => ti ρ S fun xs l S1 => LcR g tt te vs ρ Q xs l S1
abbrev Blk (X : Cx) (scope : Scope) (P : Cx → Prop) : Prop := ∀ (s : Shared) (H : Hp) (C : Addr) (cl : List (Str × Addr)) (fp : List Addr), P (X.blk s H scope (compEnvC scope cl C X.env) fp)
theorem low_lc {tg iter : Expr} {own : List Nat} {ti : ZTI} {g : ZG} {tt : ZB} {te : ZT} {vs : List Nat} {K : PySem.W.Frag} (hK : K = X.K) (hi : ZI X B tg iter ti)
    (gm : ∀ {z ρ S} {Q Q' : ZEnv → Sto → Prop}, (∀ ρ' S', Q ρ' S' → Q' ρ' S') → g z ρ S Q → g z ρ S Q')
    (tm : ∀ {ρ S} {Q Q' : Bool → Sto → Prop}, (∀ z S', Q z S' → Q' z S') → tt ρ S Q → tt ρ S Q')
    (em : ∀ {ρ S} {Q Q' : ZQ}, (∀ z S', Q z S' → Q' z S') → te ρ S Q → te ρ S Q') (hv : ∀ i ∈ own, i ∈ vs) :
    ∀ σ H Q (Qf : VK), (∀ a us H', H' a = some (.lst us) → (∀ o, Q (.ref a) (upd H' a (.frz o (.lst us)))) → Qf (.ref a) H') → low K B (zLc ti g tt te vs) σ H Q → tLc (lowI K B ti) (lowG K B own g) (lowB K B tt) (low K B te) vs σ H Qf := by
  subst hK
  rintro σ H Q Qf hQf ⟨ρ, S, hE, hS, w⟩
  refine ⟨ρ, S, hE, hS, hi.mono (fun xs nd S1 h1 J H1 st1 R1 ok L nL => ?_) w⟩
  obtain ⟨⟨I, i0, iN, turn, fin⟩⟩ := h1
  obtain ⟨G, W, hG⟩ := ok
  have E1 := hE.le (st1.le hS.1)
  have sm0 : ∀ o, Same H1 (upd H1 L o) := fun o => same_fresh nL
  refine lc_it W (fun i H' => ∃ acc us S', RE X.K H' ρ σ ∧ RS X.K B S' H' ∧ Step S1 S' H1 H' ∧ S' L = none ∧ H' L = some (.lst us) ∧ FzAll X.K H' us acc ∧ I i acc S') ⟨[], [], S1, E1.le (.same (sm0 _)), R1.step (R1.1.same (sm0 _)) (step_same (sm0 _)), step_same (sm0 _), R1.1.fresh nL, upd_same, .nil, i0⟩ ?_ ?_ ?_
  · rintro i H' hi' ⟨acc, us, S', E', R', st', nS, hL, f, h'⟩
    exact hG H' S' (st'.le R1.1) R'.1 (iN i acc S' hi' h')
  · rintro i x H' H2 hlt ⟨acc, us, S', E', R', st', nS, hL, f, h'⟩ ⟨d, ed, sm, fd⟩
    have st2 := step_same (S := S') sm
    have R2 := R'.step (R'.1.same sm) st2
    have E2 := (E'.le (.same sm)).wipe vs
    refine ⟨.d d, zwipe ρ vs, S', .d fd, E2, R2, gm (fun ρ3 S3 h3 σ3 H3 st3 E3 R3 ow => ?_) (turn i d acc S' ed h')⟩
    refine ⟨(ow vs hv).trans wipe_wipe, ρ3, S3, E3, R3, tm (fun b S4 h4 H4 st4 R4 => ?_) h3⟩
    have E0 : ∀ {H5 : Hp}, Le H' H5 → RE X.K H5 ρ σ := fun le => E'.le le
    obtain ⟨hL2, nS2⟩ := ((st2.trans st3).trans st4) L _ hL nS
    have le4 := ((st2.trans st3).trans st4).le R'.1
    cases b with
    | true =>
      refine iteT ⟨ρ3, S4, E3.le (st4.le R3.1), R4, em (fun y S5 h5 v5 H5 st5 rz5 R5 => ?_) h4⟩
      split at h5
      · rename_i d5
        cases rz5 with
        | d rz5 =>
          obtain ⟨hL3, nS3⟩ := st5 L _ hL2 nS2
          have le5 := le4.trans (st5.le R4.1)
          have f5 := f.le le5
          have ls : Le H5 (upd H5 L (.lst (us ++ [v5]))) := le_set hL3
          have stA := (((st'.trans st2).trans st3).trans st4).trans st5
          exact ⟨us, hL3, by rw [f.length]; exact h5.1, acc ++ [d5], us ++ [v5], S5, E0 (le5.trans ls), R5.poke nS3 hL3 (R1.out nL), stA.poke (fun _ e => by rw [nL] at e; cases e), nS3, upd_same, (f5.append (.one rz5)).le ls, h5.2⟩
      · exact h5.elim
    | false => exact iteF ⟨acc, us, S4, E0 le4, R4, st'.trans ((st2.trans st3).trans st4), nS2, hL2, f.le le4, h4⟩
  · rintro H' ⟨acc, us, S', E', R', st', nS, hL, f, h'⟩
    refine hQf L us H' hL fun o => ?_
    have ls : Le H' (upd H' L (.frz o (.lst us))) := ⟨fun b zs e => by rw [upd_ne (ne_of e hL fun z => nomatch z)]; exact e, fun b o u e => by rw [upd_ne (ne_of e hL fun z => nomatch z)]; exact e⟩
    have f' := f.le ls
    exact fin acc S' h' _ _ (st1.trans (st'.poke fun _ e => by rw [nL] at e; cases e)) (.d (.lst ⟨o, upd_same⟩ f')) (R'.poke nS hL (R1.out nL))
variable {tg iter elt : Expr} {ifs : List Expr} {scope : Scope} {own : List (Str × Nat)} {o : List Nat} {ti : ZTI} {g : ZG} {tt : ZB} {te : ZT}
theorem ze_lc (hN : X.N.Nodup) (hi : ZI X B tg iter ti) (ok : BlkOk X.N X.env.scope scope own) (hg : Blk X scope fun X => ZGt X B tg o g) (ht : Blk X scope fun X => ZTs X B ifs tt) (he : Blk X scope fun X => ZE X B elt te)
    (hc : X.calm = true := by rfl) (hv : ∀ i ∈ o, i ∈ own.map (·.2) := by decide) (hs : ∀ x, foldedSetIterable iter X.env x = pure x := by intro _; rfl) : ZE X B (.ListComp elt [⟨tg, iter, ifs, 0⟩] scope pos) (zLc ti g tt te (own.map (·.2))) := by
  have gm : ∀ {z ρ S} {Q Q' : ZEnv → Sto → Prop}, (∀ ρ' S', Q ρ' S' → Q' ρ' S') → g z ρ S Q → g z ρ S Q' := (hg X.s_0 X.H_0 0 [] []).mono
  have tm : ∀ {ρ S} {Q Q' : Bool → Sto → Prop}, (∀ z S', Q z S' → Q' z S') → tt ρ S Q → tt ρ S Q' := (ht X.s_0 X.H_0 0 [] []).mono
  have em : ∀ {ρ S} {Q Q' : ZQ}, (∀ z S', Q z S' → Q' z S') → te ρ S Q → te ρ S Q' := (he X.s_0 X.H_0 0 [] []).mono
  refine ⟨fun {ρ S Q Q'} q w => hi.mono (fun xs l S1 ⟨⟨I, a, b, c, d⟩⟩ => ⟨⟨I, a, b, c, fun acc S' h => q _ _ (d acc S' h)⟩⟩) w, ?_⟩
  exact PE.imp (pe_rest (pe_lc hc hN hi.pi ok (fun s H C cl fp => (hg s H C cl fp).pg) (fun s H C cl fp => (ht s H C cl fp).pts) (fun s H C cl fp => (he s H C cl fp).pe) hs)) fun σ H Q w => low_lc (g := g) (tt := tt) (te := te) rfl hi gm tm em hv σ H Q _ (fun a us H' e q => ⟨a, us, rfl, e, q⟩) w
end
end ZL
namespace ZL
open PySem PySem.Spec PyProof.Rows L2
structure FnG (P : Program) (w : World) (K : PySem.W.Frag) (mg : Str → Option Value) (base : Heap) (k : Nat) (f : Addr) (fd : FuncData) (ps : List Str) (sp : Sp) : Prop where
  len : ∀ vs H Q E, sp vs H Q E → vs.length = ps.length
  run : ∀ (A : Around) (outer : List PySem.Env) (s : Shared) (H : Hp) (args : Args) (us : List Value) (vs : List V) (Q : VK) (E : XK), A.guards = some [] → Room k A → Env0 P w K mg base A outer s H → BindsTo s fd args (ps.zip us) → Vals vs us → sp vs H Q E →
    codeAny (model P w) A (.call (.ref f) args) (CR (L2N.CX P w) outer P w H s Q E) s
theorem FnG.mono {P : Program} {w : World} {K : PySem.W.Frag} {mg : Str → Option Value} {base : Heap} {j k : Nat} {f : Addr} {fd : FuncData} {ps : List Str} {sp : Sp} (F : FnG P w K mg base j f fd ps sp) (h : j ≤ k) : FnG P w K mg base k f fd ps sp :=
  ⟨F.len, fun A outer s H args us vs Q E g hr => F.run A outer s H args us vs Q E g (hr.mono h)⟩
theorem FnG.imp {P : Program} {w : World} {K : PySem.W.Frag} {mg : Str → Option Value} {base : Heap} {k : Nat} {f : Addr} {fd : FuncData} {ps : List Str} {sp sp' : Sp} (F : FnG P w K mg base k f fd ps sp) (h : ∀ vs H Q E, sp' vs H Q E → sp vs H Q E) : FnG P w K mg base k f fd ps sp' :=
  ⟨fun vs H Q E q => F.len vs H Q E (h _ _ _ _ q), fun A outer s H args us vs Q E g hr e b r q => F.run A outer s H args us vs Q E g hr e b r (h _ _ _ _ q)⟩
section
variable {P : Program} {w : World} {K : PySem.W.Frag} {mg : Str → Option Value} {base : Heap} {k : Nat} {f : Addr} {x qual : Str} {N ps : List Str} {sp : Sp} {params : Arguments} {body : List Stmt} {scope : Scope}
theorem fnG_of {dV kV doc pm cdv ct oc : Value} {an od : Option Addr} {osl : Array (Option Value)} (lk : K.lookup f = some ⟨oc, od, .func (PySem.W.fnOf x qual params body scope dV kV doc pm an cdv ct), osl⟩) (hcd : PySem.W.codeIn K cdv qual = true) (S : FnScope N ps scope)
    (len : ∀ vs H Q E, sp vs H Q E → vs.length = ps.length)
    (hbody : ∀ (cdv' : Value), cdv = cdv' → ∀ (A : Around) (outer : List PySem.Env) (s : Shared) (H : Hp) (vs : List V) (Q : VK) (E : XK), A.guards = some [] → Room k (A.deeper (envOfC qual scope s.heap.objs.size f cdv')) → sp vs H Q E →
      ∃ t, PSs (cxOf (L2N.CX P w) P w K mg base N qual scope f cdv' A outer s H E) body t ∧ t { nx := fun _ H' => Q .non H', rt := Q } (start N vs) H) :
    FnG P w K mg base (k + 1) f (PySem.W.fnOf x qual params body scope dV kV doc pm an cdv ct) ps sp := by
  constructor
  · exact len
  · intro A outer s H args us vs Q E hG room ground bound rv promise
    have nargs : vs.length = ps.length := len _ _ _ _ promise
    have inHeap : K.In s.heap := ground.mod.kin.keeps fun b o e => And.left (ground.bs b o e)
    have noLim : s.heap.NoLimit := ground.mod.nolimit.keeps fun b o e => And.left (ground.bs b o e)
    have kinds : ∀ y ∈ ps.zip us, scope.names.lookup y.1 = some .local ∨ (scope.names.lookup y.1 = some .cell ∧ ((cellsFrom (s.heap.objs.size + 1) scope.names []).lookup y.1).isSome = true) := by
      rintro ⟨n, v⟩ hy
      cases S.par n (List.of_mem_zip hy).1 with
      | inl q => exact .inl q
      | inr q => exact .inr ⟨q, PySem.W.cellsFrom_some _ _ _ (.inl q)⟩
    refine codeAny_call_function room.depth (inHeap f _ lk) rfl S.co S.gen rfl (PySem.W.codeRec_of inHeap hcd) (bound _ A.in1 _ _ ?_)
    refine wpAny_newFunctionEnv_cells S.kind kinds ?_
    intro env he s1 entered
    subst he
    refine ⟨noLim.keeps entered.toInCall.keep, codeAny_func ?_⟩
    obtain ⟨t, ht, hq⟩ := hbody cdv rfl A outer s H vs Q E hG (room.deeper _) promise
    have begun := inv_start (CX := L2N.CX P w) (E := E) (qual := qual) (f := f) (cd := cdv) S room.hd ground nargs rv entered
    refine wpAny_mono (ht.run [] s1 (start N vs) H _ begun hq) ?_ (fun _ _ left => left)
    intro fl s' ended
    cases fl with
    | ret u => obtain ⟨v, σ', H', J, r, q⟩ := ended; exact ⟨v, H', J.os, J.bare, J.base, J.hok, r, q⟩
    | next => obtain ⟨σ', H', J, q⟩ := ended; exact ⟨.non, H', J.os, J.bare, J.base, J.hok, rfl, q⟩
    | brk => obtain ⟨_, _, _, q⟩ := ended; exact q.elim
    | cont => obtain ⟨_, _, _, q⟩ := ended; exact q.elim
end
structure ZX where
  cls : Addr
  fs : List (Str × PyData)
inductive RX (K : PySem.W.Frag) (H : Hp) : Value → Option Addr → ZX → Prop
  | plain (C : Addr) : RX K H (.ref C) none ⟨C, []⟩
abbrev ZSp := List Z → Sto → ZQ → (ZX → Sto → Prop) → Prop
def lowP (K : PySem.W.Frag) (zsp : ZSp) : Sp := fun vs H Q E => ∃ zs S, RZs K H vs zs ∧ RS0 K S H ∧ zsp zs S (fun z S' => ∀ v H', Step S S' H H' → RZ K H' v z → RS0 K S' H' → Q v H') fun x S' => ∀ c d H', Step S S' H H' → RX K H' c d x → RS0 K S' H' → E c d H'
structure ZFn (P : Program) (w : World) (K : PySem.W.Frag) (mg : Str → Option Value) (base : Heap) (k : Nat) (f : Addr) (fd : FuncData) (ps : List Str) (zsp : ZSp) : Prop where
  mono : ∀ {zs S Q Q'} {E E' : ZX → Sto → Prop}, (∀ z S', Q z S' → Q' z S') → (∀ x S', E x S' → E' x S') → zsp zs S Q E → zsp zs S Q' E'
  fn : FnG P w K mg base k f fd ps (lowP K zsp)
abbrev ZXW := ZEnv → ZX → Sto → Prop
def lowW (K : PySem.W.Frag) (B : Bs) (EZ : ZXW) : WX := fun c d σ H => ∃ ρ x S, RE K H ρ σ ∧ RX K H c d x ∧ RS K B S H ∧ EZ ρ x S
def Tk (X : Cx) (B : Bs) (EZ : ZXW) : Prop := L2N.Takes X (lowW X.K B EZ)
theorem takes0N {X : Cx} : L2N.Takes X (fun _ _ _ _ => False) := fun _ _ x => by
  obtain ⟨_, _, _, _, _, _, _, _, _, _, _, _, _, _, _, _, z⟩ := x
  exact z.elim
theorem tk0 {X : Cx} {B : Bs} : Tk X B fun _ _ _ => False := takes0N.imp fun _ _ _ _ ⟨_, _, _, _, _, _, h⟩ => h
def Sub (S S' : Sto) : Prop := S' = S
theorem Sub.refl (S : Sto) : Sub S S := rfl
theorem Sub.rs {K : PySem.W.Frag} {S S' : Sto} {H : Hp} (h : Sub S S') (r : RS0 K S' H) : RS0 K S H := by cases h; exact r
theorem Sub.step {S0 S S' : Sto} {H0 H : Hp} (h : Sub S S') (r : Step S0 S' H0 H) : Step S0 S H0 H := by cases h; exact r
section
variable {P : Program} {w : World} {K : PySem.W.Frag} {mg : Str → Option Value} {base : Heap} {k : Nat} {f : Addr} {fd : FuncData} {x qual : Str} {st : Stmt} {N ps : List Str} {zsp : ZSp}
theorem zfn_core {params : Arguments} {body : List Stmt} {scope : Scope} {dV kV doc pm cdv ct oc : Value} {an od : Option Addr} {osl : Array (Option Value)} (lk : K.lookup f = some ⟨oc, od, .func (PySem.W.fnOf x qual params body scope dV kV doc pm an cdv ct), osl⟩) (hcd : PySem.W.codeIn K cdv qual = true) (S : FnScope N ps scope)
    (len : ∀ zs S Q E, zsp zs S Q E → zs.length = ps.length) (mono : ∀ {zs S Q Q'} {E E' : ZX → Sto → Prop}, (∀ z S', Q z S' → Q' z S') → (∀ x S', E x S' → E' x S') → zsp zs S Q E → zsp zs S Q' E')
    (hbody : ∀ (cdv' : Value), cdv = cdv' → ∀ (A : Around) (outer : List PySem.Env) (s : Shared) (H : Hp) (E : XK) (zs : List Z) (S : Sto) (Qz : ZQ) (Ez : ZX → Sto → Prop), (A.deeper (envOfC qual scope s.heap.objs.size f cdv')).guards = some [] → Room k (A.deeper (envOfC qual scope s.heap.objs.size f cdv')) →
      Tk (cxOf (L2N.CX P w) P w K mg base N qual scope f cdv' A outer s H E) ⟨S, H⟩ (fun _ x S' => ∃ S2, Sub S2 S' ∧ Ez x S2) → zsp zs S Qz Ez →
      ∃ t, ZSs (cxOf (L2N.CX P w) P w K mg base N qual scope f cdv' A outer s H E) ⟨S, H⟩ body t ∧ t { nx := fun _ S' => ∃ S2, Sub S2 S' ∧ Qz (.d .none) S2, rt := fun z S' => ∃ S2, Sub S2 S' ∧ Qz z S2 } (zstart N zs) S) :
    ZFn P w K mg base (k + 1) f (PySem.W.fnOf x qual params body scope dV kV doc pm an cdv ct) ps zsp := by
  refine ⟨mono, fnG_of lk hcd S (fun vs H Q E h => ?_) fun cdv ecd A outer s H vs Q E hG hr h => ?_⟩
  · obtain ⟨zs, S, r, _, h⟩ := h
    rw [r.length]
    exact len zs S _ _ h
  · obtain ⟨zs, S, r, rs, h⟩ := h
    have e0 : L2N.Takes (cxOf (L2N.CX P w) P w K mg base N qual scope f cdv A outer s H E) (fun c d _ H' => E c d H') := L2N.takes_of rfl rfl rfl rfl
    have e1 : ∃ (Qz : ZQ) (Ez : ZX → Sto → Prop), (Qz = fun z S' => ∀ v H', Step S S' H H' → RZ K H' v z → RS0 K S' H' → Q v H') ∧ (Ez = fun x S' => ∀ c d H', Step S S' H H' → RX K H' c d x → RS0 K S' H' → E c d H') := ⟨_, _, rfl, rfl⟩
    obtain ⟨Qz, Ez, eQ, eE⟩ := e1
    obtain ⟨t, zt, q⟩ := hbody cdv ecd A outer s H E zs S Qz Ez hG hr (e0.imp fun c d σ H' hw => by
      obtain ⟨ρ, x, S', _, rx, rS, S2, sb, hE⟩ := hw
      subst eE
      exact hE c d H' (sb.step rS.2) rx (sb.rs rS.1)) (by rw [eQ, eE]; exact h)
    refine ⟨_, zt.pss, zstart N zs, S, { nx := fun _ S' => ∃ S2, Sub S2 S' ∧ Qz (.d .none) S2, rt := fun z S' => ∃ S2, Sub S2 S' ∧ Qz z S2 }, RE.start r, ⟨rs, .refl _ _⟩, ⟨fun ρ' S' σ' H' hq st _ rS => ?_, fun z S' v H' hq st rz rS => ?_, fun _ _ _ _ hq _ _ _ => hq.elim, fun _ _ _ _ hq _ _ _ => hq.elim⟩, q⟩
    · obtain ⟨S2, sb, hq⟩ := hq
      subst eQ
      exact hq .non H' (sb.step st) (.d .non) (sb.rs rS.1)
    · obtain ⟨S2, sb, hq⟩ := hq
      subst eQ
      exact hq v H' (sb.step st) rz (sb.rs rS.1)
theorem zfnD {params : Arguments} {body : List Stmt} {scope : Scope} {dvs : List V} {kws : List (Str × V)} (F : FunD K x qual params body scope dvs kws f fd) (S : FnScope N ps scope) (len : ∀ zs S Q E, zsp zs S Q E → zs.length = ps.length) (mono : ∀ {zs S Q Q'} {E E' : ZX → Sto → Prop}, (∀ z S', Q z S' → Q' z S') → (∀ x S', E x S' → E' x S') → zsp zs S Q E → zsp zs S Q' E')
    (hbody : ∀ (cdv : Value), fd.code = cdv → ∀ (A : Around) (outer : List PySem.Env) (s : Shared) (H : Hp) (E : XK) (zs : List Z) (S : Sto) (Qz : ZQ) (Ez : ZX → Sto → Prop), (A.deeper (envOfC qual scope s.heap.objs.size f cdv)).guards = some [] → Room k (A.deeper (envOfC qual scope s.heap.objs.size f cdv)) →
      Tk (cxOf (L2N.CX P w) P w K mg base N qual scope f cdv A outer s H E) ⟨S, H⟩ (fun _ x S' => ∃ S2, Sub S2 S' ∧ Ez x S2) → zsp zs S Qz Ez →
      ∃ t, ZSs (cxOf (L2N.CX P w) P w K mg base N qual scope f cdv A outer s H E) ⟨S, H⟩ body t ∧ t { nx := fun _ S' => ∃ S2, Sub S2 S' ∧ Qz (.d .none) S2, rt := fun z S' => ∃ S2, Sub S2 S' ∧ Qz z S2 } (zstart N zs) S) :
    ZFn P w K mg base (k + 1) f fd ps zsp := by
  obtain ⟨oc, od, dV, kV, doc, pm, an, cdv, ct, osl, rfl, lk, hcd, _, _⟩ := F.ex
  exact zfn_core lk hcd S len mono hbody
end
section
variable {X : Cx} {B : Bs} {k n : Nat} {f : Addr} {fd : FuncData} {ps ks : List Str} {zsp : ZSp} {EZ : ZXW} {x : Str} {p pos : Pos} {e : Expr} {es : List Expr} {kws : List Keyword} {t tk : ZA}
theorem run_fnG {sp : Sp} {pins : List (Addr × Obj)} {σ : L2.St} {H : Hp} {s : Shared} {Q : VK} {E : XK} {args : Args} {us : List Value} {vs : List V} (F : FnG X.prog X.w X.K X.mg X.base k f fd ps sp) (hG : X.A.guards = some []) (hr : Room k X.A) (hb : BindsTo s fd args (ps.zip us)) (hx : PassesAt (L2N.CX X.prog X.w) X σ E)
    (I : Inv X pins σ H s) (r : Vals vs us) (h : sp vs H Q E) : codeAny (model X.prog X.w) X.A (.call (.ref f) args) (fun r s' => match r with | .ok (.ret u) => EP X pins σ Q u s' | .ok _ => False | .error e => X.xe e s') s := by
  refine codeAny_mono (F.run X.A X.stack s H args us vs Q E hG hr I.env0 hb r h) ?_
  intro r s' ended
  cases r with
  | error e => exact hx pins H s e s' I ended
  | ok fl =>
    cases fl with
    | ret u => exact I.after ended
    | next => exact ended.elim
    | brk => exact ended.elim
    | cont => exact ended.elim
def zCallF (zsp : ZSp) (EZ : ZXW) (t : ZA) : ZT := fun ρ S Q => t ρ S fun zs S1 => zsp zs S1 Q (EZ ρ)
theorem low_promise {ρ : ZEnv} {σ : L2.St} {S S1 : Sto} {H H1 : Hp} {zs : List Z} {vs : List V} {Q : VK} {Qz : ZQ} (mono : ∀ {zs S Q Q'} {E E' : ZX → Sto → Prop}, (∀ z S', Q z S' → Q' z S') → (∀ x S', E x S' → E' x S') → zsp zs S Q E → zsp zs S Q' E')
    (q : ∀ z S' v H', Qz z S' → Step S S' H H' → RZ X.K H' v z → RS X.K B S' H' → Q v H') (st : Step S S1 H H1) (E1 : RE X.K H1 ρ σ) (R1 : RS X.K B S1 H1) (r : RZs X.K H1 vs zs) (w : zsp zs S1 Qz (EZ ρ)) : lowP X.K zsp vs H1 Q (WE (lowW X.K B EZ) σ) :=
  ⟨zs, S1, r, R1.1, mono (fun z S' h v H' st' rz rs => q z S' v H' h (st.trans st') rz (R1.step rs st')) (fun x S' h c d H' st' rx rs => ⟨ρ, x, S', E1.le (st'.le R1.1), rx, R1.step rs st', h⟩) w⟩
theorem ze_call (F : ZFn X.prog X.w X.K X.mg X.base k f fd ps zsp) (hG : X.A.guards = some []) (hr : Room k X.A) (hm : X.mg x = some (.ref f)) (hk : PySem.W.keepIn X.K (.ref f) = true) (hb : Binds X.K fd ps []) (hx : Tk X B EZ)
    (ha : ZAs X B (e :: es) t) (hg : Gl X x := by rfl) (hdb : (x == ("__debug__" : Str)) = false := by decide) (he : starEach (e :: es) X.env = (false, eval e X.env) :: starEach es X.env := by rfl) (hpl : (backTo pos (starEach es X.env)).any (·.1) = false := by rfl) :
    ZE X B (.Call (.Name x p) (e :: es) [] pos) (zCallF zsp EZ t) := by
  refine ⟨fun q w => ha.mono (fun zs S1 h1 => F.mono q (fun _ _ h => h) h1) w, ⟨fun pins s σ H Q I h => ?_⟩⟩
  obtain ⟨ρ, S, hE, hS, h⟩ := h
  have low := ha.go (Q := fun vs H1 => lowP X.K zsp vs H1 Q (WE (lowW X.K B EZ) σ)) hE hS h fun zs S1 vs H1 h1 st1 E1 R1 r => low_promise F.mono (fun z S' v H' hq st rz rs => hq v H' st rz rs) st1 E1 R1 r h1
  refine wpAny_Call_Name_kw (ld_glob I hg hm ?_ hdb)
  refine PySem.W.callWith_K (h₀ := X.base) I.mod.kin hk (thn (ha.pa.run pos pins s σ H _ I low) ?_) he hpl
  rintro us s1 ⟨vs, H1, I1, rv, q1⟩
  refine ⟨I1.kIn, wpAny_call (codeAny_mono (run_fnG F.fn hG hr ?_ (L2N.passAt hx σ) I1 rv q1) ?_)⟩
  · have nus : us.length = ps.length := rv.length.symm.trans (F.fn.len _ _ _ _ q1)
    have b := hb s1 us I1.kIn (by rw [List.append_nil]; exact nus)
    rw [List.append_nil] at b
    exact b
  · intro r s' ended
    cases r with
    | error e => exact ended
    | ok fl => cases fl <;> first | exact ended | exact ended.elim
structure ZKw (X : Cx) (B : Bs) (kws : List Keyword) (t : ZA) : Prop where
  mono : ∀ {ρ S} {Q Q' : List Z → Sto → Prop}, (∀ z S', Q z S' → Q' z S') → t ρ S Q → t ρ S Q'
  pk : PK X kws (lowA X.K B t)
theorem PK.imp {kws : List Keyword} {t t' : TA} (h : PK X kws t) (q : ∀ σ H Q, t' σ H Q → t σ H Q) : PK X kws t' := ⟨fun pos pins s σ H Q I w => h.run pos pins s σ H Q I (q σ H Q w)⟩
theorem zk_nil : ZKw X B [] zNil := by
  refine ⟨fun q h => q _ _ h, PK.imp pk_nil ?_⟩
  rintro σ H Q ⟨ρ, S, hE, hS, h⟩
  exact h [] H (.refl _ _) .nil hS
theorem ZKw.go (h : ZKw X B kws t) {ρ : ZEnv} {S : Sto} {σ : L2.St} {H : Hp} {R : List Z → Sto → Prop} {Q : List V → Hp → Prop} (hE : RE X.K H ρ σ) (hS : RS X.K B S H) (w : t ρ S R)
    (kk : ∀ z S' v H', R z S' → Step S S' H H' → RE X.K H' ρ σ → RS X.K B S' H' → RZs X.K H' v z → Q v H') : lowA X.K B t σ H Q :=
  ⟨ρ, S, hE, hS, h.mono (fun z S' r v H' st rz rs => kk z S' v H' r st (hE.le (st.le hS.1)) rs rz) w⟩
structure ZBn (K : PySem.W.Frag) (fd : FuncData) (ps : List Str) (n : Nat) (ks : List Str) (gZ : List Z → List Z → List Z) : Prop where
  to : ∃ (g : List Value → List Value → List Value) (gV : List V → List V → List V), KBn K fd ps n ks g gV ∧ ∀ {H : Hp} {vs ws : List V} {zs ys : List Z}, RZs K H vs zs → RZs K H ws ys → RZs K H (gV vs ws) (gZ zs ys)
def zCallK (n m : Nat) (zsp : ZSp) (gZ : List Z → List Z → List Z) (EZ : ZXW) (t tk : ZA) : ZT := fun ρ S Q => t ρ S fun zs S1 => tk ρ S1 fun ys S2 => zs.length = n ∧ ys.length = m ∧ zsp (gZ zs ys) S2 Q (EZ ρ)
variable {gZ : List Z → List Z → List Z}
theorem zCallK_mono (F : ZFn X.prog X.w X.K X.mg X.base k f fd ps zsp) (ha : ZAs X B es t) (hkw : ZKw X B kws tk) {m : Nat} {ρ : ZEnv} {S : Sto} {Q Q' : ZQ} (q : ∀ z S', Q z S' → Q' z S') (w : zCallK n m zsp gZ EZ t tk ρ S Q) : zCallK n m zsp gZ EZ t tk ρ S Q' :=
  ha.mono (fun zs S1 h1 => hkw.mono (fun ys S2 h2 => ⟨h2.1, h2.2.1, F.mono q (fun _ _ h => h) h2.2.2⟩) h1) w
theorem run_kw (F : ZFn X.prog X.w X.K X.mg X.base k f fd ps zsp) (hG : X.A.guards = some []) (hr : Room k X.A) (hb : ZBn X.K fd ps n ks gZ) (hx : Tk X B EZ) {pins : List (Addr × Obj)} {σ : L2.St} {ρ : ZEnv} {S S2 : Sto} {H H2 : Hp} {s : Shared} {Q : VK} {Qz : ZQ} {us ws : List Value} {vs vk : List V} {zs ys : List Z}
    (I : Inv X pins σ H2 s) (rv : Vals vs us) (rw' : Vals vk ws) (st : Step S S2 H H2) (E2 : RE X.K H2 ρ σ) (R2 : RS X.K B S2 H2) (r : RZs X.K H2 vs zs) (r' : RZs X.K H2 vk ys) (l1 : zs.length = n) (l2 : ys.length = ks.length) (h : zsp (gZ zs ys) S2 Qz (EZ ρ))
    (q : ∀ z S' v H', Qz z S' → Step S S' H H' → RZ X.K H' v z → RS X.K B S' H' → Q v H') : wpAny (model X.prog X.w) X.A (call (.ref f) us (ks.zip ws)) (EP X pins σ Q) X.xe s := by
  obtain ⟨g, gV, b, gz⟩ := hb.to
  have rr := b.rel rv rw'
  have low := low_promise (zsp := zsp) (B := B) (EZ := EZ) (Q := Q) F.mono q st E2 R2 (gz r r') h
  refine wpAny_call (codeAny_mono (run_fnG F.fn hG hr (b.to s us ws I.kIn (by rw [← rv.length, r.length]; exact l1) (by rw [← rw'.length, r'.length]; exact l2)) (L2N.passAt hx σ) I rr low) ?_)
  intro r s' ended
  cases r with
  | error e => exact ended
  | ok fl => cases fl <;> first | exact ended | exact ended.elim
theorem ze_callK0 (F : ZFn X.prog X.w X.K X.mg X.base k f fd ps zsp) (hG : X.A.guards = some []) (hr : Room k X.A) (hm : X.mg x = some (.ref f)) (hk : PySem.W.keepIn X.K (.ref f) = true) (hb : ZBn X.K fd ps 0 ks gZ) (hx : Tk X B EZ)
    (hkw : ZKw X B kws tk) (hg : Gl X x := by rfl) (hall : (backToKw pos (keywordEach kws X.env)).all (·.1.isSome) = true := by rfl) (hks : (backToKw pos (keywordEach kws X.env)).filterMap (·.1) = ks := by rfl)
    (hdb : (x == ("__debug__" : Str)) = false := by decide) (hpl : ((backTo pos (starEach [] X.env)).any (·.1) || (backToKw pos (keywordEach kws X.env)).any (·.1.isNone)) = false := by rfl) :
    ZE X B (.Call (.Name x p) [] kws pos) (zCallK 0 ks.length zsp gZ EZ zNil tk) := by
  refine ⟨fun q w => zCallK_mono F za_nil hkw q w, ⟨fun pins s σ H Q I h => ?_⟩⟩
  obtain ⟨ρ, S, hE, hS, h⟩ := h
  refine wpAny_Call_Name_kw (ld_glob I hg hm ?_ hdb)
  have low : lowA X.K B tk σ H fun vk H2 => ∀ (s2 : Shared) (ws : List Value), Inv X pins σ H2 s2 → Vals vk ws → wpAny (model X.prog X.w) X.A (call (.ref f) [] (ks.zip ws)) (EP X pins σ Q) X.xe s2 :=
    hkw.go hE hS h fun ys S2 vk H2 h2 st2 E2 R2 r' s2 ws I2 rw' => run_kw F hG hr hb hx I2 .nil rw' st2 E2 R2 .nil r' h2.1 h2.2.1 h2.2.2 fun z S' v H' hq st rz rs => hq v H' st rz rs
  refine PySem.W.callWith_KW0 (h₀ := X.base) I.mod.kin hk hall (thn (hkw.pk.run pos pins s σ H _ I low) ?_) hpl
  rintro ws s2 ⟨vk, H2, I2, rw', q2⟩
  refine ⟨I2.kIn, ?_⟩
  rw [hks]
  exact q2 s2 ws I2 rw'
def zRaise (EZ : ZXW) (C : Addr) : ZTS := fun _ ρ S => EZ ρ ⟨C, []⟩ S
theorem zs_raise {C : Addr} {bmB : List Value} {Bn newId initId : String} {m : Str} {j : Nat} {p2 pos' : Pos} (hx : Tk X B EZ) (Fx : ExcBaseFacts Bn newId initId bmB) (q : PySem.W.excIn X.K C bmB newId = true) (gC : X.mg x = some (.ref C)) (kC : PySem.W.keepIn X.K (.ref C) = true) (r : Raises X (.ref C)) (hc : X.calm = true := by rfl) (hg : Gl X x := by rfl)
    (hdb : (x == ("__debug__" : Str)) = false := by decide) : ZS X B (.Raise (some (.Call (.Name x p) [.Constant (.str m) j p2] [] pos)) none pos') (zRaise EZ C) := ⟨PS.imp (L2N.ps_raise hc hx (L2N.pmk_own Fx q gC kC r hg hdb)) (by
  rintro E σ H ⟨ρ, S, D, hE, hS, l, w⟩
  exact ⟨ρ, _, S, hE, .plain C, hS, w⟩)⟩
end
end ZL
namespace ZL
open PySem PySem.Spec PyProof.Rows L2 HT
section
variable {prog : Program} {w : World} {A : Around} {E : Value → Shared → Prop} {s : Shared}
end
section
variable {X : Cx} {B : Bs}
def rZPlus : ZR2 := fun x y S Q => match x, y with
  | .d (.int i), .d (.int j) => Q (zi (i + j)) S
  | .d (.str i), .d (.str j) => i.length + j.length ≤ sizeLine ∧ Q (zs (i ++ j)) S
  | .d (.tuple a), .d (.tuple b) => a.length + b.length ≤ sizeLine ∧ Q (zt (a ++ b)) S
  | x, y => rZCat x y S Q
theorem zplus : ZOp X (binaryOp .Add) rZPlus := by
  constructor
  · intro x y S Q Q' q w
    unfold rZPlus at *
    split at w
    · exact q _ _ w
    · exact ⟨w.1, q _ _ w.2⟩
    · exact ⟨w.1, q _ _ w.2⟩
    · exact zcat.mono (X := X) q w
  · rintro B pins s σ H x y v u Q I rx ry ⟨z1, z2, S, h1, h2, hS, w⟩
    unfold rZPlus at w
    split at w
    · exact zadd.op B pins s σ H x y v u Q I rx ry ⟨_, _, S, h1, h2, hS, w⟩
    · exact zadd.op B pins s σ H x y v u Q I rx ry ⟨_, _, S, h1, h2, hS, w⟩
    · exact zadd.op B pins s σ H x y v u Q I rx ry ⟨_, _, S, h1, h2, hS, w⟩
    · exact zcat.op B pins s σ H x y v u Q I rx ry ⟨_, _, S, h1, h2, hS, w⟩
end
end ZL
namespace ZL
open PySem PySem.Spec PyProof.Rows L2
section
variable {X : Cx} {B : Bs} {pos : Pos}
variable {tg iter elt : Expr} {ifs : List Expr} {scope : Scope} {own : List (Str × Nat)} {o : List Nat} {ti : ZTI} {g : ZG} {tt : ZB} {te : ZT}
structure LcRM (g : ZG) (tt : ZB) (te : ZT) (vs : List Nat) (ρ : ZEnv) (Q : ZQ) (xs : List PyData) (l : List (Addr × List PyData)) (S1 : Sto) : Prop where
  ex : ∃ I : Nat → List PyData → Sto → Prop, I 0 [] S1 ∧ (∀ i acc S', i ≤ xs.length → I i acc S' → Need S' l) ∧
    (∀ (i : Nat) (x : PyData) acc S', xs[i]? = some x → I i acc S' → g (.d x) (zwipe ρ vs) S' fun ρ2 S2 => tt ρ2 S2 fun b S3 =>
      zBr b (te ρ2 S3 fun y S4 => match y with
        | .d d => acc.length < sizeLine ∧ I (i + 1) (acc ++ [d]) S4
        | _ => False) (I (i + 1) acc S3)) ∧ ∀ acc S', I xs.length acc S' → ∀ p, S' p = none → Q (.r p) (S'.put p (.lst acc))
end
theorem need_nil {S : Sto} : Need S [] := fun _ h => nomatch h
end ZL
namespace ZL
open PySem PySem.Spec PyProof.Rows L2
section
variable {X : Cx} {B : Bs}
theorem room65 {k : Nat} {A : Around} (r : Room k A) : A.units + 65 < cLine := by have := r.un; omega
def inB (neg : Bool) (ds : List PyData) (a : PyData) : Bool := bif neg then !ds.any fun z => PyData.eqv z a else ds.any fun z => PyData.eqv z a
def rZIn (neg : Bool) : ZR2 := fun x y S Q => match x, y with
  | .d a, .d (.list ds) => Sh a (.list ds) ∧ Q (zb (inB neg ds a)) S
  | .d a, .d (.tuple ds) => Sh a (.tuple ds) ∧ Q (zb (inB neg ds a)) S
  | .d a, .r p => match S p with
    | some (.lst ds) => Sh a (.list ds) ∧ Q (zb (inB neg ds a)) S
    | _ => False
  | _, _ => False
theorem zin {k : Nat} (hr : Room k X.A) : ZOp X (compareOp .In) (rZIn false) := by
  have hu := room65 hr
  constructor
  · intro x y S Q Q' q w
    unfold rZIn at *
    split at w
    · exact ⟨w.1, q _ _ w.2⟩
    · exact ⟨w.1, q _ _ w.2⟩
    · split at w
      · exact ⟨w.1, q _ _ w.2⟩
      · exact w.elim
    · exact w.elim
  · rintro B pins s σ H x y v u Q I rx ry ⟨z1, z2, S, h1, h2, hS, w⟩
    unfold rZIn at w
    split at w
    · cases h1 with | d h1 => cases h2 with | d h2 =>
        obtain ⟨as, r1, _⟩ := h1.reads I rx
        obtain ⟨bs, r2, _⟩ := h2.reads I ry
        exact SeqAt.in_list_reads r2 r1 (SeqAt.canLay_of_shaped w.1.2) (SeqAt.canLay_of_shaped w.1.1) (room_in_shaped w.1.1 hu) ⟨.bl _, H, I, rfl, w.2 _ H (.refl _ _) (.d (.bl _)) hS⟩
    · cases h1 with | d h1 => cases h2 with | d h2 =>
        obtain ⟨as, r1, _⟩ := h1.reads I rx
        obtain ⟨bs, r2, _⟩ := h2.reads I ry
        exact SeqAt.in_tuple_reads r2 r1 (SeqAt.canLay_of_shaped w.1.2) (SeqAt.canLay_of_shaped w.1.1) (room_in_shaped w.1.1 hu) ⟨.bl _, H, I, rfl, w.2 _ H (.refl _ _) (.d (.bl _)) hS⟩
    · split at w
      · rename_i e
        cases h1 with | d h1 =>
        cases h2
        cases ry
        obtain ⟨vs, hp, f⟩ := hS.1 _ _ e
        obtain ⟨as, r1, _⟩ := h1.reads I rx
        obtain ⟨its, rv, ⟨o, n, e1, c, _, dt⟩, _⟩ := I.list (.inl (.of hp))
        obtain ⟨bs, ra, _⟩ := FzAll.reads I f rv
        exact SeqAt.in_list_reads (.list e1 c dt (by simpa using ra)) r1 (SeqAt.canLay_of_shaped w.1.2) (SeqAt.canLay_of_shaped w.1.1) (room_in_shaped w.1.1 hu) ⟨.bl _, H, I, rfl, w.2 _ H (.refl _ _) (.d (.bl _)) hS⟩
      · exact w.elim
    · exact w.elim
theorem znin {k : Nat} (hr : Room k X.A) : ZOp X (compareOp .NotIn) (rZIn true) := by
  have hu := room65 hr
  constructor
  · intro x y S Q Q' q w
    unfold rZIn at *
    split at w
    · exact ⟨w.1, q _ _ w.2⟩
    · exact ⟨w.1, q _ _ w.2⟩
    · split at w
      · exact ⟨w.1, q _ _ w.2⟩
      · exact w.elim
    · exact w.elim
  · rintro B pins s σ H x y v u Q I rx ry ⟨z1, z2, S, h1, h2, hS, w⟩
    unfold rZIn at w
    split at w
    · cases h1 with | d h1 => cases h2 with | d h2 =>
        obtain ⟨as, r1, _⟩ := h1.reads I rx
        obtain ⟨bs, r2, _⟩ := h2.reads I ry
        exact SeqAt.notIn_list_reads r2 r1 (SeqAt.canLay_of_shaped w.1.2) (SeqAt.canLay_of_shaped w.1.1) (room_in_shaped w.1.1 hu) ⟨.bl _, H, I, rfl, w.2 _ H (.refl _ _) (.d (.bl _)) hS⟩
    · cases h1 with | d h1 => cases h2 with | d h2 =>
        obtain ⟨as, r1, _⟩ := h1.reads I rx
        obtain ⟨bs, r2, _⟩ := h2.reads I ry
        exact SeqAt.notIn_tuple_reads r2 r1 (SeqAt.canLay_of_shaped w.1.2) (SeqAt.canLay_of_shaped w.1.1) (room_in_shaped w.1.1 hu) ⟨.bl _, H, I, rfl, w.2 _ H (.refl _ _) (.d (.bl _)) hS⟩
    · split at w
      · rename_i e
        cases h1 with | d h1 =>
        cases h2
        cases ry
        obtain ⟨vs, hp, f⟩ := hS.1 _ _ e
        obtain ⟨as, r1, _⟩ := h1.reads I rx
        obtain ⟨its, rv, ⟨o, n, e1, c, _, dt⟩, _⟩ := I.list (.inl (.of hp))
        obtain ⟨bs, ra, _⟩ := FzAll.reads I f rv
        exact SeqAt.notIn_list_reads (.list e1 c dt (by simpa using ra)) r1 (SeqAt.canLay_of_shaped w.1.2) (SeqAt.canLay_of_shaped w.1.1) (room_in_shaped w.1.1 hu) ⟨.bl _, H, I, rfl, w.2 _ H (.refl _ _) (.d (.bl _)) hS⟩
      · exact w.elim
    · exact w.elim
variable {ta tb tc : ZT} {a b c : Expr} {pos : Pos}
def zChain (r r' : ZR2) (ta tb tc : ZT) : ZT := fun ρ S Q => ta ρ S fun x S1 => tb ρ S1 fun y S2 => r x y S2 fun z S3 => match z with
  | .d (.bool k) => zBr k (tc ρ S3 fun w' S4 => r' y w' S4 Q) (Q (zb false) S3)
  | _ => False
theorem zChain_mono {f f' : Value → Value → Sem Value} {r r' : ZR2} (ho : ZOp X f r) (ho' : ZOp X f' r') (ha : ZE X B a ta) (hb : ZE X B b tb) (hc : ZE X B c tc) {ρ : ZEnv} {S : Sto} {Q Q' : ZQ} (q : ∀ z S', Q z S' → Q' z S') (w : zChain r r' ta tb tc ρ S Q) : zChain r r' ta tb tc ρ S Q' := by
  refine ha.mono (fun x S1 h1 => hb.mono (fun y S2 h2 => ho.mono (fun z S3 h3 => ?_) h2) h1) w
  split at h3
  · exact h3.mono (fun h => hc.mono (fun w' S4 h4 => ho'.mono q h4) h) (fun h => q _ _ h)
  · exact h3.elim
theorem low_chain {f f' : Value → Value → Sem Value} {r r' : ZR2} (ho : ZOp X f r) (ho' : ZOp X f' r') (ha : ZE X B a ta) (hb : ZE X B b tb) (hc : ZE X B c tc) : ∀ σ H Q, low X.K B (zChain r r' ta tb tc) σ H Q → tChain (lowR X.K B r) (lowR X.K B r') (low X.K B ta) (low X.K B tb) (low X.K B tc) σ H Q := by
  rintro σ H Q ⟨ρ, S, hE, hS, h⟩
  refine ha.go hE hS h fun x S1 v1 H1 h1 st1 E1 R1 z1 => ?_
  refine hb.go E1 R1 h1 fun y S2 v2 H2 h2 st2 E2 R2 z2 => ?_
  refine ⟨x, y, S2, z1.le (st2.le R1.1), z2, R2, ho.mono (fun z S3 h3 => ?_) h2⟩
  intro v3 H3 st3 rz3 R3
  split at h3
  · rename_i k
    cases rz3 with | d rz3 =>
    cases rz3
    refine ⟨k, rfl, ?_⟩
    have E3 := E2.le (st3.le R2.1)
    cases k with
    | false => exact h3 _ H3 ((st1.trans st2).trans st3) (.d (.bl _)) R3
    | true =>
      rw [if_pos rfl]
      refine hc.go E3 R3 h3 fun w' S4 v4 H4 h4 st4 E4 R4 z4 => ?_
      exact ⟨y, w', S4, z2.le ((st3.trans st4).le R2.1), z4, R4, ho'.mono (fun z S5 q v H5 st rz rs => q v H5 ((((st1.trans st2).trans st3).trans st4).trans st) rz rs) h4⟩
  · exact h3.elim
theorem ze_chain {op op' : CmpOp} {r r' : ZR2} (ho : ZOp X (compareOp op) r) (ho' : ZOp X (compareOp op') r') (ha : ZE X B a ta) (hb : ZE X B b tb) (hc : ZE X B c tc)
    (hm : lastMarks [op, op'] [b, c] = false := by with_unfolding_all rfl) : ZE X B (.Compare a [op, op'] [b, c] pos) (zChain r r' ta tb tc) :=
  ⟨zChain_mono ho ho' ha hb hc, PE.imp (pe_chain (ho.op B) (ho'.op B) ha.pe hb.pe hc.pe hm) (low_chain ho ho' ha hb hc)⟩
theorem zt_chain {op op' : CmpOp} {r r' : ZR2} (ho : ZOp X (compareOp op) r) (ho' : ZOp X (compareOp op') r') (ha : ZE X B a ta) (hb : ZE X B b tb) (hc : ZE X B c tc)
    (hm : lastMarks [op, op'] [b, c] = false := by with_unfolding_all rfl) : ZTe X B (.Compare a [op, op'] [b, c] pos) (zTest (zChain r r' ta tb tc)) := by
  refine ⟨zTest_mono (ze_chain (pos := pos) ho ho' ha hb hc hm), PT.imp (pt_chain (ho.op B) (ho'.op B) ha.pe hb.pe hc.pe hm) fun σ H Q w => ?_⟩
  have w2 := low_test (ze_chain (pos := pos) ho ho' ha hb hc hm) σ H Q w
  exact low_chain ho ho' ha hb hc σ H _ w2
def zPar3 (i j l : Nat) (ta : ZA) : ZTS := fun D ρ S => ta ρ S fun zs S1 => match zs with
  | [x, y, z] => D.nx (((ρ.set i (some x)).set j (some y)).set l (some z)) S1
  | _ => False
theorem rzs3 {K : PySem.W.Frag} {H : Hp} {vs : List V} {z z' z2 : Z} (h : RZs K H vs [z, z', z2]) : ∃ v v' v2, vs = [v, v', v2] ∧ RZ K H v z ∧ RZ K H v' z' ∧ RZ K H v2 z2 := by
  cases h with | cons h t => cases t with | cons h' t => cases t with | cons h2 t => cases t; exact ⟨_, _, _, rfl, h, h', h2⟩
theorem zs_par3 {i j l : Nat} {x y z : Str} {a b c : Expr} {ta : ZA} {px py pz pt pos : Pos} {kt k2 pt2} (hN : X.N.Nodup) (ha : ZAs X B [a, b, c] ta) (hc : X.calm = true := by rfl) (hi : X.N[i]? = some x := by rfl) (hj : X.N[j]? = some y := by rfl) (hl : X.N[l]? = some z := by rfl) (hij : i ≠ j := by decide) (hil : i ≠ l := by decide) (hjl : j ≠ l := by decide)
    (hx : X.env.scope.names.lookup x = some .local := by rfl) (hy : X.env.scope.names.lookup y = some .local := by rfl) (hz : X.env.scope.names.lookup z = some .local := by rfl)
    (hw : swappedStores [.Tuple [.Name x px, .Name y py, .Name z pz] kt pt] (.Tuple [a, b, c] k2 pt2) X.env = pure (some [x, y, z]) := by rfl)
    (hs : swapsWithSole [.Tuple [.Name x px, .Name y py, .Name z pz] kt pt] (.Tuple [a, b, c] k2 pt2) pos.line X.env = pure false := by rfl) :
    ZS X B (.Assign [.Tuple [.Name x px, .Name y py, .Name z pz] kt pt] (.Tuple [a, b, c] k2 pt2) pos) (zPar3 i j l ta) := ⟨PS.imp (ps_par3 hc hN hi hj hl hij hil hjl hx hy hz ha.pa hw hs) (by
  rintro E σ H ⟨ρ, S, D, hE, hS, lz, w⟩
  refine ha.go hE hS w fun zs S1 vs H1 h1 st E1 R1 rz => ?_
  split at h1
  · obtain ⟨v, v', v2, rfl, r1, r2, r3⟩ := rzs3 rz
    exact ⟨v, v', v2, rfl, lz.nx _ _ _ _ h1 st (((E1.set i r1).set j r2).set l r3) R1⟩
  · exact h1.elim)⟩
def tyD : String → PyData → Bool
  | "list", .list _ => true
  | "str", .str _ => true
  | _, _ => false
theorem tyD_ok {K : PySem.W.Frag} {H : Hp} {T : String} {d : PyData} {v : V} (h : tyD T d = true) (f : Fz K H v d) : tyV K T v H := by
  unfold tyD at h
  split at h
  · cases f with | lst s _ => exact .inl ⟨rfl, _, s.l⟩
  · cases f with | str _ => rfl
  · cases h
def MtD (X : Cx) (id : String) (g : PyData → List PyData → Option PyData) : Prop := MtR X id fun x xs H Q => ∃ d ds y, Fz X.K H x d ∧ FzAll X.K H xs ds ∧ g d ds = some y ∧ ∀ x', Fz X.K H x' y → Q x' H
def zMeth (T : String) (g : PyData → List PyData → Option PyData) (to : ZT) (t : ZA) : ZT := fun ρ S Q => to ρ S fun z S1 => match z with
  | .d d => tyD T d = true ∧ t ρ S1 fun zs S2 => match datas zs with
    | some ds => match g d ds with
      | some y => Q (.d y) S2
      | none => False
    | none => False
  | _ => False
variable {o e : Expr} {es : List Expr} {to : ZT} {t : ZA} {name : Str} {apos cpos : Pos} {T id : String} {g : PyData → List PyData → Option PyData}
theorem ze_meth (pa : PlainAttrs T) (slot : Slot T name id) (hty : typeOf (.builtin id) = pure (.type "method_descriptor")) (hm : MtD X id g) (ho : ZE X B o to) (ha : ZAs X B (e :: es) t)
    (hbase : attributeBase o name X.env (eval o X.env) = eval o X.env := by rfl)
    (hfew : ((backTo cpos (starEach (e :: es) X.env)).all (fun x => !x.1) && (backToKw cpos (keywordEach [] X.env)).all (fun x => x.1.isSome)
      && decide ((e :: es).length + ([] : List Keyword).length + (if ([] : List Keyword).isEmpty then 0 else 1) < 30)) = true := by rfl)
    (hline : (apos.endLine == cpos.line) = true := by rfl) (hs : starEach (e :: es) X.env = (false, eval e X.env) :: starEach es X.env := by rfl) (hplain : (backTo cpos (starEach es X.env)).any (·.1) = false := by rfl) :
    ZE X B (.Call (.Attribute o name apos) (e :: es) [] cpos) (zMeth T g to t) := by
  refine ⟨fun {ρ S Q Q'} q w => ho.mono (fun x S1 h1 => ?_) w, PE.imp (pe_bm pa slot hty hm ho.pe ha.pa hbase hfew hline hs hplain) ?_⟩
  · split at h1
    · refine ⟨h1.1, ha.mono (fun zs S2 h2 => ?_) h1.2⟩
      split at h2
      · split at h2
        · exact q _ _ h2
        · exact h2.elim
      · exact h2.elim
    · exact h1.elim
  · rintro σ H Q ⟨ρ, S, hE, hS, w⟩
    refine ho.go hE hS w fun x S1 v1 H1 h1 st1 E1 R1 z1 => ?_
    split at h1
    · rename_i d
      cases z1 with | d z1 =>
      refine ⟨tyD_ok h1.1 z1, ha.go E1 R1 h1.2 fun zs S2 vs H2 h2 st2 E2 R2 z2 => ?_⟩
      split at h2
      · rename_i ds ed
        split at h2
        · rename_i y ey
          exact ⟨d, ds, y, z1.le (st2.le R1.1), datas_fz z2 ed, ey, fun x' f => h2 x' H2 (st1.trans st2) (.d f) R2⟩
        · exact h2.elim
      · exact h2.elim
    · exact h1.elim
def countO : PyData → List PyData → Option PyData
  | .list xs, [y] => if SeqAt.shaped y && SeqAt.shaped (.list xs) then some (.int (xs.countP fun z => PyData.eqv z y : Nat)) else none
  | _, _ => none
theorem mt_count (hu : X.A.units + 65 < cLine) : MtD X "list.count" countO := by
  intro pins s σ H x xs v us Q I rx rxs h
  obtain ⟨d, ds, y, f, fs, e, q⟩ := h
  unfold countO at e
  split at e
  · rename_i zs y
    split at e
    · rename_i hc
      cases e
      rw [Bool.and_eq_true] at hc
      cases fs with | cons f1 ft =>
      cases ft
      cases rxs with | cons ry rt =>
      cases rt
      obtain ⟨as, r1, _⟩ := f1.reads I ry
      cases f with | lst sq fa =>
      cases rx
      obtain ⟨its, rv, ⟨⟨cls, dd, data, sls⟩, n, ho, hc1, hdn, hdt⟩, hlen⟩ := I.list (SqF.l sq)
      simp only at hc1 hdt
      subst hc1 hdt
      obtain ⟨bs, ra, _⟩ := FzAll.reads I fa rv
      have hxs := SeqAt.canLay_of_shaped hc.2
      have hxs : PyData.canLayAll0 zs = true := by simpa [PyData.canLay0] using hxs
      have ra' : ReadsAll s.heap its.toArray.toList zs bs := by simpa using ra
      refine call_meets PySem.F.slot_list_count ⟨_, ho, rfl⟩ PySem.F.entry_list_count (PySem.F.args_list_count_2 _ _) (SeqAt.list_countAt _ its.toArray n dd sls _ (fun u => PyData.eqv (SeqAt.readOf s.heap u) y)) ⟨ho, SeqAt.items_eqAt ra' r1 hxs (SeqAt.canLay_of_shaped hc.1) (room_in_shaped hc.1 hu), ?_⟩
      have ec : its.toArray.toList.countP (fun u => PyData.eqv (SeqAt.readOf s.heap u) y) = zs.countP fun z => PyData.eqv z y := by
        rw [← SeqAt.readsAll_map zs _ _ hxs ra', List.countP_map]
        rfl
      refine ⟨.int (zs.countP fun z => PyData.eqv z y : Nat), H, I.tok _, ⟨s.toks, ?_⟩, q _ (.int _)⟩
      show Value.int ((its.toArray.toList.countP (fun u => PyData.eqv (SeqAt.readOf s.heap u) y) : Nat) : Int) s.toks = _
      rw [ec]
    · cases e
  · cases e
end
end ZL
namespace ZL
open PySem PySem.Spec PyProof.Rows L2
def sqH (t : Bool) (K : PySem.W.Frag) (H : Hp) (a : Addr) (xs : List V) : Prop := match t with
  | true => SqT K H a xs
  | false => SqL K H a xs
def sqO (t : Bool) (h : Heap) (a : Addr) (xs : Array Value) : Prop := match t with
  | true => h.IsTuple a xs
  | false => h.IsList a xs
def siO (t : Bool) (h : Heap) (it a : Addr) (i : Nat) : Prop := match t with
  | true => h.IsTupleIter it a i
  | false => h.IsListIter it a i
def itObj (t : Bool) (a : Addr) : Obj := match t with
  | true => { cls := .type "tuple_iterator", data := .fields #[.ref a, .int 0 0] }
  | false => { cls := .type "list_iterator", data := .fields #[.ref a, .int 0 0] }
theorem sqO_lt {t : Bool} {h : Heap} {a : Addr} {xs : Array Value} (q : sqO t h a xs) : a < h.objs.size := by
  cases t <;> (obtain ⟨o, ho, _⟩ := q; exact Heap.lt_size ho)
theorem siO_lt {t : Bool} {h : Heap} {it a : Addr} {i : Nat} (q : siO t h it a i) : it < h.objs.size := by
  cases t <;> (obtain ⟨o, ho, _⟩ := q; exact Heap.lt_size ho)
theorem siO_obj {t : Bool} {h : Heap} {it a : Addr} {i : Nat} (q : siO t h it a i) : ∃ o, h.get? it = some o ∧ ∀ v, o.data ≠ .cell v := by
  cases t <;> (obtain ⟨o, ho, _, d⟩ := q; exact ⟨o, ho, fun v q => by rw [d] at q; cases q⟩)
theorem siO_at {t : Bool} {h h' : Heap} {it a : Addr} {i : Nat} (q : siO t h it a i) (e : ∀ o, h.get? it = some o → h'.get? it = some o) : siO t h' it a i := by
  cases t <;> (obtain ⟨o, ho, r⟩ := q; exact ⟨o, e _ ho, r⟩)
theorem siO_new {t : Bool} {h : Heap} {it a : Addr} (e : h.get? it = some (itObj t a)) : siO t h it a 0 := by
  cases t <;> exact ⟨_, e, rfl, rfl⟩
theorem src_begins (t : Bool) (a : Addr) (xs : Array Value) : Begins (.ref a) (itObj t a) fun h => sqO t h a xs := by
  cases t
  · exact begins_list a xs
  · exact begins_tuple a xs
theorem src_draws {prog : Program} {w : World} {A : Around} (t : Bool) (hh : A.handled = none) (it a : Addr) (hne : a ≠ it) (xs : Array Value) :
    Draws prog w A it [it, a] xs.size (fun i v => xs[i]? = some v) (fun i h => siO t h it a i ∧ sqO t h a xs) := by
  cases t
  · exact Draws.list hh it a hne xs
  · exact Draws.tuple hh it a hne xs
section
variable {X : Cx} {pins : List (Addr × Obj)} {σ : L2.St} {H : Hp} {s : Shared}
theorem src_get {t : Bool} {a : Addr} {xs : List V} (I : Inv X pins σ H s) (h : sqH t X.K H a xs) : ∃ its : List Value, Vals xs its ∧ sqO t s.heap a its.toArray := by
  cases t
  · obtain ⟨its, rv, p, _⟩ := I.list h; exact ⟨its, rv, p.isList⟩
  · obtain ⟨its, rv, p, _⟩ := I.tuple h; exact ⟨its, rv, p⟩
theorem src_inj {t : Bool} {a : Addr} {xs ys : List V} (I : Inv X pins σ H s) (h : sqH t X.K H a xs) (h' : sqH t X.K H a ys) : xs = ys := by
  cases t
  · exact I.list_inj h h'
  · exact I.tuple_inj h h'
end
def ItzG (t u : Bool) (K : PySem.W.Frag) (a b : Addr) : It :=
  ⟨fun i H => ∃ (xs ys : List V) (x y : V), sqH t K H a xs ∧ sqH u K H b ys ∧ xs[i]? = some x ∧ ys[i]? = some y,
    fun i H v H' => ∃ T x y, v = .ref T ∧ H T = none ∧ H' = upd H T (.tup [x, y]) ∧ (∀ xs, sqH t K H a xs → xs[i]? = some x) ∧ ∀ ys, sqH u K H b ys → ys[i]? = some y,
    fun i H => ∃ xs ys : List V, sqH t K H a xs ∧ sqH u K H b ys ∧ i ≤ xs.length ∧ i ≤ ys.length ∧ (xs.length = i ∨ ys.length = i)⟩
theorem turn_zipG {P : Program} {w : World} {K : PySem.W.Frag} {elts : List Expr} {kk : Nat} {tpos : Pos} {t u : Bool} {a b z TI TO i1 i2 : Addr} (D : ZipSep2 z TI TO i1 i2 [i1, a] [i2, b]) (n1 : a ≠ i1) (n2 : b ≠ i2) :
    Turn P w K (.Tuple elts kk tpos) (ItzG t u K a b) [z, TI, TO, i1, i2] z (fun i h => IsZip h z TI TO .none ∧ IsTupOf2 h TI (.ref i1) (.ref i2) ∧ (∃ x y, IsTupOf2 h TO x y) ∧ siO t h i1 a i ∧ siO u h i2 b i) where
  mem := by simp
  obj := fun i h st c hc => by
    obtain ⟨hz, hTI, ⟨x, y, hTO⟩, h1, h2⟩ := st
    have e' : c = z ∨ c = TI ∨ c = TO ∨ c = i1 ∨ c = i2 := by simpa using hc
    rcases e' with q | q | q | q | q
    · rw [q]; exact ⟨_, hz, fun v q => nomatch q⟩
    · rw [q]; exact ⟨_, hTI, fun v q => nomatch q⟩
    · rw [q]; exact ⟨_, hTO, fun v q => nomatch q⟩
    · rw [q]; exact siO_obj h1
    · rw [q]; exact siO_obj h2
  keep := fun i h h' st k => by
    obtain ⟨hz, hTI, ⟨x, y, hTO⟩, h1, h2⟩ := st
    exact ⟨k z (by simp) _ hz, k TI (by simp) _ hTI, ⟨x, y, k TO (by simp) _ hTO⟩, siO_at h1 fun o q => k i1 (by simp) o q, siO_at h2 fun o q => k i2 (by simp) o q⟩
  item := by
    intro X hP hw hK hc i pins s σ H E I hf st hg
    subst hP hw hK
    obtain ⟨hz, hTI, ⟨x0, y0, hTO⟩, h1, h2⟩ := st
    obtain ⟨xs, ys, x, y, hqx, hqy, hx, hy⟩ := hg
    obtain ⟨its, rv, p⟩ := src_get I hqx
    obtain ⟨its2, rv2, p2⟩ := src_get I hqy
    obtain ⟨v1, hu, ru⟩ := rv.get hx
    obtain ⟨v2, hu2, ru2⟩ := rv2.get hy
    have l1 : i < its.toArray.size := by simpa using (List.getElem?_eq_some_iff.mp hu).1
    have l2 : i < its2.toArray.size := by simpa using (List.getElem?_eq_some_iff.mp hu2).1
    have lz : z < s.heap.objs.size := Heap.lt_size hz
    have lI : TI < s.heap.objs.size := Heap.lt_size hTI
    have lO : TO < s.heap.objs.size := Heap.lt_size hTO
    have li1 := siO_lt h1
    have li2 := siO_lt h2
    refine wpAny_pyNext_zipD2_item D (src_draws (A := X.A.in1) t (I.ok.hd hc) i1 a n1 its.toArray) (src_draws (A := X.A.in1) u (I.ok.hd hc) i2 b n2 its2.toArray) hz hTI hTO ⟨h1, p⟩ ⟨h2, p2⟩ l1 l2 fun w1 w2 h' tk y1 y2 z' TO' st1 st2 hT hsz hk => ?_
    have e1 : w1 = v1 := by
      have q : its[i]? = some w1 := by simpa using y1
      rw [hu] at q; exact (Option.some.inj q).symm
    have e2 : w2 = v2 := by
      have q : its2[i]? = some w2 := by simpa using y2
      rw [hu2] at q; exact (Option.some.inj q).symm
    subst e1 e2
    refine ⟨_, rfl, wpAny_letOwnedTupleGo_zip (s := { s with heap := h', toks := tk }) z' fun h'' z'' sb => ?_⟩
    have hT2 : h''.get? s.heap.objs.size = some { cls := .type "tuple", data := .seq #[w1, w2] } := (sb.2 _ (Nat.ne_of_gt lz)).trans hT
    have new : ObjOk X.prog X.w (upd H s.heap.objs.size (.tup [x, y])) h'' s.heap.objs.size (.tup [x, y]) :=
      ⟨by show 2 ≤ sizeLine; decide, [w1, w2], .cons ru (.cons ru2 .nil), ⟨_, hT2, rfl, _, rfl⟩⟩
    have I1 : Inv X pins σ (upd H s.heap.objs.size (.tup [x, y])) { s with heap := h'', toks := tk } :=
      I.turnedNew (t' := tk) (ch := [z, TI, TO, i1, i2]) (fun c o hb q => (sb.2 c (fun q' => hb (by simp [q']))).trans (hk c o (fun q' => hb (by simp [q'])) (fun q' => hb (by simp [q'])) (fun q' => hb (by simp [q'])) (fun q' => hb (by simp [q'])) q)) hf (Nat.le_refl _) new
    refine ⟨.ref s.heap.objs.size, _, I1, rfl, ⟨_, x, y, rfl, I.hok.fresh (Nat.le_refl _), rfl, fun l hl => by rw [src_inj I hl hqx]; exact hx, fun l hl => by rw [src_inj I hl hqy]; exact hy⟩, ⟨z'', ?_, ⟨w1, w2, ?_⟩, ?_, ?_⟩, fun c hcm => ?_⟩
    · exact (sb.2 _ D.TIz).trans (hk _ _ D.TIz D.TITO D.TIi1 D.TIi2 hTI)
    · exact (sb.2 _ D.TOz).trans TO'
    · exact siO_at st1.1 fun o q => (sb.2 _ (Ne.symm D.zi1)).trans q
    · exact siO_at st2.1 fun o q => (sb.2 _ (Ne.symm D.zi2)).trans q
    · have hlt : c < s.heap.objs.size := by
        have e' : c = z ∨ c = TI ∨ c = TO ∨ c = i1 ∨ c = i2 := by simpa using hcm
        rcases e' with q | q | q | q | q
        · rw [q]; exact lz
        · rw [q]; exact lI
        · rw [q]; exact lO
        · rw [q]; exact li1
        · rw [q]; exact li2
      rw [upd_ne (Nat.ne_of_lt hlt)]
      exact (hf c hcm).1
  done := by
    intro X hP hw hK hc i pins s σ H E I hf st hg
    subst hP hw hK
    obtain ⟨hz, hTI, ⟨x0, y0, hTO⟩, h1, h2⟩ := st
    obtain ⟨xs, ys, hqx, hqy, le1, le2, hend⟩ := hg
    obtain ⟨its, rv, p⟩ := src_get I hqx
    obtain ⟨its2, rv2, p2⟩ := src_get I hqy
    have l1 := rv.length
    have l2 := rv2.length
    refine wpAny_pyNext_zipD2_end D (src_draws (A := X.A.in1) t (I.ok.hd hc) i1 a n1 its.toArray) (src_draws (A := X.A.in1) u (I.ok.hd hc) i2 b n2 its2.toArray) hz hTI hTO ⟨h1, p⟩ ⟨h2, p2⟩ (by simp; omega) (by simp; omega) (by simp; omega) fun h' tk hk => ⟨rfl, I.turnedL (t' := tk) (ch := [z, TI, TO, i1, i2]) (fun c o hb q =>
      hk c o (fun q' => hb (by simp [q'])) (fun q' => hb (by simp [q'])) (fun q' => hb (by simp [q'])) (fun q' => hb (by simp [q'])) q) hf⟩
  self := fun A i s Q E st h => wpAny_pyIter_zip st.1 h
def iZipG (K : PySem.W.Frag) (ta : TA) : TI := fun σ H R => ta σ H fun vs H1 => ∃ a b t u xs ys, vs = [.ref a, .ref b] ∧ sqH t K H1 a xs ∧ sqH u K H1 b ys ∧ R (ItzG t u K a b) H1
theorem pi_zipG {X : Cx} {e e2 : Expr} {ta : TA} {p pos tpos : Pos} {elts : List Expr} {kk : Nat} (hg : Gl X "zip") (hm : X.mg "zip" = none) (ha : PA X [e, e2] ta)
    (hs : starEach [e, e2] X.env = (false, eval e X.env) :: starEach [e2] X.env := by rfl) (hpl : (backTo pos (starEach [e2] X.env)).any (·.1) = false := by rfl) :
    PI X (.Tuple elts kk tpos) (.Call (.Name "zip" p) [e, e2] [] pos) (iZipG X.K ta) := by
  refine ⟨fun pins s σ H R I h => ?_⟩
  refine Call_ (ld_blt I hg hm PyProof.Rows.boot_zip (PyProof.Rows.callWith_type1 (thn (ha.run pos pins s σ H _ I h) fun us s1 ⟨vs, H1, I1, r1, q1⟩ => ?_) hs hpl))
  obtain ⟨a, b, t, u, xs, ys, ex, hqx, hqy, q⟩ := q1
  subst ex
  cases r1 with
  | cons r rr =>
    cases rr with
    | cons r' rr =>
      cases rr
      cases r
      cases r'
      have fresh5 : ∀ c, c ∈ [s1.heap.objs.size + 4, s1.heap.objs.size + 2, s1.heap.objs.size + 3, s1.heap.objs.size, s1.heap.objs.size + 1] → FpOk X pins H1 c := fun c hcm => by
        have e' : c = s1.heap.objs.size + 4 ∨ c = s1.heap.objs.size + 2 ∨ c = s1.heap.objs.size + 3 ∨ c = s1.heap.objs.size ∨ c = s1.heap.objs.size + 1 := by simpa using hcm
        have hle : s1.heap.objs.size ≤ c := by
          rcases e' with z | z | z | z | z
          · rw [z]; exact Nat.le_add_right _ _
          · rw [z]; exact Nat.le_add_right _ _
          · rw [z]; exact Nat.le_add_right _ _
          · rw [z]; exact Nat.le_refl _
          · rw [z]; exact Nat.le_add_right _ _
        exact I1.fpOk hle (I1.hok.fresh hle)
      obtain ⟨its, rv, p1⟩ := src_get I1 hqx
      obtain ⟨its2, rv2, p2⟩ := src_get I1 hqy
      have la := sqO_lt p1
      have lb := sqO_lt p2
      refine zip_begins2 (src_begins t a its.toArray) (src_begins u b its2.toArray) p1 p2 fun h' hz hTI hTO g1 g2 hsz hk => wpAny_pyIter_zip hz ?_
      have I2 : Inv X pins σ H1 { s1 with heap := h' } := I1.kept (t' := s1.toks) hk
      exact ⟨s1.heap.objs.size + 4, [s1.heap.objs.size + 4, s1.heap.objs.size + 2, s1.heap.objs.size + 3, s1.heap.objs.size, s1.heap.objs.size + 1], _, _, H1, rfl, I2,
        turn_zipG (zip_sep2 (fp1 := [a]) (fp2 := [b]) (by intro c hc; rw [List.mem_singleton.mp hc]; exact la) (by intro c hc; rw [List.mem_singleton.mp hc]; exact lb)) (Nat.ne_of_lt la) (Nat.ne_of_lt (Nat.lt_succ_of_lt lb)), ⟨hz, hTI, ⟨_, _, hTO⟩, siO_new g1, siO_new g2⟩, fresh5, q⟩
def zipD (xs ys : List PyData) : List PyData := List.zipWith (fun x y => PyData.tuple [x, y]) xs ys
theorem zipD_length (xs ys : List PyData) : (zipD xs ys).length = min xs.length ys.length := by simp [zipD]
theorem itok_zip {K : PySem.W.Frag} {H0 : Hp} {t u : Bool} {a b : Addr} {xs ys : List PyData} {l : List (Addr × List PyData)} (h : ∀ H S, Le H0 H → RS0 K S H → Need S l → ∃ vs, sqH t K H a vs ∧ FzAll K H vs xs) (h2 : ∀ H S, Le H0 H → RS0 K S H → Need S l → ∃ vs, sqH u K H b vs ∧ FzAll K H vs ys) : ItOk K H0 (ItzG t u K a b) (zipD xs ys) l := by
  refine ⟨fun H => (∃ vs, sqH t K H a vs ∧ FzAll K H vs xs) ∧ ∃ vs, sqH u K H b vs ∧ FzAll K H vs ys, ⟨fun i H hi ⟨⟨vs, q, f⟩, ⟨ws, q2, f2⟩⟩ => ?_, fun H ⟨⟨vs, q, f⟩, ⟨ws, q2, f2⟩⟩ => ?_, fun i H x H' hi ⟨⟨vs, q, f⟩, ⟨ws, q2, f2⟩⟩ y => ?_⟩, fun H S hl hr hn => ⟨h H S hl hr hn, h2 H S hl hr hn⟩⟩
  · rw [zipD_length] at hi
    obtain ⟨v, e, _⟩ := f.get (List.getElem?_eq_getElem (show i < xs.length by omega))
    obtain ⟨v2, e2, _⟩ := f2.get (List.getElem?_eq_getElem (show i < ys.length by omega))
    exact ⟨vs, ws, v, v2, q, q2, e, e2⟩
  · have e1 := f.length
    have e2 := f2.length
    rw [zipD_length]
    exact ⟨vs, ws, q, q2, by omega, by omega, by omega⟩
  · obtain ⟨T, v1, v2, rfl, hT, rfl, y1, y2⟩ := y
    obtain ⟨d1, g1, fd1⟩ := f.get' (y1 vs q)
    obtain ⟨d2, g2, fd2⟩ := f2.get' (y2 ws q2)
    have sm : Same H (upd H T (.tup [v1, v2])) := same_fresh hT
    refine ⟨.tuple [d1, d2], ?_, sm, .tup (SqT.of upd_same) (.cons (fd1.le (.same sm)) (.cons (fd2.le (.same sm)) .nil))⟩
    simp [zipD, List.getElem?_zipWith, g1, g2]
def ziZip (t : ZA) : ZTI := fun ρ S Q => t ρ S fun zs S1 => match zs with
  | [z1, z2] => match rowZ S1 z1, rowZ S1 z2 with
    | some xs, some ys => Q (zipD xs ys) (needZ z1 xs ++ needZ z2 ys) S1
    | _, _ => False
  | _ => False
section
variable {X : Cx} {B : Bs}
theorem need_l {S : Sto} {l k : List (Addr × List PyData)} (h : Need S (l ++ k)) : Need S l := fun p hp => h p (List.mem_append_left _ hp)
theorem need_r {S : Sto} {l k : List (Addr × List PyData)} (h : Need S (l ++ k)) : Need S k := fun p hp => h p (List.mem_append_right _ hp)
theorem src_at {K : PySem.W.Frag} {S : Sto} {H : Hp} {z : Z} {v : V} {xs : List PyData} (hS : RS0 K S H) (rz : RZ K H v z) (e : rowZ S z = some xs) :
    ∃ a t, v = .ref a ∧ ∀ H' S', Le H H' → RS0 K S' H' → Need S' (needZ z xs) → ∃ vs, sqH t K H' a vs ∧ FzAll K H' vs xs := by
  obtain ⟨a, ea, q⟩ := src_of hS rz e
  rcases q with q | q
  · exact ⟨a, false, ea, q⟩
  · exact ⟨a, true, ea, q⟩
theorem zi_zip {e e2 : Expr} {ta : ZA} {p pos tpos : Pos} {elts : List Expr} {kk : Nat} (hg : Gl X "zip") (hm : X.mg "zip" = none) (ha : ZAs X B [e, e2] ta)
    (hs : starEach [e, e2] X.env = (false, eval e X.env) :: starEach [e2] X.env := by rfl) (hpl : (backTo pos (starEach [e2] X.env)).any (·.1) = false := by rfl) : ZI X B (.Tuple elts kk tpos) (.Call (.Name "zip" p) [e, e2] [] pos) (ziZip ta) := by
  refine ⟨fun {ρ S Q Q'} q w => ha.mono (fun z S1 h1 => ?_) w, PI.imp (pi_zipG hg hm ha.pa hs hpl) ?_⟩
  · split at h1
    · split at h1
      · exact q _ _ _ h1
      · exact h1.elim
    · exact h1.elim
  · rintro σ H R ⟨ρ, S, hE, hS, w⟩
    refine ha.go hE hS w fun zs S1 vs H1 h1 st E1 R1 rz => ?_
    split at h1
    · obtain ⟨v, v', rfl, r1, r2⟩ := rzs2 rz
      split at h1
      · rename_i xs ys e1 e2
        obtain ⟨a, t, rfl, q1⟩ := src_at R1.1 r1 e1
        obtain ⟨b, u, rfl, q2⟩ := src_at R1.1 r2 e2
        obtain ⟨ws1, sq1, _⟩ := q1 H1 S1 (.refl _) R1.1 (need_now e1)
        obtain ⟨ws2, sq2, _⟩ := q2 H1 S1 (.refl _) R1.1 (need_now e2)
        exact ⟨a, b, t, u, ws1, ws2, rfl, sq1, sq2, h1 _ H1 st R1 (itok_zip (fun H' S' l r n => q1 H' S' l r (need_l n)) (fun H' S' l r n => q2 H' S' l r (need_r n)))⟩
      · exact h1.elim
    · exact h1.elim
end
end ZL
namespace ZL
open PySem PySem.Spec PyProof.Rows L2
theorem meets_enum1 {v : Value} {o : Obj} {H : Heap → Prop} (B : Begins v o H) :
    Meets (Builtin.«enumerate.__new__» ⟨[.type "enumerate", v], []⟩) (fun _ R s => H s.heap ∧
      R (.ok (.ret (.ref (s.heap.push o).objs.size))) { s with heap := (s.heap.push o).push { cls := .type "enumerate", data := .fields #[.none, .bool false, .ref s.heap.objs.size, rawInt 0, .none, .none] } }) :=
  .of_wp fun prog w A R s h => by
    obtain ⟨hp, g, d, tk, os⟩ := s
    obtain ⟨h1, h⟩ := h
    have hsub := sub_enumerate
    have begun : ∀ {A' : Around} {E : Value → Shared → Prop} {Q : Value → Shared → Prop}, Q (.ref hp.objs.size) ⟨hp.push o, g, d, tk, os⟩ → wpAny (model prog w) A' (pyIter v) Q E ⟨hp, g, d, tk, os⟩ :=
      fun q => B.iter prog w _ _ ⟨hp, g, d, tk, os⟩ _ h1 q
    wp_walk using begun
    refine wpAny_stack_any fun st => wpAny_pure ?_
    split
    · rename_i c _ _ _ _ _
      cases (c == Value.type "enumerate") <;> (wp_walk using begun; exact ⟨_, rfl, h⟩)
    · wp_walk using begun
      exact ⟨_, rfl, h⟩
theorem enum_new {prog : Program} {w : World} {A : Around} {E : Value → Shared → Prop} {s : Shared} {v : Value} {o : Obj} {H : Heap → Prop} {Q : Value → Shared → Prop} (B : Begins v o H) (h1 : H s.heap)
    (h : ∀ h', IsEnum h' (s.heap.objs.size + 1) s.heap.objs.size 0 .none → h'.get? s.heap.objs.size = some o → (∀ b o, s.heap.get? b = some o → h'.get? b = some o) → Q (.ref (s.heap.objs.size + 1)) { s with heap := h' }) :
    wpAny (model prog w) A (call (.type "enumerate") [v]) Q E s := by
  refine callType_new F.called_enumerate (by decide) (F.typeCall_enumerate_1 _) (F.newCall_enumerate_1 _) (fun obj => F.args_object_init_2 obj _) F.entry_enumerate_new (meets_enum1 B) ⟨h1, ?_⟩
  have hz : (s.heap.push o).objs.size = s.heap.objs.size + 1 := Heap.size_push ..
  have he := Heap.get?_push_size (s.heap.push o) (o := { cls := .type "enumerate", data := .fields #[.none, .bool false, .ref s.heap.objs.size, rawInt 0, .none, .none] }) rfl
  show _ ∧ _
  rw [hz] at he ⊢
  exact ⟨⟨_, he, rfl⟩, h _ he (Heap.get?_push_of_some _ (Heap.get?_push_size _ B.free)) fun b o x => Heap.get?_push_of_some _ (Heap.get?_push_of_some _ x)⟩
def IteG (t : Bool) (K : PySem.W.Frag) (a : Addr) : It :=
  ⟨fun i H => ∃ (xs : List V) (x : V), sqH t K H a xs ∧ xs[i]? = some x,
    fun i H v H' => ∃ T x, v = .ref T ∧ H T = none ∧ H' = upd H T (.tup [.int (i : Nat), x]) ∧ ∀ xs, sqH t K H a xs → xs[i]? = some x,
    fun i H => ∃ xs : List V, sqH t K H a xs ∧ xs.length = i⟩
theorem turn_enumG {P : Program} {w : World} {K : PySem.W.Frag} {elts : List Expr} {kk : Nat} {tpos : Pos} {t : Bool} {a e it : Addr} (n1 : a ≠ it) (n2 : e ≠ it) (n3 : e ≠ a) :
    Turn P w K (.Tuple elts kk tpos) (IteG t K a) [e, it] e (fun i h => (∃ old, IsEnum h e it ((i : Nat) : Int) old) ∧ siO t h it a i) where
  mem := by simp
  obj := fun i h st c hc => by
    obtain ⟨⟨old, he⟩, h1⟩ := st
    have e' : c = e ∨ c = it := by simpa using hc
    rcases e' with q | q
    · rw [q]; exact ⟨_, he, fun v q => nomatch q⟩
    · rw [q]; exact siO_obj h1
  keep := fun i h h' st k => by
    obtain ⟨⟨old, he⟩, h1⟩ := st
    exact ⟨⟨old, k e (by simp) _ he⟩, siO_at h1 fun o q => k it (by simp) o q⟩
  item := by
    intro X hP hw hK hc i pins s σ H E I hf st hg
    subst hP hw hK
    obtain ⟨⟨old, he⟩, h1⟩ := st
    obtain ⟨xs, x, hq, hx⟩ := hg
    obtain ⟨its, rv, p⟩ := src_get I hq
    obtain ⟨v1, hu, ru⟩ := rv.get hx
    have l1 : i < its.toArray.size := by simpa using (List.getElem?_eq_some_iff.mp hu).1
    have le : e < s.heap.objs.size := Heap.lt_size he
    have li := siO_lt h1
    refine wpAny_pyNext_enum_itemC (src_draws (A := X.A.in1) t (I.ok.hd hc) it a n1 its.toArray) he ⟨h1, p⟩ l1 n2 (by simp [n2, n3]) fun w1 h' tk y1 he' st1 hT hsz hk => ?_
    have e1 : w1 = v1 := by
      have q : its[i]? = some w1 := by simpa using y1
      rw [hu] at q; exact (Option.some.inj q).symm
    subst e1
    refine ⟨_, rfl, wpAny_letOwnedTupleGo_enum (s := { s with heap := h', toks := tk + 1 }) he' fun h'' he'' sb => ?_⟩
    have hT2 : h''.get? s.heap.objs.size = some { cls := .type "tuple", data := .seq #[.int i tk, w1] } := (sb.2 _ (Nat.ne_of_gt le)).trans hT
    have new : ObjOk X.prog X.w (upd H s.heap.objs.size (.tup [.int (i : Nat), x])) h'' s.heap.objs.size (.tup [.int (i : Nat), x]) :=
      ⟨by show 2 ≤ sizeLine; decide, [.int i tk, w1], .cons ⟨_, rfl⟩ (.cons ru .nil), ⟨_, hT2, rfl, _, rfl⟩⟩
    have I1 : Inv X pins σ (upd H s.heap.objs.size (.tup [.int (i : Nat), x])) { s with heap := h'', toks := tk + 1 } :=
      I.turnedNew (t' := tk + 1) (ch := [e, it]) (fun c o hb q => (sb.2 c (fun q' => hb (by simp [q']))).trans (hk c o (fun q' => hb (by simp [q'])) (fun q' => hb (by simp [q'])) q)) hf (Nat.le_refl _) new
    refine ⟨.ref s.heap.objs.size, _, I1, rfl, ⟨_, x, rfl, I.hok.fresh (Nat.le_refl _), rfl, fun l hl => by rw [src_inj I hl hq]; exact hx⟩, ⟨⟨w1, ?_⟩, ?_⟩, fun c hcm => ?_⟩
    · have e2 : ((i + 1 : Nat) : Int) = (i : Int) + 1 := by omega
      rw [e2]; exact he''
    · exact siO_at st1.1 fun o q => (sb.2 _ (Ne.symm n2)).trans q
    · have hlt : c < s.heap.objs.size := by
        have e' : c = e ∨ c = it := by simpa using hcm
        rcases e' with q | q
        · rw [q]; exact le
        · rw [q]; exact li
      rw [upd_ne (Nat.ne_of_lt hlt)]
      exact (hf c hcm).1
  done := by
    intro X hP hw hK hc i pins s σ H E I hf st hg
    subst hP hw hK
    obtain ⟨⟨old, he⟩, h1⟩ := st
    obtain ⟨xs, hq, hx⟩ := hg
    obtain ⟨its, rv, p⟩ := src_get I hq
    have l1 := rv.length
    have ei : its.toArray.size = i := by simp; omega
    refine wpAny_pyNext_enum_endD (src_draws (A := X.A.in1) t (I.ok.hd hc) it a n1 its.toArray) he ⟨by rw [ei]; exact h1, p⟩ fun h' hk => ⟨rfl, I.turnedL (t' := s.toks) (ch := [e, it]) (fun c o hb q => hk c o (fun q' => hb (by simp [q'])) q) hf⟩
  self := fun A i s Q E st h => let ⟨⟨_, he⟩, _⟩ := st; wpAny_pyIter_enum he h
def iEnumG (K : PySem.W.Frag) (ta : TA) : TI := fun σ H R => ta σ H fun vs H1 => ∃ a t xs, vs = [.ref a] ∧ sqH t K H1 a xs ∧ R (IteG t K a) H1
theorem pi_enumG {X : Cx} {e : Expr} {ta : TA} {p pos tpos : Pos} {elts : List Expr} {kk : Nat} (hg : Gl X "enumerate") (hm : X.mg "enumerate" = none) (ha : PA X [e] ta) (hs : starEach [e] X.env = [(false, eval e X.env)] := by rfl) :
    PI X (.Tuple elts kk tpos) (.Call (.Name "enumerate" p) [e] [] pos) (iEnumG X.K ta) := by
  refine ⟨fun pins s σ H R I h => ?_⟩
  refine Call_ (ld_blt I hg hm boot_enumerate (PyProof.Rows.callWith_type1 (thn (ha.run pos pins s σ H _ I h) fun us s1 ⟨vs, H1, I1, r1, q1⟩ => ?_) hs rfl))
  obtain ⟨a, t, xs, ex, hq, q⟩ := q1
  subst ex
  cases r1 with
  | cons r rr =>
    cases rr
    cases r
    obtain ⟨its, rv, p1⟩ := src_get I1 hq
    have la := sqO_lt p1
    refine enum_new (src_begins t a its.toArray) p1 fun h' he g1 hk => wpAny_pyIter_enum he ?_
    have I2 : Inv X pins σ H1 { s1 with heap := h' } := I1.kept (t' := s1.toks) hk
    refine ⟨s1.heap.objs.size + 1, [s1.heap.objs.size + 1, s1.heap.objs.size], _, _, H1, rfl, I2, turn_enumG (Nat.ne_of_lt la) (Nat.succ_ne_self _) (Nat.ne_of_gt (Nat.lt_succ_of_lt la)), ⟨⟨.none, he⟩, siO_new g1⟩, fun b hb => ?_, q⟩
    have e' : b = s1.heap.objs.size + 1 ∨ b = s1.heap.objs.size := by simpa using hb
    have hle : s1.heap.objs.size ≤ b := by
      rcases e' with z | z
      · rw [z]; exact Nat.le_add_right _ _
      · rw [z]; exact Nat.le_refl _
    exact I1.fpOk hle (I1.hok.fresh hle)
def enumD (xs : List PyData) : List PyData := List.zipWith (fun (i : Nat) x => PyData.tuple [.int (i : Int), x]) (List.range xs.length) xs
theorem enumD_length (xs : List PyData) : (enumD xs).length = xs.length := by simp [enumD]
theorem enumD_get {xs : List PyData} {i : Nat} {x : PyData} (h : xs[i]? = some x) : (enumD xs)[i]? = some (.tuple [.int (i : Int), x]) := by
  obtain ⟨hi, hx⟩ := List.getElem?_eq_some_iff.mp h
  simp [enumD, List.getElem?_zipWith, h, hi, hx]
theorem itok_enum {K : PySem.W.Frag} {H0 : Hp} {t : Bool} {a : Addr} {xs : List PyData} {l : List (Addr × List PyData)} (h : ∀ H S, Le H0 H → RS0 K S H → Need S l → ∃ vs, sqH t K H a vs ∧ FzAll K H vs xs) : ItOk K H0 (IteG t K a) (enumD xs) l := by
  refine ⟨fun H => ∃ vs, sqH t K H a vs ∧ FzAll K H vs xs, ⟨fun i H hi ⟨vs, q, f⟩ => ?_, fun H ⟨vs, q, f⟩ => ⟨vs, q, by rw [f.length, enumD_length]⟩, fun i H x H' hi ⟨vs, q, f⟩ y => ?_⟩, h⟩
  · rw [enumD_length] at hi
    obtain ⟨v, e, _⟩ := f.get (List.getElem?_eq_getElem hi)
    exact ⟨vs, v, q, e⟩
  · obtain ⟨T, v1, rfl, hT, rfl, y1⟩ := y
    obtain ⟨d1, g1, fd1⟩ := f.get' (y1 vs q)
    have sm : Same H (upd H T (.tup [.int (i : Nat), v1])) := same_fresh hT
    exact ⟨_, enumD_get g1, sm, .tup (SqT.of upd_same) (.cons (.int _) (.cons (fd1.le (.same sm)) .nil))⟩
def ziEnum (t : ZA) : ZTI := fun ρ S Q => t ρ S fun zs S1 => match zs with
  | [z1] => match rowZ S1 z1 with
    | some xs => Q (enumD xs) (needZ z1 xs) S1
    | none => False
  | _ => False
section
variable {X : Cx} {B : Bs}
theorem zi_enum {e : Expr} {ta : ZA} {p pos tpos : Pos} {elts : List Expr} {kk : Nat} (hg : Gl X "enumerate") (hm : X.mg "enumerate" = none) (ha : ZAs X B [e] ta)
    (hs : starEach [e] X.env = [(false, eval e X.env)] := by rfl) : ZI X B (.Tuple elts kk tpos) (.Call (.Name "enumerate" p) [e] [] pos) (ziEnum ta) := by
  refine ⟨fun {ρ S Q Q'} q w => ha.mono (fun z S1 h1 => ?_) w, PI.imp (pi_enumG hg hm ha.pa hs) ?_⟩
  · split at h1
    · split at h1
      · exact q _ _ _ h1
      · exact h1.elim
    · exact h1.elim
  · rintro σ H R ⟨ρ, S, hE, hS, w⟩
    refine ha.go hE hS w fun zs S1 vs H1 h1 st E1 R1 rz => ?_
    split at h1
    · obtain ⟨v, rfl, r1⟩ := rzs1 rz
      split at h1
      · rename_i xs e1
        obtain ⟨a, t, rfl, q1⟩ := src_at R1.1 r1 e1
        obtain ⟨ws1, sq1, _⟩ := q1 H1 S1 (.refl _) R1.1 (need_now e1)
        exact ⟨a, t, ws1, rfl, sq1, h1 _ H1 st R1 (itok_enum q1)⟩
      · exact h1.elim
    · exact h1.elim
end
end ZL
namespace ZL
open PySem PySem.Spec PyProof.Rows L2
section
variable {X : Cx} {B : Bs}
def rRepL : R2 := fun x y H Q => ∃ l k xs, x = .ref l ∧ y = .int k ∧ Rd H l (.lst xs) ∧ -(2 ^ 63) ≤ k ∧ k < 2 ^ 63 ∧ xs.length * k.toNat ≤ sizeLine ∧ ∀ p, H p = none → Q (.ref p) (upd H p (.lst (List.replicate k.toNat xs).flatten))
theorem rep_fold (its : List Value) (k : Nat) : List.foldl (fun x1 x2 => x1 ++ x2) #[] (List.replicate (if its.toArray.isEmpty = true then 0 else k) its.toArray) = (List.replicate k its).flatten.toArray := by
  have f : ∀ (m : Nat) (a : Array Value), List.foldl (fun x1 x2 => x1 ++ x2) a (List.replicate m its.toArray) = a ++ (List.replicate m its).flatten.toArray := by
    intro m
    induction m with
    | zero => intro a; simp
    | succ m ih => intro a; rw [List.replicate_succ, List.foldl_cons, ih, List.replicate_succ, List.flatten_cons]; simp
  rw [f, Array.empty_append]
  cases its with
  | nil => simp
  | cons a r => rw [if_neg (by simp)]
theorem op_repL : OpR X (binaryOp .Mult) rRepL := by
  rintro pins s σ H x y v u Q I rx ry ⟨l, k, xs, rfl, rfl, hH, h1, h2, hz, q⟩
  cases rx
  obtain ⟨t, rfl⟩ := ry
  obtain ⟨its, n, r, e⟩ := lst_of I hH
  have hl := r.length
  have hs : its.toArray.size = its.length := List.size_toArray
  have small : its.toArray.size * k.toNat ≤ sizeLine := by rw [hs, ← hl]; exact hz
  have ty : s.TypeIs (.ref l) "list" := ⟨_, e, rfl⟩
  refine wpAny_binaryOp_repeat_ref (T := "list") (U := "int") (by decide) ty (fun s' => typeIs_int s' k t) noFill_list_mul F.fills_int_mul F.slot_int_rmul repeat_list F.slot_int_index.lookup ?_
  refine call_meets F.slot_int_rmul (typeIs_int s k t) F.entry_int_rmul (F.args_int_rmul_2 _ _) (int___rmul___int_list k t l its.toArray n) ⟨e, rfl, ty, ?_⟩
  refine call_meets F.slot_list_mul ty F.entry_list_mul (F.args_list_mul_2 _ _) (AutoListH.list___mul___list_int_3 l its.toArray n k t (by rw [fitsIndex_both h1 h2]; exact Bool.false_ne_true) ?_ (by rw [notLongL small]; exact Bool.false_ne_true)) ⟨e, ?_⟩
  · have : (sizeLine : Nat) ≤ (2 ^ 63 - 1) / 8 := by decide
    omega
  · rw [rep_fold]
    exact ⟨.ref _, _, I.lnew (t' := s.toks) (r.rep k.toNat) (by rw [PyProof.Rows.lm_len_rep_flat, Nat.mul_comm]; exact hz), rfl, q _ I.fresh⟩
def repD (n : Nat) (ds : List PyData) : List PyData := (List.replicate n ds).flatten
theorem FzAll.rep {K : PySem.W.Frag} {H : Hp} {vs : List V} {ds : List PyData} (f : FzAll K H vs ds) : ∀ n : Nat, FzAll K H (List.replicate n vs).flatten (repD n ds)
  | 0 => .nil
  | n + 1 => by
    unfold repD
    rw [List.replicate_succ, List.replicate_succ, List.flatten_cons, List.flatten_cons]
    exact f.append (FzAll.rep f n)
def RepOk (k : Int) (n : Nat) : Prop := In62 k ∧ n * k.toNat ≤ sizeLine
theorem RepOk.b {k : Int} {n : Nat} (h : RepOk k n) : -(2 ^ 63) ≤ k ∧ k < 2 ^ 63 := by
  have := h.1
  unfold In62 at this
  omega
def rZRepM : ZR2 := fun x y S Q => match listZ S x, y with
  | some a, .d (.int k) => RepOk k a.length ∧ ∀ p, S p = none → Q (.r p) (S.put p (.lst (repD k.toNat a)))
  | _, _ => False
theorem zrepM : ZOp X (binaryOp .Mult) rZRepM := by
  constructor
  · intro x y S Q Q' q w
    unfold rZRepM at *
    split at w
    · exact ⟨w.1, fun p hp => q _ _ (w.2 p hp)⟩
    · exact w.elim
  · rintro B pins s σ H x y v u Q I rx ry ⟨z1, z2, S, h1, h2, hS, w⟩
    unfold rZRepM at w
    split at w
    · rename_i a k e1
      obtain ⟨l, vs, rfl, q1, f1⟩ := listZ_rd hS.1 h1 e1
      cases h2 with | d h2 =>
      cases h2
      exact op_repL pins s σ H _ _ v u Q I rx ry ⟨l, k, vs, rfl, rfl, q1, w.1.b.1, w.1.b.2, by rw [f1.length]; exact w.1.2, fun p hp => w.2 p (hS.1.fresh hp) _ _ (step_new hp) (.r p) (hS.step (hS.1.new hp (f1.rep _)) (step_new hp))⟩
    · exact w.elim
def Rg (i j : Int) : Prop := In62 i ∧ In62 j ∧ (j - i).toNat ≤ 2 ^ 24
theorem fz_rg {K : PySem.W.Frag} {H : Hp} (i j : Int) : FzAll K H (rgV i j) (rangeD i (j - i).toNat) := by
  unfold rgV rangeD
  generalize (j - i).toNat = n
  have : ∀ l : List Nat, FzAll K H (l.map fun (m : Nat) => V.int (i + (m : Int))) (l.map fun (m : Nat) => PyData.int (i + (m : Int))) := by
    intro l
    induction l with
    | nil => exact .nil
    | cons m l ih => exact .cons (.int _) ih
  exact this _
theorem Rg.ok {i j : Int} (h : Rg i j) : RgOk i j := by
  obtain ⟨h1, h2, h3⟩ := h
  exact ⟨h1.1, h1.2, h2.1, h2.2, h3⟩
variable {ta tb : ZT} {a b : Expr} {p p2 pos pos2 : Pos}
def zRg1 (ta : ZT) (k : Int → Int → ZEnv → Sto → ZQ → Prop) : ZT := fun ρ S Q => ta ρ S fun x S1 => match x with
  | .d (.int n) => k 0 n ρ S1 Q
  | _ => False
def kRgL (i j : Int) (_ : ZEnv) (S : Sto) (Q : ZQ) : Prop := Rg i j ∧ Q (zl (rangeD i (j - i).toNat)) S
def kRgM (i j : Int) (_ : ZEnv) (S : Sto) (Q : ZQ) : Prop := Rg i j ∧ ∀ p, S p = none → Q (.r p) (S.put p (.lst (rangeD i (j - i).toNat)))
theorem low_rgL {ρ : ZEnv} {S : Sto} {σ : L2.St} {H : Hp} {Q : VK} {i j : Int} (hS : RS X.K B S H) (h : kRgL i j ρ S fun z S' => ∀ v H', Step S S' H H' → RZ X.K H' v z → RS X.K B S' H' → Q v H') :
    RgOk i j ∧ ∀ q, H q = none → ∃ a ys, V.ref q = .ref a ∧ (upd H q (.lst (rgV i j))) a = some (.lst ys) ∧ ∀ o, Q (.ref q) (upd (upd H q (.lst (rgV i j))) a (.frz o (.lst ys))) :=
  ⟨h.1.ok, fun q hq => rest_end hS (fz_rg i j) h.2 q hq⟩
theorem ze_listRg1 (hg : Gl X "list") (hm : X.mg "list" = none) (hg2 : Gl X "range") (hm2 : X.mg "range" = none) (ha : ZE X B a ta) (hc : X.calm = true := by rfl)
    (na : starEach [a] X.env = (false, eval a X.env) :: starEach [] X.env := by rfl) (nb : starEach [.Call (.Name "range" p2) [a] [] pos2] X.env = (false, eval (.Call (.Name "range" p2) [a] [] pos2) X.env) :: starEach [] X.env := by rfl) :
    ZE X B (.Call (.Name "list" p) [.Call (.Name "range" p2) [a] [] pos2] [] pos) (zRg1 ta kRgL) := by
  refine ⟨fun {ρ S Q Q'} q w => ha.mono (fun x S1 h1 => ?_) w, PE.imp (pe_rest (pe_listRg hc hg hm (prg_1 hg2 hm2 ha.pe na) nb)) ?_⟩
  · split at h1
    · exact ⟨h1.1, q _ _ h1.2⟩
    · exact h1.elim
  · rintro σ H Q ⟨ρ, S, hE, hS, w⟩
    refine ha.go hE hS w fun x S1 v1 H1 h1 st1 E1 R1 z1 => ?_
    split at h1
    · cases z1 with | d z1 =>
      cases z1
      refine ⟨_, rfl, ?_⟩
      exact low_rgL (ρ := ρ) (σ := σ) R1 ⟨h1.1, fun v H' st rz rs => h1.2 v H' (st1.trans st) rz rs⟩
    · exact h1.elim
theorem ze_listRg1M (hg : Gl X "list") (hm : X.mg "list" = none) (hg2 : Gl X "range") (hm2 : X.mg "range" = none) (ha : ZE X B a ta) (hc : X.calm = true := by rfl)
    (na : starEach [a] X.env = (false, eval a X.env) :: starEach [] X.env := by rfl) (nb : starEach [.Call (.Name "range" p2) [a] [] pos2] X.env = (false, eval (.Call (.Name "range" p2) [a] [] pos2) X.env) :: starEach [] X.env := by rfl) :
    ZE X B (.Call (.Name "list" p) [.Call (.Name "range" p2) [a] [] pos2] [] pos) (zRg1 ta kRgM) := by
  refine ⟨fun {ρ S Q Q'} q w => ha.mono (fun x S1 h1 => ?_) w, PE.imp (pe_listRg hc hg hm (prg_1 hg2 hm2 ha.pe na) nb) ?_⟩
  · split at h1
    · exact ⟨h1.1, fun p hp => q _ _ (h1.2 p hp)⟩
    · exact h1.elim
  · rintro σ H Q ⟨ρ, S, hE, hS, w⟩
    refine ha.go hE hS w fun x S1 v1 H1 h1 st1 E1 R1 z1 => ?_
    split at h1
    · cases z1 with | d z1 =>
      cases z1
      exact ⟨_, rfl, h1.1.ok, fun q hq => h1.2 q (R1.1.fresh hq) _ _ (st1.trans (step_new hq)) (.r q) (R1.step (R1.1.new hq (fz_rg _ _)) (step_new hq))⟩
    · exact h1.elim
end
end ZL
namespace ZL
open PySem PySem.Spec PyProof.Rows L2
section
variable {X : Cx} {B : Bs}
theorem FzAll.dp {K : PySem.W.Frag} {H : Hp} : ∀ {ds : List PyData} {vs : List V}, PyData.hasDictAll ds = false → FzAll K H vs ds → DpAll K H vs ds
  | _, _, _, .nil => .nil
  | _, _, h, .cons f t => by
    simp only [PyData.hasDictAll, Bool.or_eq_false_iff] at h
    exact .cons (f.dp h.1) (FzAll.dp h.2 t)
def rZEqR (neg : Bool) : ZR2 := fun x y S Q => match x, y with
  | .r p, .d b => match S p with
    | some (.lst xs) => Sh (.list xs) b ∧ Q (zb (bif neg then !PyData.eqv (.list xs) b else PyData.eqv (.list xs) b)) S
    | _ => False
  | _, _ => False
theorem rZEqR_mono {neg : Bool} {x y : Z} {S : Sto} {Q Q' : ZQ} (q : ∀ z S', Q z S' → Q' z S') (w : rZEqR neg x y S Q) : rZEqR neg x y S Q' := by
  unfold rZEqR at *
  split at w
  · split at w
    · exact ⟨w.1, q _ _ w.2⟩
    · exact w.elim
  · exact w.elim
theorem zneR {k : Nat} (hr : Room k X.A) : ZOp X (compareOp .NotEq) (rZEqR true) := by
  refine ⟨rZEqR_mono, ?_⟩
  rintro B pins s σ H x y v u Q I rx ry ⟨z1, z2, S, h1, h2, hS, w⟩
  unfold rZEqR at w
  split at w
  · split at w
    · rename_i p b _ xs e
      cases h1
      cases h2 with | d h2 =>
      obtain ⟨vs, hp, f⟩ := hS.1 _ _ e
      have d1 : Dp X.K H (.ref p) (.list xs) := .lst (.inl (.of hp)) (f.dp (by simpa [PyData.hasDict] using noDict_of_shaped w.1.1))
      exact op_neD hr.units pins s σ H _ _ v u Q I rx ry ⟨_, _, d1, h2.dp (noDict_of_shaped w.1.2), w.1.1, w.1.2, w.2 _ H (.refl _ _) (.d (.bl _)) hS⟩
    · exact w.elim
  · exact w.elim
end
end ZL
namespace ZL
open PySem PySem.Spec PyProof.Rows L2
section
variable {X : Cx} {B : Bs}
theorem PG.or {e : Expr} {t u : TG} (h : PG X e t) (k : PG X e u) : PG X e (fun v σ H Q => t v σ H Q ∨ u v σ H Q) :=
  ⟨fun pins s σ H v w Q I r hw => hw.elim (fun a => h.run pins s σ H v w Q I r a) (fun a => k.run pins s σ H v w Q I r a)⟩
def zgSeq (n : Nat) (t : ZGs) : ZG := fun z ρ S Q => match z with
  | .d (.tuple xs) => xs.length = n ∧ t xs ρ S Q
  | .d (.list xs) => xs.length = n ∧ t xs ρ S Q
  | _ => False
theorem zg_seq {es : List Expr} {k : Nat} {own : List Nat} {t : ZGs} {n : Nat} {pos : Pos} (h : ZGts X B es own t) (hc : X.calm = true := by rfl) (hn : (assignEach es X.env).length = n := by rfl) (hst : (assignEach es X.env).findIdx? (·.1) = none := by rfl) : ZGt X B (.Tuple es k pos) own (zgSeq n t) := by
  refine ⟨fun {z ρ S Q Q'} q w => ?_, PG.imp (PG.or (pg_tup hc h.pgs hn hst) (pg_lst hc h.pgs hn hst)) ?_⟩
  · unfold zgSeq at *
    split at w
    · exact ⟨w.1, h.mono q w.2⟩
    · exact ⟨w.1, h.mono q w.2⟩
    · exact w.elim
  · rintro v σ H Q ⟨z, ρ, S, rz, hE, hS, w⟩
    unfold zgSeq at w
    split at w
    · cases rz with
      | d f =>
        cases f with
        | @tup a xs ds sq f => exact .inl ⟨a, xs, rfl, sq, by rw [f.length]; exact w.1, _, ρ, S, f, hE, hS, w.2⟩
    · cases rz with
      | d f =>
        cases f with
        | @lst a xs ds sq f => exact .inr ⟨a, xs, rfl, sq.l, by rw [f.length]; exact w.1, _, ρ, S, f, hE, hS, w.2⟩
    · exact w.elim
end
end ZL
namespace ZL
open PySem PySem.Spec PyProof.Rows L2
section
variable {X : Cx} {B : Bs} {pos : Pos}
def popD (xs : List PyData) (k : Int) : Option (Nat × PyData) := if -(2 ^ 62) ≤ k ∧ k < 2 ^ 62 then (ixN xs.length k).bind fun n => (xs[n]?).map fun d => (n, d) else none
def zPop (to te : ZT) : ZT := fun ρ S Q => to ρ S fun x S1 => match x with
  | .r p => (∃ xs, S1 p = some (.lst xs)) ∧ te ρ S1 fun y S2 => match y with
    | .d (.int k) => match S2 p with
      | some (.lst xs) => match popD xs k with
        | some (n, d) => Q (.d d) (S2.put p (.lst (xs.eraseIdx n)))
        | none => False
      | _ => False
    | _ => False
  | _ => False
theorem FzAll.eraseIdx {K : PySem.W.Frag} {H : Hp} : ∀ {ds : List PyData} {vs : List V} (n : Nat), FzAll K H vs ds → FzAll K H (vs.eraseIdx n) (ds.eraseIdx n)
  | _, _, _, .nil => .nil
  | _, _, 0, .cons f t => t
  | _, _, n + 1, .cons f t => .cons f (FzAll.eraseIdx n t)
theorem ze_pop {o e : Expr} {to te : ZT} {apos pos : Pos} (ho : ZE X B o to) (he : ZE X B e te)
    (pe : ∀ {ta : TE} {tb : TE}, PE X o ta → PE X e tb → PE X (.Call (.Attribute o "pop" apos) [e] [] pos) (tBM X.K "list" rPopAt ta (tCons tb tNil)) := by intro ta tb h1 h2; exact pe_bm PySem.F.plainAttrs_list PySem.F.slot_list_pop PySem.F.type_list_pop mt_popAt h1 (pa_cons h2 pa_nil)) :
    ZE X B (.Call (.Attribute o "pop" apos) [e] [] pos) (zPop to te) := by
  refine ⟨fun {ρ S Q Q'} q w => ho.mono (fun x S1 h1 => ?_) w, PE.imp (pe ho.pe he.pe) ?_⟩
  · split at h1
    · refine ⟨h1.1, he.mono (fun y S2 h2 => ?_) h1.2⟩
      split at h2
      · split at h2
        · split at h2
          · exact q _ _ h2
          · exact h2.elim
        · exact h2.elim
      · exact h2.elim
    · exact h1.elim
  · rintro σ H Q ⟨ρ, S, hE, hS, w⟩
    refine ho.go hE hS w fun x S1 v1 H1 h1 st1 E1 R1 z1 => ?_
    split at h1
    · rename_i p
      cases z1
      obtain ⟨⟨xs, e1⟩, h1⟩ := h1
      obtain ⟨vs, q1, _⟩ := R1.1 p _ e1
      refine ⟨.inl ⟨rfl, vs, .of q1⟩, he.go E1 R1 h1 fun y S2 v2 H2 h2 st2 E2 R2 z2 => ?_⟩
      split at h2
      · rename_i k
        split at h2
        · rename_i ys e2
          split at h2
          · rename_i n d ed
            cases z2 with
            | d z2 =>
              cases z2
              unfold popD at ed
              split at ed
              · rename_i hk
                obtain ⟨n', en, e3⟩ := Option.bind_eq_some_iff.mp ed
                obtain ⟨d', e4, e5⟩ := Option.map_eq_some_iff.mp e3
                cases e5
                obtain ⟨ws, q2, f2⟩ := R2.1 p _ e2
                obtain ⟨y, ey, fy⟩ := f2.get e4
                have sS := step_set (c' := .lst (ys.eraseIdx n)) (o := .lst (ws.eraseIdx n)) (H := H2) e2
                refine ⟨p, ws, k, n, y, rfl, rfl, q2, by omega, by omega, by rw [f2.length]; exact (ixN_seq en).1, ey, ?_⟩
                exact h2 y _ ((st1.trans st2).trans sS) (.d (fy.le (sS.le R2.1))) (R2.step (R2.1.set e2 (f2.eraseIdx n)) sS)
              · cases ed
          · exact h2.elim
        · exact h2.elim
      · exact h2.elim
    · exact h1.elim
end
end ZL
namespace ZL
open PySem PySem.Spec PyProof.Rows L2
section
variable {X : Cx} {B : Bs} {pos : Pos}
def zsets (ρ : ZEnv) (l : List (Nat × Z)) : ZEnv := l.foldl (fun ρ p => ρ.set p.1 (some p.2)) ρ
def zParN (is : List Nat) (ta : ZA) : ZTS := fun D ρ S => ta ρ S fun zs S1 => zs.length = is.length ∧ D.nx (zsets ρ (is.zip zs)) S1
theorem two_of {α : Type} {l : List α} (h : l.length = 2) : ∃ a b, l = [a, b] := by
  match l, h with
  | [a, b], _ => exact ⟨a, b, rfl⟩
section
variable {i j l : Nat} {x y z : Str} {a b c : Expr} {ta : ZA} {px py pz pt : Pos} {kt k2 pt2 : _}
theorem zs_parU2 (hN : X.N.Nodup) (ha : ZAs X B [a, b] ta) (hc : X.calm = true := by rfl) (hi : X.N[i]? = some x := by rfl) (hj : X.N[j]? = some y := by rfl)
    (hx : Loc X.env.scope x := by first | exact Or.inl rfl | exact Or.inr rfl) (hy : Loc X.env.scope y := by first | exact Or.inl rfl | exact Or.inr rfl)
    (fx : X.fn x = true ∨ X.env.scope.names.lookup x = some .local := by first | exact .inl rfl | exact .inr rfl | assumption) (fy : X.fn y = true ∨ X.env.scope.names.lookup y = some .local := by first | exact .inl rfl | exact .inr rfl | assumption)
    (hw : swappedStores [.Tuple [.Name x px, .Name y py] kt pt] (.Tuple [a, b] k2 pt2) X.env = pure none := by rfl)
    (hs : swapsWithSole [.Tuple [.Name x px, .Name y py] kt pt] (.Tuple [a, b] k2 pt2) pos.line X.env = pure false := by rfl) : ZS X B (.Assign [.Tuple [.Name x px, .Name y py] kt pt] (.Tuple [a, b] k2 pt2) pos) (zParN [i, j] ta) :=
  ⟨PS.imp (ps_asg (pe_tup ha.pa) (pg_tup hc (pgs_cons (pg_name (pos := px) hN hi hx fx) (pgs_cons (pg_name (pos := py) hN hj hy fy) pgs_nil))) hs hw) (by
  rintro E σ H ⟨ρ, S, D, hE, hS, lz, w⟩
  refine ha.go hE hS w fun zs S1 vs H1 h1 st E1 R1 rz => ?_
  obtain ⟨z1, z2, rfl⟩ := two_of h1.1
  obtain ⟨v, v', rfl, r1, r2⟩ := rzs2 rz
  refine ⟨by show 2 ≤ sizeLine; decide, fun p hp => ⟨p, [v, v'], rfl, SqT.of upd_same, rfl, v, [v'], rfl, v', [], rfl, rfl, ?_⟩⟩
  have sm : Same H1 (upd H1 p (.tup [v, v'])) := same_fresh hp
  exact lz.nx _ _ _ _ h1.2 (st.trans (step_same sm)) (((E1.set i r1).set j r2).le (.same sm)) (R1.step (R1.1.same sm) (step_same sm)))⟩
end
end
end ZL
namespace ZL
open PySem PySem.Spec PyProof.Rows L2
def intsD : List PyData → Option (List Int)
  | [] => some []
  | .int i :: r => (intsD r).map (i :: ·)
  | _ => none
theorem intsD_eq : ∀ {ds : List PyData} {ns : List Int}, intsD ds = some ns → ds = ns.map PyData.int
  | [], _, h => by cases h; rfl
  | .int i :: r, ns, h => by
    obtain ⟨ms, e, rfl⟩ := Option.map_eq_some_iff.mp h
    rw [intsD_eq e]; rfl
  | .none :: _, _, h => by simp [intsD] at h
  | .bool _ :: _, _, h => by simp [intsD] at h
  | .str _ :: _, _, h => by simp [intsD] at h
  | .list _ :: _, _, h => by simp [intsD] at h
  | .tuple _ :: _, _, h => by simp [intsD] at h
  | .dict _ :: _, _, h => by simp [intsD] at h
theorem fz_ints {K : PySem.W.Frag} {H : Hp} : ∀ {ns : List Int} {vs : List V}, FzAll K H vs (ns.map PyData.int) → vs = ns.map V.int
  | [], _, f => by cases f; rfl
  | n :: ns, _, f => by
    cases f with
    | cons h t => cases h; rw [fz_ints t]; rfl
theorem ints_fz {K : PySem.W.Frag} {H : Hp} : ∀ ns : List Int, FzAll K H (ns.map V.int) (ns.map PyData.int)
  | [] => .nil
  | n :: ns => .cons (.int n) (ints_fz ns)
def sortI (ns : List Int) : List Int := ns.mergeSort fun a b => decide (a ≤ b)
theorem sortI_perm (ns : List Int) : (sortI ns).Perm ns := List.mergeSort_perm _ _
theorem sortI_le (ns : List Int) : (sortI ns).Pairwise (· ≤ ·) := by
  have := List.pairwise_mergeSort (le := fun (a b : Int) => decide (a ≤ b)) (fun a b c h1 h2 => by simp at *; omega) (fun a b => by simp; omega) ns
  exact this.imp fun h => by simpa using h
theorem sortI_uniq {ns ms : List Int} (p : ms.Perm ns) (h : ms.Pairwise (· ≤ ·)) : ms = sortI ns :=
  List.Perm.eq_of_pairwise (le := (· ≤ ·)) (fun a b _ _ h1 h2 => Int.le_antisymm h1 h2) h (sortI_le ns) (p.trans (sortI_perm ns).symm)
section
variable {X : Cx} {B : Bs}
theorem callR_rest' {f : Value} {r : List V → Hp → VK → Prop} (h : CallR X f r) : CallR X f (fun xs H Q => r xs H fun v H' => ∃ a ys, v = .ref a ∧ H' a = some (.lst ys) ∧ ∀ o, Q v (upd H' a (.frz o (.lst ys)))) := by
  intro pins s σ H xs us Q I rx w
  refine thn (h pins s σ H xs us _ I rx w) fun u s1 ⟨v, H1, I1, r1, a, ys, ev, ea, q⟩ => ?_
  obtain ⟨o, I2⟩ := I1.lock ea True.intro
  exact ⟨v, _, I2, r1, q o⟩
def tupsD : List PyData → Option (List (List Int))
  | [] => some []
  | .tuple t :: r => (intsD t).bind fun ns => (tupsD r).map (ns :: ·)
  | _ => none
def tupI (ns : List Int) : PyData := .tuple (ns.map PyData.int)
theorem tupsD_eq : ∀ {ds : List PyData} {nss : List (List Int)}, tupsD ds = some nss → ds = nss.map tupI
  | [], _, h => by cases h; rfl
  | .tuple t :: r, ns, h => by
    obtain ⟨ms, e, h2⟩ := Option.bind_eq_some_iff.mp h
    obtain ⟨ks, e2, rfl⟩ := Option.map_eq_some_iff.mp h2
    rw [tupsD_eq e2, intsD_eq e]; rfl
  | .none :: _, _, h => by simp [tupsD] at h
  | .bool _ :: _, _, h => by simp [tupsD] at h
  | .str _ :: _, _, h => by simp [tupsD] at h
  | .list _ :: _, _, h => by simp [tupsD] at h
  | .int _ :: _, _, h => by simp [tupsD] at h
  | .dict _ :: _, _, h => by simp [tupsD] at h
abbrev bB : Int := 1048576
def okT (d : Nat) (ns : List Int) : Bool := ns.length == d && ns.all fun m => decide (0 ≤ m) && decide (m < bB)
theorem okT_inv {d : Nat} {ns : List Int} (h : okT d ns = true) : ns.length = d ∧ TS.Bd bB ns := by
  unfold okT at h
  rw [Bool.and_eq_true, List.all_eq_true] at h
  refine ⟨by simpa using h.1, fun m hm => ?_⟩
  have := h.2 m hm
  simpa using this
def sortT (nss : List (List Int)) : List (List Int) := nss.mergeSort fun a b => decide (TS.code bB a ≤ TS.code bB b)
theorem sortT_perm (nss : List (List Int)) : (sortT nss).Perm nss := List.mergeSort_perm _ _
theorem sortT_le (nss : List (List Int)) : (sortT nss).Pairwise fun a b => TS.code bB a ≤ TS.code bB b := by
  have := List.pairwise_mergeSort (le := fun (a b : List Int) => decide (TS.code bB a ≤ TS.code bB b)) (fun a b c h1 h2 => by simp at *; omega) (fun a b => by simp; omega) nss
  exact this.imp fun h => by simpa using h
theorem code_inj : ∀ {a b : List Int}, a.length = b.length → TS.Bd bB a → TS.Bd bB b → TS.code bB a = TS.code bB b → a = b
  | [], [], _, _, _, _ => rfl
  | [], _ :: _, h, _, _, _ => by simp at h
  | _ :: _, [], h, _, _, _ => by simp at h
  | x :: a, y :: b, hl, ha, hb, h => by
    have hl' : a.length = b.length := by simpa using hl
    have e : x = y := by
      rcases Int.lt_trichotomy x y with q | q | q
      · have := TS.code_lt hl' ha.tail hb.tail q; omega
      · exact q
      · have := TS.code_lt hl'.symm hb.tail ha.tail q; omega
    subst e
    have h2 : x * bB ^ a.length + TS.code bB a = x * bB ^ b.length + TS.code bB b := h
    rw [hl'] at h2
    rw [code_inj hl' ha.tail hb.tail (by omega)]
theorem sortT_uniq {d : Nat} {nss mss : List (List Int)} (hd : ∀ ns ∈ nss, okT d ns = true) (p : mss.Perm nss) (h : mss.Pairwise fun a b => TS.code bB a ≤ TS.code bB b) : mss = sortT nss := by
  refine List.Perm.eq_of_pairwise (le := fun a b => TS.code bB a ≤ TS.code bB b) (fun a b ha hb h1 h2 => ?_) h (sortT_le nss) (p.trans (sortT_perm nss).symm)
  obtain ⟨l1, b1⟩ := okT_inv (hd a (p.mem_iff.mp ha))
  obtain ⟨l2, b2⟩ := okT_inv (hd b ((sortT_perm nss).mem_iff.mp hb))
  exact code_inj (by omega) b1 b2 (Int.le_antisymm h1 h2)
theorem fz_tup {K : PySem.W.Frag} {H : Hp} {v : V} {ns : List Int} (f : Fz K H v (tupI ns)) : TupI K H v ns := by
  unfold tupI at f
  cases f with
  | tup sq f => exact ⟨_, rfl, by rw [← fz_ints f]; exact sq⟩
theorem perm_fz {K : PySem.W.Frag} {H : Hp} {xs ys : List V} (p : ys.Perm xs) : ∀ {nss : List (List Int)}, FzAll K H xs (nss.map tupI) → ∃ mss : List (List Int), mss.Perm nss ∧ FzAll K H ys (mss.map tupI) := by
  induction p with
  | nil => exact fun f => ⟨_, .refl _, f⟩
  | cons x p ih =>
    intro nss f
    cases nss with
    | nil => cases f
    | cons n nss =>
      cases f with
      | cons f1 f2 =>
        obtain ⟨mss, p2, f3⟩ := ih f2
        exact ⟨n :: mss, .cons n p2, .cons f1 f3⟩
  | swap x y l =>
    intro nss f
    match nss, f with
    | n :: m :: nss, .cons f1 (.cons f2 f3) => exact ⟨m :: n :: nss, .swap n m nss, .cons f2 (.cons f1 f3)⟩
  | trans p1 p2 ih1 ih2 =>
    intro nss f
    obtain ⟨mss, q1, g1⟩ := ih2 f
    obtain ⟨kss, q2, g2⟩ := ih1 g1
    exact ⟨kss, q2.trans q1, g2⟩
theorem mem_fz {K : PySem.W.Frag} {H : Hp} : ∀ {nss : List (List Int)} {xs : List V}, FzAll K H xs (nss.map tupI) → (∀ x ∈ xs, ∃ n ∈ nss, TupI K H x n) ∧ ∀ n ∈ nss, ∃ x ∈ xs, TupI K H x n
  | [], _, f => by cases f; exact ⟨fun _ h => by simp at h, fun _ h => by simp at h⟩
  | n :: nss, _, f => by
    cases f with
    | cons f1 f2 =>
      obtain ⟨h1, h2⟩ := mem_fz f2
      refine ⟨fun x hx => ?_, fun m hm => ?_⟩
      · rcases List.mem_cons.mp hx with rfl | hx
        · exact ⟨n, List.mem_cons_self, fz_tup f1⟩
        · obtain ⟨m, hm, t⟩ := h1 x hx; exact ⟨m, List.mem_cons_of_mem _ hm, t⟩
      · rcases List.mem_cons.mp hm with rfl | hm
        · exact ⟨_, List.mem_cons_self, fz_tup f1⟩
        · obtain ⟨x, hx, t⟩ := h2 m hm; exact ⟨x, List.mem_cons_of_mem _ hx, t⟩
theorem pair_fz {K : PySem.W.Frag} {H : Hp} : ∀ {nss : List (List Int)} {xs : List V}, FzAll K H xs (nss.map tupI) → xs.Pairwise (fun x y => ∀ n m, TupI K H x n → TupI K H y m → TS.code bB n ≤ TS.code bB m) → nss.Pairwise fun a b => TS.code bB a ≤ TS.code bB b
  | [], _, _, _ => .nil
  | n :: nss, _, f, h => by
    cases f with
    | cons f1 f2 =>
      rw [List.pairwise_cons] at h
      refine List.pairwise_cons.mpr ⟨fun m hm => ?_, pair_fz f2 h.2⟩
      obtain ⟨x, hx, t⟩ := (mem_fz f2).2 m hm
      exact h.1 x hx n m (fz_tup f1) t
def sortD (ds : List PyData) : Option (List PyData) := match intsD ds with
  | some ns => some ((sortI ns).map PyData.int)
  | none => match tupsD ds with
    | some nss => if nss.length < 64 ∧ ((nss.headD []).length ≥ 1 ∧ nss.all (okT (nss.headD []).length) = true) then some ((sortT nss).map tupI) else none
    | none => none
def rZSort : ZC1 := fun zs S Q => match zs with
  | [.d (.list ds)] => match sortD ds with
    | some es => Q (zl es) S
    | none => False
  | _ => False
theorem zsort : ZCl X (.builtin "sorted") rZSort := by
  constructor
  · intro zs S Q Q' q w
    unfold rZSort at *
    split at w
    · split at w
      · exact q _ _ w
      · exact w.elim
    · exact w.elim
  · rintro B pins s σ H vs us Q I r ⟨zs, S, rz, hS, w⟩
    unfold rZSort at w
    split at w
    · split at w
      · rename_i ds _ es e
        obtain ⟨v, rfl, hz⟩ := rzs1 rz
        cases hz with | d hz =>
        cases hz with | lst sq f =>
        rename_i a ws
        unfold sortD at e
        cases ei : intsD ds with
        | some ns =>
          rw [ei] at e
          cases e
          rw [intsD_eq ei] at f
          have ev := fz_ints f
          subst ev
          refine callR_rest' cr_sortedI pins s σ H _ us Q I r ⟨a, ns, rfl, sq.l, fun ms p hp hs hn => ?_⟩
          rw [sortI_uniq hp hs]
          exact rest_end hS (ints_fz _) w p hn
        | none =>
          rw [ei] at e
          cases et : tupsD ds with
          | none => rw [et] at e; cases e
          | some nss =>
            rw [et] at e
            simp only at e
            split at e
            · rename_i hc
              cases e
              rw [tupsD_eq et] at f
              have hd : ∀ ns ∈ nss, okT (nss.headD []).length ns = true := List.all_eq_true.mp hc.2.2
              refine callR_rest' (cr_sortT (B := bB) hc.2.1) pins s σ H _ us Q I r ⟨a, ws, rfl, sq.l, by rw [f.length, List.length_map]; exact hc.1, fun x hx => ?_, fun ys p hp hs hn => ?_⟩
              · obtain ⟨n, hn, t⟩ := (mem_fz f).1 x hx
                obtain ⟨l1, b1⟩ := okT_inv (hd n hn)
                exact ⟨n, t, l1, b1⟩
              · obtain ⟨mss, pm, fm⟩ := perm_fz hp f
                have eu := sortT_uniq hd pm (pair_fz fm hs)
                rw [eu] at fm
                exact rest_end hS fm w p hn
            · cases e
      · exact w.elim
    · exact w.elim
end
end ZL
namespace ZL
open PySem PySem.Spec PyProof.Rows L2
section
variable {X : Cx} {B : Bs}
def isNone : PyData → Bool
  | .none => true
  | _ => false
end
end ZL
namespace L2
open PySem PySem.Spec PyProof.Rows
theorem tuple_mul1 (l : Addr) (items : Array Value) (n : Nat) (dd : Option Addr) (sl : Array (Option Value)) (u : Tok) :
    Meets (Builtin.«tuple.__mul__» ⟨[.ref l, .int 1 u], []⟩) (fun _ R s => s.heap.get? l = some { cls := .type "tuple", dict := dd, data := .seq items n, slots := sl } ∧ R (.ok (.ret (.ref l))) s) :=
  .of_wp fun prog w A R s h => by
    obtain ⟨hp, g, d, tk, os⟩ := s
    obtain ⟨hl, h⟩ := h
    have f1 := AutoSeq1.idx_int
    have c0 : (decide ((1 : Int) < -(2 ^ 63)) || decide ((1 : Int) ≥ 2 ^ 63)) = false := by decide
    have c1 : (items.isEmpty || (1 : Int) == 1) = true := by simp
    wp_walk using wpAny_loadPart' hl
    repeat (first
      | (refine wpAny_ite_false (decide_eq_false (by rw [c0]; exact Bool.false_ne_true)) ?_; wp_walk using wpAny_loadPart' hl)
      | (refine wpAny_ite_true (decide_eq_true (by rw [c1])) ?_; wp_walk using wpAny_loadPart' hl))
    exact ⟨_, rfl, h⟩
def rRep1 (K : PySem.W.Frag) : R2 := fun x y H Q => ∃ l xs, x = .ref l ∧ y = .int 1 ∧ SqT K H l xs ∧ Q (.ref l) H
theorem op_rep1 {X : Cx} : OpR X (binaryOp .Mult) (rRep1 X.K) := by
  intro pins s σ H x y v u Q I rx ry h
  obtain ⟨l, xs, rfl, rfl, hT, q⟩ := h
  cases rx
  obtain ⟨t, rfl⟩ := ry
  obtain ⟨its, r, ⟨⟨cls, dd, data, sl⟩, ho, hc, n, hd⟩, hs⟩ := I.tuple hT
  simp only at hc hd
  subst hc hd
  refine wpAny_binaryOp_repeat_ref (T := "tuple") (U := "int") (by decide) ⟨_, ho, rfl⟩ (fun s' => typeIs_int s' 1 t) noFill_tuple_mul F.fills_int_mul F.slot_int_rmul repeat_tuple F.slot_int_index.lookup
    (call_meets F.slot_int_rmul (typeIs_int s 1 t) F.entry_int_rmul (F.args_int_rmul_2 _ _) (int_rmul_tuple 1 t l its.toArray n dd sl)
      ⟨ho, rfl, ⟨_, ho, rfl⟩, call_meets F.slot_tuple_mul ⟨_, ho, rfl⟩ F.entry_tuple_mul (F.args_tuple_mul_2 _ _) (tuple_mul1 l its.toArray n dd sl t) ⟨ho, ?_⟩⟩)
  exact ⟨.ref l, H, I, rfl, q⟩
end L2
namespace ZL
open PySem PySem.Spec PyProof.Rows L2
section
variable {X : Cx} {B : Bs}
def RepT (k : Int) (n : Nat) : Prop := 1 ≤ n ∧ 1 ≤ k ∧ k ≤ 1000 ∧ n ≤ 1000
def rZRepT : ZR2 := fun x y S Q => match x, y with
  | .d (.tuple a), .d (.int k) => RepT k a.length ∧ Q (zt (repD k.toNat a)) S
  | _, _ => False
theorem zrepT : ZOp X (binaryOp .Mult) rZRepT := by
  constructor
  · intro x y S Q Q' q w
    unfold rZRepT at *
    split at w
    · exact ⟨w.1, q _ _ w.2⟩
    · exact w.elim
  · rintro B pins s σ H x y v u Q I rx ry ⟨z1, z2, S, h1, h2, hS, w⟩
    unfold rZRepT at w
    split at w
    · rename_i ds k
      cases h1 with | d h1 =>
      cases h2 with | d h2 =>
      cases h2
      cases h1 with | tup sq f =>
      rename_i a xs
      obtain ⟨⟨w1, w2, w3, w4⟩, w⟩ := w
      have hl := f.length
      by_cases k1 : k = 1
      · subst k1
        refine op_rep1 pins s σ H _ _ v u Q I rx ry ⟨a, xs, rfl, rfl, sq, ?_⟩
        have e : repD (1 : Int).toNat ds = ds := by unfold repD; simp
        exact w _ H (.refl _ _) (.d (.tup sq (e.symm ▸ f))) hS
      refine op_repT pins s σ H _ _ v u Q I rx ry ⟨a, k, xs, rfl, rfl, sq, fun e => ?_, by omega, w3, by omega, fun p hp => ?_⟩
      · rw [e] at hl; simp at hl; omega
      · have sm : Same H (upd H p (.tup (List.replicate k.toNat xs).flatten)) := same_fresh hp
        exact w _ _ (step_same sm) (.d (.tup (SqT.of upd_same) ((f.rep k.toNat).le (.same sm)))) (hS.step (hS.1.same sm) (step_same sm))
    · exact w.elim
end
end ZL
namespace ZipW
open PySem
abbrev ZX (h : Heap) (z TI TO : Addr) (f0 f1 : Value) : Prop := h.get? z = some { cls := .type "zip", dict := none, data := .fields #[f0, f1, .bool false, .ref TI, .ref TO], slots := #[] }
inductive Own : Value → Value → Prop
  | free : Own .none (.bool false)
  | out (T : Addr) (b : Bool) : Own (rawInt T) (.bool b)
section
variable {prog : Program} {w : World} {A : Around} {E : Value → Shared → Prop} {s : Shared} {z TI TO i1 i2 : Addr} {fp1 fp2 : List Addr} {n1 n2 i : Nat} {P1 P2 : Nat → Value → Prop} {St1 St2 : Nat → Heap → Prop} {a1 a2 : Value}
end
end ZipW
namespace ZipW
open PySem
section
variable {prog : Program} {w : World} {A : Around} {E : Value → Shared → Prop} {s : Shared}
end
end ZipW
namespace ZL
open PySem PySem.Spec PyProof.Rows L2 ZipW
end ZL
namespace ZL
open PySem PySem.Spec PyProof.Rows L2
end ZL
namespace ZL
open PySem PySem.Spec PyProof.Rows L2
abbrev nox : Value → Shared → Prop := fun _ _ => False
abbrev asks (ifs : List Expr) (env : Env) : Sem Bool := forIn ifs true fun c r => if r = true then do let b ← isTrue c env (eval c env); pure (ForInStep.yield b) else pure (ForInStep.yield r)
abbrev okR (P : Shared → Prop) : Result → Shared → Prop := fun r s => match r with
  | .ok _ => P s
  | .error _ => False
structure LoopBy (M : Model) (A : Around) (e : Expr) (d : Nat) (tg : Expr) (ifs : List Expr) (acc : Value) (env : Env) (body : Sem Unit) : Prop where
  run : ∀ (I : Nat → Shared → Prop) (R : Shared → Prop) (it : Value), (∀ n s, I n s → wpAny M A (pyNext it) (fun r s1 => match r with
      | none => R s1
      | some v => wpAny M A (letOwnedTupleGo tg it v) (fun _ s2 => wpAny M A (assign tg env v) (fun _ s3 => wpAny M A (asks ifs env) (fun ok s4 =>
          if ok = true then wpAny M A body (fun _ s5 => ∃ m, m < n ∧ I m s5) nox s4 else ∃ m, m < n ∧ I m s4) nox s3) nox s2) nox s1) nox s) → ∀ n s, I n s → codeAny M A (.compLoop e d it acc env) (okR R) s
section
variable {prog : Program} {w : World} {A : Around} {e : Expr} {d : Nat} {tg : Expr} {ifs : List Expr} {acc : Value} {env : Env} {body : Sem Unit} {p : Pos}
abbrev turnF (p : Pos) (tg : Expr) (ifs : List Expr) (env : Env) (it : Value) (c : Code) (K : Sem Fin) : Sem Fin := standAt p >>= fun _ => pyNext it >>= fun r => match r with
  | none => pure (.done .next)
  | some v => letOwnedTupleGo tg it v >>= fun _ => assign tg env v >>= fun _ => asks ifs env >>= fun ok => if ok = true then K else again c
structure Laid (M : Model) (A : Around) (e : Expr) (d : Nat) (acc : Value) (env : Env) : Prop where
  q : ∀ it, (Code.compLoop e d it acc env).quiet = true
  u : ∀ it, A.under (.compLoop e d it acc env) = A
  m : ∀ it, M.den (.compLoop e d it acc env) = (compTurn e d it acc env).onRaise (fun x => do noteFrame x env; theTreesLotGoes x)
theorem loopBy {K : Value → Sem Fin} (hl : Laid (model prog w) A e d acc env) (ht : ∀ it, compTurn e d it acc env = turnF p tg ifs env it (.compLoop e d it acc env) (K it))
    (hK : ∀ it s (P : Shared → Prop) (E : Value → Shared → Prop), wpAny (model prog w) A body (fun _ s' => P s') nox s → wpAny (model prog w) A (K it) (fun f s' => f = .again (.compLoop e d it acc env) ∧ P s') E s) : LoopBy (model prog w) A e d tg ifs acc env body := by
  refine ⟨fun I R it turn n s h => codeAny_loop (hl.q it) I (fun n s hI => ?_) n h⟩
  rw [hl.u it, hl.m it]
  refine wpAny_noted ?_
  rw [ht it]
  refine wpAny_bind (wpAny_standAt (wpAny_bind (wpAny_mono (turn n s hI) (fun r s1 h1 => ?_) fun _ _ z => z.elim)))
  cases r with
  | none => exact wpAny_pure h1
  | some v =>
    refine wpAny_bind (wpAny_mono h1 (fun _ s2 h2 => wpAny_bind (wpAny_mono h2 (fun _ s3 h3 => wpAny_bind (wpAny_mono h3 (fun ok s4 h4 => ?_) fun _ _ z => z.elim)) fun _ _ z => z.elim)) fun _ _ z => z.elim)
    cases ok with
    | false => exact wpAny_pure ⟨rfl, h4⟩
    | true =>
      refine wpAny_mono (hK it s4 _ _ h4) (fun f s5 h5 => ?_) fun _ _ z => z
      obtain ⟨rfl, h5⟩ := h5
      exact ⟨rfl, h5⟩
theorem hK_emit {c : Value → Code} : ∀ (it : Value) (s : Shared) (P : Shared → Prop) (E : Value → Shared → Prop), wpAny (model prog w) A body (fun _ s' => P s') nox s → wpAny (model prog w) A (body >>= fun _ => again (c it)) (fun f s' => f = .again (c it) ∧ P s') E s := fun it s P E h =>
  wpAny_bind (wpAny_mono h (fun _ s' q => wpAny_pure ⟨rfl, q⟩) fun _ _ z => z.elim)
abbrev stepIn (e : Expr) (d : Nat) (iter : Expr) (acc : Value) (env : Env) (k : Sem α) : Sem α := eval iter env >>= fun x => standAt iter.pos >>= fun _ => foldedSetIterable iter env x >>= fun x => holding [x] (pyIter x) >>= fun j => runOwn (.compStart e d j acc env) env >>= fun _ => k
theorem hK_in {c : Value → Code} {iter : Expr} (d' : Nat) (hs : ∀ x, foldedSetIterable iter env x = pure x) : ∀ (it : Value) (s : Shared) (P : Shared → Prop) (E : Value → Shared → Prop), wpAny (model prog w) A (stepIn e d' iter acc env (pure ())) (fun _ s' => P s') nox s →
    wpAny (model prog w) A (stepIn e d' iter acc env (again (c it))) (fun f s' => f = .again (c it) ∧ P s') E s := fun it s P E h => by
  have e1 : stepIn e d' iter acc env (again (c it)) = (stepIn e d' iter acc env (pure ())) >>= fun _ => again (c it) := by
    unfold stepIn
    simp only [bind_assoc, pure_bind]
  rw [e1]
  exact wpAny_bind (wpAny_mono h (fun _ s' q => wpAny_pure ⟨rfl, q⟩) fun _ _ z => z.elim)
end
section
variable {prog : Program} {w : World} {A : Around} {acc : Value} {env : Env} {elt t0 i0 t1 i1 t2 i2 : Expr} {ifs0 ifs1 ifs2 : List Expr} {scope : Scope} {pos : Pos}
abbrev addS (elt : Expr) (env : Env) (acc : Value) : Sem Unit := do let v ← eval elt env; standAt elt.pos; let _ ← call (.builtin "set.add") [acc, v]
abbrev addL (elt : Expr) (env : Env) (acc : Value) : Sem Unit := do let _ ← call (.builtin "list.append") [acc, ← eval elt env]
theorem laidS {gs : List Comprehension} {d : Nat} : Laid (model prog w) A (.SetComp elt gs scope pos) d acc env := ⟨fun _ => rfl, fun _ => rfl, fun _ => rfl⟩
theorem laidL {gs : List Comprehension} {d : Nat} : Laid (model prog w) A (.ListComp elt gs scope pos) d acc env := ⟨fun _ => rfl, fun _ => rfl, fun _ => rfl⟩
theorem loopS2 : LoopBy (model prog w) A (.SetComp elt [⟨t0, i0, ifs0, 0⟩, ⟨t1, i1, ifs1, 0⟩] scope pos) 1 t1 ifs1 acc env (addS elt env acc) := loopBy laidS (p := i1.pos) (K := fun it => addS elt env acc >>= fun _ => again _) (fun _ => rfl) hK_emit
theorem loopL2 : LoopBy (model prog w) A (.ListComp elt [⟨t0, i0, ifs0, 0⟩, ⟨t1, i1, ifs1, 0⟩] scope pos) 1 t1 ifs1 acc env (addL elt env acc) := loopBy laidL (p := i1.pos) (K := fun it => addL elt env acc >>= fun _ => again _) (fun _ => rfl) hK_emit
theorem loopS2o (hs : ∀ x, foldedSetIterable i1 env x = pure x) : LoopBy (model prog w) A (.SetComp elt [⟨t0, i0, ifs0, 0⟩, ⟨t1, i1, ifs1, 0⟩] scope pos) 0 t0 ifs0 acc env (stepIn (.SetComp elt [⟨t0, i0, ifs0, 0⟩, ⟨t1, i1, ifs1, 0⟩] scope pos) 1 i1 acc env (pure ())) :=
  loopBy laidS (p := i0.pos) (K := fun it => stepIn _ 1 i1 acc env (again _)) (fun _ => rfl) (hK_in 1 hs)
theorem loopL2o (hs : ∀ x, foldedSetIterable i1 env x = pure x) : LoopBy (model prog w) A (.ListComp elt [⟨t0, i0, ifs0, 0⟩, ⟨t1, i1, ifs1, 0⟩] scope pos) 0 t0 ifs0 acc env (stepIn (.ListComp elt [⟨t0, i0, ifs0, 0⟩, ⟨t1, i1, ifs1, 0⟩] scope pos) 1 i1 acc env (pure ())) :=
  loopBy laidL (p := i0.pos) (K := fun it => stepIn _ 1 i1 acc env (again _)) (fun _ => rfl) (hK_in 1 hs)
structure StartBy (M : Model) (A : Around) (e : Expr) (d : Nat) (acc : Value) (env : Env) : Prop where
  run : ∀ (R : Result → Shared → Prop) (it : Value) (s : Shared), codeAny M A (.compLoop e d it acc env) R s → wpAny M A (pyIter it) (fun j s' => codeAny M A (.compLoop e d j acc env) R s') nox s → codeAny M A (.compStart e d it acc env) R s
theorem startBy {e : Expr} {d : Nat} {g : Comprehension} (ga : g.is_async = 0) (hc : (clausesOf e)[d]? = some g) (hq : ∀ it, (Code.compLoop e d it acc env).quiet = true) (hu : ∀ it, A.under (.compStart e d it acc env) = A) (hm : ∀ it, (model prog w).den (.compStart e d it acc env) = (compStart e d it acc env).onRaise (fun x => do noteFrame x env; standAt theWindowsPlace)) : StartBy (model prog w) A e d acc env := by
  refine ⟨fun R it s h0 h => codeAny_of_tree ?_⟩
  rw [hu it, hm it]
  refine wpAny_notedAt ?_
  unfold compStart
  rw [hc]
  simp only [Option.elim, ga, bne_self_eq_false, Bool.false_eq_true, if_false]
  refine wpAny_bind (wpAny_askSetting (wpAny_ite ?_))
  split
  · first
      | exact wpAny_bind (wpAny_pure (wpAny_pure ⟨hq it, h0⟩))
      | exact wpAny_pure ⟨hq it, h0⟩
  · refine wpAny_bind (wpAny_rule ?_)
    refine wpAny_bind (wpAny_standAt (wpAny_bind (wpAny_mono h (fun j s' h' => wpAny_pure ⟨hq j, h'⟩) fun _ _ z => z.elim)))
theorem startS {gs : List Comprehension} {d : Nat} {g : Comprehension} (ga : g.is_async = 0) (hc : gs[d]? = some g) : StartBy (model prog w) A (.SetComp elt gs scope pos) d acc env := startBy ga hc (fun _ => rfl) (fun _ => rfl) fun _ => rfl
theorem startL {gs : List Comprehension} {d : Nat} {g : Comprehension} (ga : g.is_async = 0) (hc : gs[d]? = some g) : StartBy (model prog w) A (.ListComp elt gs scope pos) d acc env := startBy ga hc (fun _ => rfl) (fun _ => rfl) fun _ => rfl
end
end ZL
namespace ZL
open PySem PySem.Spec PyProof.Rows L2
abbrev TL := L2.St → Hp → (Hp → Prop) → Prop
structure Lv (X : Cx) (b : Sem Unit) (vs : List Nat) (t : TL) : Prop where
  run : ∀ (pins : List (Addr × Obj)) (s : Shared) (σ : L2.St) (H : Hp) (N : Hp → Prop), Inv X pins σ H s → t σ H N → wpAny (model X.prog X.w) X.A b (fun _ s' => ∃ H', Inv X pins (wipe σ vs) H' s' ∧ N H') nox s
theorem Lv.imp {X : Cx} {b : Sem Unit} {vs : List Nat} {t t' : TL} (h : Lv X b vs t) (q : ∀ σ H N, t' σ H N → t σ H N) : Lv X b vs t' := ⟨fun pins s σ H N I w => h.run pins s σ H N I (q σ H N w)⟩
def Turns (J : It) (g : TG) (tt : TT) (t1 : TL) (vs : List Nat) (σ : L2.St) (W : Nat → Nat → Hp → Prop) (N : Hp → Prop) : Prop := ∀ i m H, W i m H → (J.stop i H ∧ N H) ∨
  (J.go i H ∧ ∃ N1 : Hp → Prop, (∀ H', N1 H' → ∃ m', m' < m ∧ W (i + 1) m' H') ∧ ∀ x H', J.yld i H x H' → g x (wipe σ vs) H' fun σ2 H2 => wipe σ2 vs = wipe σ vs ∧ tt σ2 H2 fun b H3 => if b = true then t1 σ2 H3 N1 else N1 H3)
def tGen (wi : TI) (g : TG) (tt : TT) (t1 : TL) (vs : List Nat) : TL := fun σ H N => wi σ H fun J H1 => ∃ W : Nat → Nat → Hp → Prop, (∃ m, W 0 m H1) ∧ Turns J g tt t1 vs σ W N
section
variable {X : Cx} {e : Expr} {d : Nat} {tg iter : Expr} {ifs : List Expr} {acc : Value} {body : Sem Unit} {wi : TI} {g : TG} {tt : TT} {t1 : TL} {vs vs1 : List Nat}
theorem walk_loop (hx : X.xe = nox) (hc : X.calm = true) (L : LoopBy (model X.prog X.w) X.A e d tg ifs acc X.env body) (pg : PG X tg g) (pt : PTs X ifs tt) (lv : Lv X body vs1 t1) (hv : ∀ i ∈ vs1, i ∈ vs)
    {J : It} {fp : List Addr} {it : Addr} {tn : Nat → Heap → Prop} (T : Turn X.prog X.w X.K tg J fp it tn) {pins : List (Addr × Obj)} {σ : L2.St} {N : Hp → Prop} {W : Nat → Nat → Hp → Prop}
    (stat : ∀ s' H', Inv X pins (wipe σ vs) H' s' → (∀ b ∈ fp, H' b = none) → ∀ b ∈ fp, FpOk X pins H' b) (turn : Turns J g tt t1 vs σ W N)
    {s : Shared} {H : Hp} {m0 : Nat} (I : Inv X pins (wipe σ vs) H s) (st : tn 0 s.heap) (nf : ∀ b ∈ fp, H b = none) (w0 : W 0 m0 H) :
    codeAny (model X.prog X.w) X.A (.compLoop e d (.ref it) acc X.env) (okR fun s' => ∃ H', Inv X pins (wipe σ vs) H' s' ∧ N H') s := by
  refine L.run (fun n s' => ∃ i H', Inv X pins (wipe σ vs) H' s' ∧ tn i s'.heap ∧ (∀ b ∈ fp, H' b = none) ∧ W i n H') _ (.ref it) ?_ m0 s ⟨0, H, I, st, nf, w0⟩
  rintro n s5 ⟨i, H5, I5, st5, n5, w5⟩
  rcases turn i n H5 w5 with ⟨stop, qq⟩ | ⟨go, N1, hN1, step⟩
  · refine wpAny_mono (T.done X rfl rfl rfl hc i pins s5 _ H5 nox I5 (stat _ _ I5 n5) st5 stop) (fun r s6 h => ?_) fun _ _ z => z
    obtain ⟨rfl, I6⟩ := h
    exact ⟨H5, I6, qq⟩
  · refine wpAny_mono (T.item X rfl rfl rfl hc i pins s5 _ H5 nox I5 (stat _ _ I5 n5) st5 go) (fun r s6 h => ?_) fun _ _ z => z
    obtain ⟨u, rfl, h6⟩ := h
    refine wpAny_mono h6 (fun _ s7 h7 => ?_) fun _ _ z => z
    obtain ⟨x, H7, I7, r7, y7, st7, n7⟩ := h7
    have p1 := pg.run _ s7 _ H7 x u _ (I7.pinned (stat _ _ I7 n7) (T.obj _ _ st7)) r7 (step x H7 y7)
    rw [hx] at p1
    refine wpAny_mono p1 (fun _ s8 h8 => ?_) fun _ _ z => z
    obtain ⟨σ8, H8, I8, hw8, q8⟩ := h8
    have p2 := pt.run _ s8 σ8 H8 _ I8 q8
    rw [hx] at p2
    refine wpAny_mono p2 (fun b s9 h9 => ?_) fun _ _ z => z
    obtain ⟨H9, I9, q9⟩ := h9
    have back : ∀ {σ9 : L2.St} {s' : Shared} {H' : Hp}, Inv X (pins ++ pinsAt fp s7.heap) σ9 H' s' → (wipe σ vs).length = σ9.length → (∀ (j : Nat) v, (wipe σ vs)[j]? = some (some v) → σ9[j]? = some (some v)) → N1 H' →
        ∃ m, m < n ∧ ∃ i H', Inv X pins (wipe σ vs) H' s' ∧ tn i s'.heap ∧ (∀ b ∈ fp, H' b = none) ∧ W i m H' := by
      intro σ9 s' H' I' hl hk nx
      obtain ⟨m', hm, w'⟩ := hN1 H' nx
      have held : ∀ b ∈ fp, ∀ o, s7.heap.get? b = some o → s'.heap.get? b = some o ∧ H' b = none := by
        intro b hb o eo
        have z := I'.pin (b, o) (List.mem_append_right _ (List.mem_append_right _ (mem_pinsAt hb eo)))
        exact ⟨z.1, z.2.1⟩
      refine ⟨m', hm, i + 1, H', I'.unpinned.weak hl hk, T.keep _ _ _ st7 (fun b hb o eo => (held b hb o eo).1), fun b hb => ?_, w'⟩
      obtain ⟨o, eo, _⟩ := T.obj _ _ st7 b hb
      exact (held b hb o eo).2
    have hl8 : (wipe σ vs).length = σ8.length := by rw [← hw8, wipe_length]
    cases b with
    | false =>
      simp only [Bool.false_eq_true, if_false] at q9 ⊢
      refine back I9 hl8 (fun j v ej => ?_) q9
      rw [← hw8] at ej
      exact (wipe_some ej).1
    | true =>
      simp only [if_true] at q9 ⊢
      refine wpAny_mono (lv.run _ s9 σ8 H9 _ I9 q9) (fun _ s10 h10 => ?_) fun _ _ z => z
      obtain ⟨H10, I10, nx⟩ := h10
      refine back I10 (hl8.trans (wipe_length σ8 vs1).symm) (fun j v ej => ?_) nx
      rw [← hw8] at ej
      obtain ⟨e1, e2⟩ := wipe_some ej
      rw [wipe_out fun z => e2 (hv j z)]
      exact e1
theorem lv_gen (hx : X.xe = nox) (hc : X.calm = true) (hi : PI X tg iter wi) (S : StartBy (model X.prog X.w) X.A e d acc X.env) (L : LoopBy (model X.prog X.w) X.A e d tg ifs acc X.env body) (pg : PG X tg g) (pt : PTs X ifs tt) (lv : Lv X body vs1 t1) (hv : ∀ i ∈ vs1, i ∈ vs)
    (hs : ∀ x, foldedSetIterable iter X.env x = pure x) : Lv X (stepIn e d iter acc X.env (pure ())) vs (tGen wi g tt t1 vs) := by
  refine ⟨fun pins s σ H N I h => ?_⟩
  have p1 := hi.run pins s σ H _ I h
  rw [hx] at p1
  refine wpAny_bind (wpAny_mono p1 (fun xv s1 h1 => ?_) fun _ _ z => z)
  refine wpAny_bind (wpAny_standAt (wpAny_bind (wpAny_of_eq (hs xv) (wpAny_bind (wpAny_holding (wpAny_mono h1 (fun j s2 h2 => ?_) fun _ _ z => z))))))
  obtain ⟨it, fp, tn, J, H2, rfl, I2, T, st2, f2, W, ⟨m0, w0⟩, turn⟩ := h2
  have loop := walk_loop hx hc L pg pt lv hv T (N := N) (W := W) (fun s' H' I' hn b hb => ⟨hn b hb, (f2 b hb).2⟩) turn (I2.weak (wipe_length σ vs) fun j v ej => (wipe_some ej).1) st2 (fun b hb => (f2 b hb).1) w0
  refine wpAny_bind (wpAny_runOwn ?_)
  rw [Around.mark_none]
  refine codeAny_mono (S.run _ _ _ loop (T.self X.A 0 _ _ _ st2 loop)) fun r s' hr => ?_
  cases r with
  | ok f =>
    first
      | exact wpAny_pure hr
      | exact wpAny_bind (wpAny_pure (wpAny_pure hr))
  | error z => exact hr.elim
end
def tCore (wi : TI) (g : TG) (tt : TT) (t1 : Addr → TL) (vs : List Nat) (o0 : Addr → HO) : TE := fun σ H Q => wi σ H fun J H1 => ∀ D, H1 D = none → ∃ W : Nat → Nat → Hp → Prop, (∃ m, W 0 m (upd H1 D (o0 D))) ∧ Turns J g tt (t1 D) vs σ W fun H' => Q (.ref D) H'
section
variable {X : Cx}
theorem blk_core {pins : List (Addr × Obj)} {s : Shared} {σ : L2.St} {H : Hp} {Q : VK} {e tg iter : Expr} {ifs : List Expr} {gs : List Comprehension} {scope : Scope} {own : List (Str × Nat)} {vs1 : List Nat} {pos' : Pos} {wi : TI} {g : TG} {tt : TT} {t1 : Addr → TL} {use : Option (Value → Sem Unit)} {Qf : Value → Shared → Prop}
    {mk : Sem Value} {ob : Obj} {o0 : Addr → HO} {body : Value → Env → Sem Unit}
    (hcl : clausesOf e = ⟨tg, iter, ifs, 0⟩ :: gs)
    (hmk : ∀ (E : Value → Shared → Prop) (s : Shared) (Q : Value → Shared → Prop), Q (.ref s.heap.objs.size) { s with heap := s.heap.push ob } → wpAny (model X.prog X.w) X.A mk Q E s)
    (hob : ∀ (H : Hp) (h : Heap), ObjOk X.prog X.w (upd H h.objs.size (o0 h.objs.size)) (h.push ob) h.objs.size (o0 h.objs.size))
    (hc : X.calm = true) (hN : X.N.Nodup) (I : Inv X pins σ H s) (hi : PI X tg iter wi) (ok : BlkOk X.N X.env.scope scope own) (hv : ∀ i ∈ vs1, i ∈ own.map (·.2))
    (hS : ∀ acc env, StartBy (model X.prog X.w) X.A e 0 acc env) (hL : Blk X scope fun X => ∀ acc, LoopBy (model X.prog X.w) X.A e 0 tg ifs acc X.env (body acc X.env))
    (hg : Blk X scope fun X => PG X tg g) (ht : Blk X scope fun X => PTs X ifs tt) (hl : Blk X scope fun X => ∀ D, Lv X (body (.ref D) X.env) vs1 (t1 D)) (hs : ∀ x, foldedSetIterable iter X.env x = pure x)
    (h : tCore wi g tt t1 (own.map (·.2)) o0 σ H Q)
    (hRR : ∀ D C s' m H', Inv X pins σ H' s' → Q (.ref D) H' → s'.heap.Ns C m → FpOk X pins H' C → compPost (model X.prog X.w) X.A X.xe use Qf (.ref D) C (.ok .next) s') :
    wpAny (model X.prog X.w) X.A (comprehension e scope X.env pos' mk false (eval iter X.env) use) Qf X.xe s := by
  have hfree : ∀ y ∈ scope.names, y.2 = .free → ∃ c, X.env.cells.lookup y.1 = some c := by
    intro y hy ey
    rcases ok.free y hy ey with k | k
    · exact I.ok.has _ (.inl k)
    · exact I.ok.has _ (.inr k)
  refine wpAny_comprehension_free (use := use) hcl hs (closure_ok hfree) ok.kind (fun y hy ey => by rw [ok.uniq y hy, ey]) (thn (hi.run pins s σ H _ I h) fun xv s1 hx => thn hx fun itv s2 h2 => ?_)
  obtain ⟨it, fp, tn, J, H2, rfl, I2, T, st2, f2, q⟩ := h2
  refine hmk _ _ _ (newEnv_comp ?_)
  generalize hD : s2.heap.objs.size = D
  obtain ⟨W, ⟨m0, w0⟩, turn⟩ := q D (I2.hok.fresh (Nat.le_of_eq hD))
  generalize hs3 : ({ s2 with heap := s2.heap.push ob } : Shared) = s3
  have h3 : s3.heap = s2.heap.push ob := by rw [← hs3]
  have I3 : Inv X pins σ (upd H2 D (o0 D)) s3 := by
    rw [← hs3]
    refine I2.laid (t' := s2.toks) (fun b o eb => Heap.get?_push_of_some _ eb) (Nat.le_of_eq hD) ?_
    rw [← hD]
    exact hob _ _
  have f3 : ∀ b ∈ fp, FpOk X pins (upd H2 D (o0 D)) b ∧ b < s3.heap.objs.size := by
    intro b hb
    obtain ⟨o, eb, _⟩ := T.obj _ _ st2 b hb
    have hlt := Heap.lt_size eb
    have hne : b ≠ D := by rw [← hD]; exact Nat.ne_of_lt hlt
    refine ⟨⟨?_, (f2 b hb).2⟩, by rw [h3, Heap.size_push]; exact Nat.lt_succ_of_lt hlt⟩
    rw [upd_ne hne]
    exact (f2 b hb).1
  have st3 : tn 0 s3.heap := T.keep _ _ _ st2 fun b _ o eb => by rw [h3]; exact Heap.get?_push_of_some _ eb
  have I4 := block_start I3 ok hN f3
  generalize hcells : cellsFrom (s3.heap.objs.size + 1) scope.names (cloFrom X.env.cells scope.names []) = cl at I4
  have pL := hL s3 (upd H2 D (o0 D)) s3.heap.objs.size cl fp (.ref D)
  have pg := hg s3 (upd H2 D (o0 D)) s3.heap.objs.size cl fp
  have pt := ht s3 (upd H2 D (o0 D)) s3.heap.objs.size cl fp
  have pl := hl s3 (upd H2 D (o0 D)) s3.heap.objs.size cl fp D
  have go : codeAny (model X.prog X.w) X.A (.compStart e 0 (.ref it) (.ref D) (compEnvC scope cl s3.heap.objs.size X.env)) (compPost (model X.prog X.w) X.A X.xe use Qf (.ref D) s3.heap.objs.size) { s3 with heap := pushCells (s3.heap.push { cls := .type "dict", data := .dict #[] }) scope.names } := by
    generalize hce : compEnvC scope cl s3.heap.objs.size X.env = ce at I4 pL pg pt pl ⊢
    have cL : ce.locals = s3.heap.objs.size := by subst hce; rfl
    generalize hH3 : upd H2 D (o0 D) = H3 at I3 I4 pL pg pt pl w0 f3
    generalize hs4 : ({ s3 with heap := pushCells (s3.heap.push { cls := .type "dict", data := .dict #[] }) scope.names } : Shared) = s4 at I4 ⊢
    have st4 : tn 0 s4.heap := T.keep _ _ _ st3 fun b _ o eb => by rw [← hs4]; exact pushCells_keeps _ _ _ _ (Heap.get?_push_of_some _ eb)
    have loop := walk_loop (X := X.blk s3 H3 scope ce fp) rfl hc pL pg pt pl hv T (pins := []) (σ := σ) (N := fun H' => Q (.ref D) H') (W := W)
      (fun s' H' I' hn b hb => ⟨hn b hb, (I'.ok.exf b hb).1, I'.ok.exfs b hb, .inl hb, fun x c ec => (I'.ok.exf b hb).2 x c ec, fun p hp => absurd (show p ∈ ([] : List (Addr × Obj)) ++ [] from hp) (by simp)⟩) turn I4 st4 (fun b hb => (f3 b hb).1.1) w0
    refine codeAny_mono ((hS (.ref D) ce).run _ _ _ loop (T.self X.A 0 _ _ _ st4 loop)) fun r s6 hr => ?_
    cases r with
    | error z => exact hr.elim
    | ok f =>
      obtain ⟨H5, I6, qq⟩ := hr
      have I7 : Inv X pins σ H5 s6 := I3.call' (ch := fp) I6.os I6.base I6.hok I6.bare fun b hb => by
        obtain ⟨⟨_, z1, z2, z3, z4, z5⟩, _⟩ := f3 b hb
        exact ⟨z3, z1, z4, z5⟩
      have nC : H5 s3.heap.objs.size = none := by
        have z : H5 ce.locals = none := I6.free
        rw [cL] at z
        exact z
      obtain ⟨m, hn, _⟩ := I6.loc
      have hn : s6.heap.Ns ce.locals m := hn
      rw [cL] at hn
      have fin := hRR D s3.heap.objs.size s6 m H5 I7 qq hn (I3.fpOk (Nat.le_refl _) nC)
      cases use <;> exact fin
  exact go
theorem pe_core {e tg iter : Expr} {ifs : List Expr} {gs : List Comprehension} {scope : Scope} {own : List (Str × Nat)} {vs1 : List Nat} {pos' : Pos} {wi : TI} {g : TG} {tt : TT} {t1 : Addr → TL} {mk : Sem Value} {ob : Obj} {o0 : Addr → HO} {body : Value → Env → Sem Unit}
    (hev : eval e X.env = comprehension e scope X.env pos' mk false (eval iter X.env)) (hcl : clausesOf e = ⟨tg, iter, ifs, 0⟩ :: gs)
    (hmk : ∀ (E : Value → Shared → Prop) (s : Shared) (Q : Value → Shared → Prop), Q (.ref s.heap.objs.size) { s with heap := s.heap.push ob } → wpAny (model X.prog X.w) X.A mk Q E s)
    (hob : ∀ (H : Hp) (h : Heap), ObjOk X.prog X.w (upd H h.objs.size (o0 h.objs.size)) (h.push ob) h.objs.size (o0 h.objs.size))
    (hc : X.calm = true) (hN : X.N.Nodup) (hi : PI X tg iter wi) (ok : BlkOk X.N X.env.scope scope own) (hv : ∀ i ∈ vs1, i ∈ own.map (·.2))
    (hS : ∀ acc env, StartBy (model X.prog X.w) X.A e 0 acc env) (hL : Blk X scope fun X => ∀ acc, LoopBy (model X.prog X.w) X.A e 0 tg ifs acc X.env (body acc X.env))
    (hg : Blk X scope fun X => PG X tg g) (ht : Blk X scope fun X => PTs X ifs tt) (hl : Blk X scope fun X => ∀ D, Lv X (body (.ref D) X.env) vs1 (t1 D)) (hs : ∀ x, foldedSetIterable iter X.env x = pure x) :
    PE X e (tCore wi g tt t1 (own.map (·.2)) o0) := by
  refine ⟨fun pins s σ H Q I h => ?_⟩
  rw [hev]
  refine blk_core (use := none) hcl hmk hob hc hN I hi ok hv hS hL hg ht hl hs h fun D C s' m H' I' q hn f => ⟨m, hn, fun h'' sb => ?_⟩
  obtain ⟨f0, f1, f2, f3, f4, f5⟩ := f
  exact ⟨.ref D, H', I'.turned (t' := s'.toks) (fun b o hb eb => (sb.2 b hb).trans eb) f0 f1 f3 f4 f5, rfl, q⟩
end
end ZL
namespace ZL
open PySem PySem.Spec PyProof.Rows L2
def StepD (D : Addr) (S S' : Sto) (H H' : Hp) : Prop := ∀ b o, b ≠ D → H b = some o → S b = none → H' b = some o ∧ S' b = none
theorem StepD.refl (D : Addr) (S : Sto) (H : Hp) : StepD D S S H H := fun _ _ _ h n => ⟨h, n⟩
theorem StepD.trans {D : Addr} {S S1 S2 : Sto} {H H1 H2 : Hp} (a : StepD D S S1 H H1) (b : StepD D S1 S2 H1 H2) : StepD D S S2 H H2 := fun c o ne h e => let ⟨h1, e1⟩ := a c o ne h e; b c o ne h1 e1
theorem Step.d {D : Addr} {S S' : Sto} {H H' : Hp} (a : Step S S' H H') : StepD D S S' H H' := fun b o _ h e => a b o h e
abbrev AcT := Hp → List PyData → Prop
structure AcOk (D : Addr) (Ac : AcT) : Prop where
  le : ∀ {H H' acc}, Ac H acc → H' D = H D → Le H H' → Ac H' acc
  no : ∀ {H acc}, Ac H acc → ∃ o, H D = some o ∧ (∀ xs, o ≠ .tup xs) ∧ (∀ ob u, o ≠ .frz ob u) ∧ (∀ ps, o ≠ .tbl ps) ∧ ∀ q, o ≠ LamX.CodeO D q
section
variable {K : PySem.W.Frag} {B : Bs} {D : Addr} {Ac : AcT} {S S' : Sto} {H H' : Hp} {acc : List PyData}
theorem AcOk.step (A : AcOk D Ac) (a : Ac H acc) (r : RS0 K S H) (n : S D = none) (st : Step S S' H H') : Ac H' acc ∧ S' D = none := by
  obtain ⟨o, e, _⟩ := A.no a
  obtain ⟨e1, e2⟩ := st D o e n
  exact ⟨A.le a (e1.trans e.symm) (st.le r), e2⟩
theorem AcOk.leD (A : AcOk D Ac) (a : Ac H acc) (r : RS0 K S H) (st : StepD D S S' H H') : Le H H' := by
  obtain ⟨o, e, h1, h2, _, _⟩ := A.no a
  refine ⟨fun b xs h => ?_, fun b ob u h => ?_⟩
  · have ne : b ≠ D := fun z => by subst z; rw [e] at h; exact h1 xs (Option.some.inj h)
    exact (st b _ ne h (r.notin h fun _ z => nomatch z)).1
  · have ne : b ≠ D := fun z => by subst z; rw [e] at h; exact h2 ob u (Option.some.inj h)
    exact (st b _ ne h (r.notin h fun _ z => nomatch z)).1
def OutD (B : Bs) (D : Addr) : Prop := ∀ u, B.H0 D = some u → B.S0 D = none → False
theorem poke_rs (A : AcOk D Ac) (a : Ac H acc) (r : RS K B S H) (n : S D = none) (out : OutD B D) (o : HO) : RS K B S (upd H D o) ∧ Le H (upd H D o) := by
  obtain ⟨o0, e, h1, h2, h3, h4⟩ := A.no a
  have ln : Ln H (upd H D o) := .but e h1 h2 h3 h4
  refine ⟨⟨fun b c ec => ?_, r.2.poke out⟩, ln.le⟩
  have ne : b ≠ D := fun z => by subst z; rw [n] at ec; cases ec
  refine (r.1 b c ec).all ec ln (fun x xs hb q => ?_) fun _ _ q => q
  rw [upd_ne fun z => by subst z; exact hb n]; exact q
end
abbrev ZV := ZEnv → Sto → List PyData → (List PyData → Sto → Prop) → Prop
def lowV (K : PySem.W.Frag) (B : Bs) (D : Addr) (Ac : AcT) (zv : ZV) : TL := fun σ H N => ∃ ρ S acc, RE K H ρ σ ∧ RS K B S H ∧ S D = none ∧ OutD B D ∧ Ac H acc ∧
  zv ρ S acc fun acc' S' => ∀ H', StepD D S S' H H' → RS K B S' H' → S' D = none → Ac H' acc' → N H'
structure ZLv (X : Cx) (B : Bs) (b : Sem Unit) (D : Addr) (Ac : AcT) (vs : List Nat) (zv : ZV) : Prop where
  mono : ∀ {ρ S acc} {N N' : List PyData → Sto → Prop}, (∀ a s, N a s → N' a s) → zv ρ S acc N → zv ρ S acc N'
  lv : Lv X b vs (lowV X.K B D Ac zv)
def zvElt (ok : List PyData → Prop) (te : ZT) : ZV := fun ρ S acc N => te ρ S fun y S1 => match y with
  | .d d => ok (acc ++ [d]) ∧ N (acc ++ [d]) S1
  | _ => False
def Puts (X : Cx) (D : Addr) (Ac : AcT) (ok : List PyData → Prop) (id : String) : Prop := ∀ (pins : List (Addr × Obj)) (σ : L2.St) (H : Hp) (s : Shared) (acc : List PyData) (d : PyData) (v : V) (u : Value), Inv X pins σ H s → Ac H acc → RelV v u → Fz X.K H v d → ok (acc ++ [d]) →
  wpAny (model X.prog X.w) X.A (call (.builtin id) [.ref D, u]) (fun _ s' => ∃ o, Inv X pins σ (upd H D o) s' ∧ Ac (upd H D o) (acc ++ [d])) nox s
section
variable {X : Cx} {B : Bs} {D : Addr} {Ac : AcT} {ok : List PyData → Prop} {elt : Expr} {te : ZT}
theorem zlv_elt (hx : X.xe = nox) (A : AcOk D Ac) {id : String} (P : Puts X D Ac ok id) (he : ZE X B elt te) {b : Sem Unit}
    (hb : ∀ (s : Shared) (Q : Shared → Prop), wpAny (model X.prog X.w) X.A (eval elt X.env) (fun u s1 => wpAny (model X.prog X.w) X.A (call (.builtin id) [.ref D, u]) (fun _ s2 => Q s2) nox s1) nox s → wpAny (model X.prog X.w) X.A b (fun _ s2 => Q s2) nox s) : ZLv X B b D Ac [] (zvElt ok te) := by
  refine ⟨fun {ρ S acc N N'} q w => he.mono (fun y S1 h => ?_) w, ⟨fun pins s σ H N I h => hb s _ ?_⟩⟩
  · split at h
    · exact ⟨h.1, q _ _ h.2⟩
    · exact h.elim
  · obtain ⟨ρ, S, acc, hE, hS, nS, out, a, w⟩ := h
    have p1 := he.pe.run pins s σ H (fun v H1 => ∃ d S1, Fz X.K H1 v d ∧ Step S S1 H H1 ∧ RS X.K B S1 H1 ∧ ok (acc ++ [d]) ∧ ∀ H', StepD D S S1 H H' → RS X.K B S1 H' → S1 D = none → Ac H' (acc ++ [d]) → N H') I ⟨ρ, S, hE, hS, he.mono (fun y S1 h v H1 st rz rs => ?_) w⟩
    · rw [hx] at p1
      refine wpAny_mono p1 (fun u s1 h1 => ?_) fun _ _ z => z
      obtain ⟨v, H1, I1, r1, d, S1, fz, st, rs, hk, nx⟩ := h1
      obtain ⟨a1, n1⟩ := A.step a hS.1 nS st
      refine wpAny_mono (P pins σ H1 s1 acc d v u I1 a1 r1 fz hk) (fun _ s2 h2 => ?_) fun _ _ z => z
      obtain ⟨o, I2, a2⟩ := h2
      refine ⟨_, I2, nx _ (fun b ob ne hb nb => ?_) (poke_rs A a1 rs n1 out o).1 n1 a2⟩
      rw [upd_ne ne]
      exact st b ob hb nb
    · split at h
      · cases rz with | d rz => exact ⟨_, S1, rz, st, rs, h.1, h.2⟩
      · exact h.elim
theorem zlv_eltS (hx : X.xe = nox) (A : AcOk D Ac) (P : Puts X D Ac ok "set.add") (he : ZE X B elt te) : ZLv X B (addS elt X.env (.ref D)) D Ac [] (zvElt ok te) :=
  zlv_elt hx A P he fun s Q h => wpAny_bind (wpAny_mono h (fun u s1 h1 => wpAny_bind (wpAny_standAt (wpAny_bind (wpAny_mono h1 (fun _ s2 h2 => wpAny_pure h2) fun _ _ z => z)))) fun _ _ z => z)
theorem zlv_eltL (hx : X.xe = nox) (A : AcOk D Ac) (P : Puts X D Ac ok "list.append") (he : ZE X B elt te) : ZLv X B (addL elt X.env (.ref D)) D Ac [] (zvElt ok te) :=
  zlv_elt hx A P he fun s Q h => wpAny_bind (wpAny_mono h (fun u s1 h1 => wpAny_bind (wpAny_mono h1 (fun _ s2 h2 => wpAny_pure h2) fun _ _ z => z)) fun _ _ z => z)
end
structure GenR (g : ZG) (tt : ZB) (zv1 : ZV) (vs : List Nat) (ρ : ZEnv) (acc0 : List PyData) (N : List PyData → Sto → Prop) (xs : List PyData) (l : List (Addr × List PyData)) (S1 : Sto) : Prop where
  ex : ∃ I : Nat → List PyData → Sto → Prop, I 0 acc0 S1 ∧ (∀ i acc S', i ≤ xs.length → I i acc S' → Need S' l) ∧
    (∀ (i : Nat) (x : PyData) acc S', xs[i]? = some x → I i acc S' → g (.d x) (zwipe ρ vs) S' fun ρ2 S2 => tt ρ2 S2 fun b S3 => zBr b (zv1 ρ2 S3 acc (I (i + 1))) (I (i + 1) acc S3)) ∧ ∀ acc S', I xs.length acc S' → N acc S'
def zvGen (ti : ZTI) (g : ZG) (tt : ZB) (zv1 : ZV) (vs : List Nat) : ZV := fun ρ S acc N => ti ρ S fun xs l S1 => GenR g tt zv1 vs ρ acc N xs l S1
theorem turns_it {J : It} {n : Nat} {G : Hp → Prop} {Y : Nat → Hp → V → Hp → Prop} (w : Walk J n G Y) {g : TG} {tt : TT} {t1 : TL} {vs : List Nat} {σ : L2.St} {N : Hp → Prop} {H1 : Hp} (Pv : Nat → Hp → Prop) (h0 : Pv 0 H1) (hG : ∀ i H, i ≤ n → Pv i H → G H)
    (hs : ∀ i x H H', i < n → Pv i H → Y i H x H' → g x (wipe σ vs) H' fun σ2 H2 => wipe σ2 vs = wipe σ vs ∧ tt σ2 H2 fun b H3 => if b = true then t1 σ2 H3 (Pv (i + 1)) else Pv (i + 1) H3) (hd : ∀ H, Pv n H → N H) :
    ∃ W : Nat → Nat → Hp → Prop, (∃ m, W 0 m H1) ∧ Turns J g tt t1 vs σ W N := by
  refine ⟨fun i m H => m = n - i ∧ i ≤ n ∧ Pv i H, ⟨n, by simp, Nat.zero_le _, h0⟩, ?_⟩
  rintro i m H ⟨rfl, hi, p⟩
  have q := hG i H hi p
  by_cases hlt : i < n
  · exact .inr ⟨w.goes i H hlt q, Pv (i + 1), fun H' p' => ⟨n - (i + 1), by omega, rfl, hlt, p'⟩, fun x H' y => hs i x H H' hlt p (w.yields i H x H' hlt q y)⟩
  · have ei : i = n := by omega
    subst ei
    exact .inl ⟨w.stops H q, hd H p⟩
section
variable {X : Cx} {B : Bs} {D : Addr} {Ac : AcT} {tg iter : Expr} {ifs : List Expr} {o : List Nat} {ti : ZTI} {g : ZG} {tt : ZB} {zv1 : ZV} {vs vs1 : List Nat}
theorem low_turns (A : AcOk D Ac) (gm : ∀ {z ρ S} {Q Q' : ZEnv → Sto → Prop}, (∀ ρ' S', Q ρ' S' → Q' ρ' S') → g z ρ S Q → g z ρ S Q') (tm : ∀ {ρ S} {Q Q' : Bool → Sto → Prop}, (∀ z S', Q z S' → Q' z S') → tt ρ S Q → tt ρ S Q')
    (vm : ∀ {ρ S acc} {N N' : List PyData → Sto → Prop}, (∀ a s, N a s → N' a s) → zv1 ρ S acc N → zv1 ρ S acc N') (hv : ∀ i ∈ o, i ∈ vs) {ρ : ZEnv} {σ : L2.St} {xs acc0 : List PyData} {l : List (Addr × List PyData)} {S1 : Sto} {H1 Hb : Hp} {J : It} {N : Hp → Prop} {Nz : List PyData → Sto → Prop}
    (r : GenR g tt zv1 vs ρ acc0 Nz xs l S1) (ok : ItOk X.K Hb J xs l) (le0 : Le Hb H1) (E1 : RE X.K H1 ρ σ) (R1 : RS X.K B S1 H1) (n1 : S1 D = none) (out : OutD B D) (a1 : Ac H1 acc0)
    (fin : ∀ acc S' H', Nz acc S' → StepD D S1 S' H1 H' → RS X.K B S' H' → S' D = none → Ac H' acc → N H') :
    ∃ W : Nat → Nat → Hp → Prop, (∃ m, W 0 m H1) ∧ Turns J (lowG X.K B o g) (lowB X.K B tt) (lowV X.K B D Ac zv1) vs σ W N := by
  obtain ⟨⟨I, i0, iN, turn, fz⟩⟩ := r
  obtain ⟨G, W, hG⟩ := ok
  refine turns_it W (fun i H' => ∃ acc' S', RE X.K H' ρ σ ∧ RS X.K B S' H' ∧ StepD D S1 S' H1 H' ∧ S' D = none ∧ Ac H' acc' ∧ I i acc' S') ⟨acc0, S1, E1, R1, .refl _ _ _, n1, a1, i0⟩ ?_ ?_ ?_
  · rintro i H' hi' ⟨acc', S', E', R', st', nS', a', h'⟩
    exact hG H' S' (le0.trans (A.leD a1 R1.1 st')) R'.1 (iN i acc' S' hi' h')
  · rintro i x H' H2 hlt ⟨acc', S', E', R', st', nS', a', h'⟩ ⟨d, ed, sm, fd⟩
    have st2 := step_same (S := S') sm
    have R2 := R'.step (R'.1.same sm) st2
    refine ⟨.d d, zwipe ρ vs, S', .d fd, (E'.le (.same sm)).wipe vs, R2, gm (fun ρ3 S3 h3 σ3 H3 st3 E3 R3 ow => ?_) (turn i d acc' S' ed h')⟩
    refine ⟨(ow vs hv).trans wipe_wipe, ρ3, S3, E3, R3, tm (fun b S4 h4 H4 st4 R4 => ?_) h3⟩
    have stA := (st2.trans st3).trans st4
    obtain ⟨a4, n4⟩ := A.step a' R'.1 nS' stA
    have le4 := stA.le R'.1
    cases b with
    | true =>
      refine iteT ⟨ρ3, S4, acc', E3.le (st4.le R3.1), R4, n4, out, a4, vm (fun acc5 S5 h5 H5 st5 R5 n5 a5 => ?_) h4⟩
      exact ⟨acc5, S5, E'.le (le4.trans (A.leD a4 R4.1 st5)), R5, (st'.trans stA.d).trans st5, n5, a5, h5⟩
    | false => exact iteF ⟨acc', S4, E'.le le4, R4, st'.trans stA.d, n4, a4, h4⟩
  · rintro H' ⟨acc', S', E', R', st', nS', a', h'⟩
    exact fin acc' S' H' (fz acc' S' h') st' R' nS' a'
theorem zlv_gen {e : Expr} {d : Nat} {body : Sem Unit} (hx : X.xe = nox) (A : AcOk D Ac) (hi : ZI X B tg iter ti) (Sb : StartBy (model X.prog X.w) X.A e d (.ref D) X.env) (L : LoopBy (model X.prog X.w) X.A e d tg ifs (.ref D) X.env body) (hg : ZGt X B tg o g) (ht : ZTs X B ifs tt) (lv : ZLv X B body D Ac vs1 zv1) (hc : X.calm = true := by rfl)
    (hv : ∀ i ∈ o, i ∈ vs := by decide) (hv1 : ∀ i ∈ vs1, i ∈ vs := by decide) (hs : ∀ x, foldedSetIterable iter X.env x = pure x := by intro _; rfl) : ZLv X B (stepIn e d iter (.ref D) X.env (pure ())) D Ac vs (zvGen ti g tt zv1 vs) := by
  refine ⟨fun {ρ S acc N N'} q w => hi.mono (fun xs l S1 ⟨⟨I, a, b, c, d⟩⟩ => ⟨⟨I, a, b, c, fun acc S' h => q _ _ (d acc S' h)⟩⟩) w, Lv.imp (lv_gen hx hc hi.pi Sb L hg.pg ht.pts lv.lv hv1 hs) ?_⟩
  rintro σ H N ⟨ρ, S, acc, hE, hS, nS, out, a, w⟩
  refine ⟨ρ, S, hE, hS, hi.mono (fun xs l S1 r J H1 st1 R1 ok => ?_) w⟩
  obtain ⟨a1, n1⟩ := A.step a hS.1 nS st1
  exact low_turns (g := g) (tt := tt) (zv1 := zv1) A hg.mono ht.mono lv.mono hv r ok (.refl _) (hE.le (st1.le hS.1)) R1 n1 out a1 fun acc' S' H' h st R n a => h H' (st1.d.trans st) R n a
theorem low_core {Ac' : Addr → AcT} (A : ∀ D, AcOk D (Ac' D)) {o0 : Addr → HO} (h0 : ∀ (D : Addr) (H : Hp), Ac' D (upd H D (o0 D)) []) (hi : ZI X B tg iter ti) (gm : ∀ {z ρ S} {Q Q' : ZEnv → Sto → Prop}, (∀ ρ' S', Q ρ' S' → Q' ρ' S') → g z ρ S Q → g z ρ S Q') (tm : ∀ {ρ S} {Q Q' : Bool → Sto → Prop}, (∀ z S', Q z S' → Q' z S') → tt ρ S Q → tt ρ S Q')
    (vm : ∀ {ρ S acc} {N N' : List PyData → Sto → Prop}, (∀ a s, N a s → N' a s) → zv1 ρ S acc N → zv1 ρ S acc N') (hv : ∀ i ∈ o, i ∈ vs) {σ : L2.St} {H : Hp} {Q : VK}
    (h : ∃ ρ S, RE X.K H ρ σ ∧ RS X.K B S H ∧ zvGen ti g tt zv1 vs ρ S [] fun acc S' => ∀ D H', Step S S' H H' → RS X.K B S' H' → S' D = none → OutD B D → Ac' D H' acc → (∀ u, H D = some u → S D = none → False) → Q (.ref D) H') :
    tCore (lowI X.K B ti) (lowG X.K B o g) (lowB X.K B tt) (fun D => lowV X.K B D (Ac' D) zv1) vs o0 σ H Q := by
  obtain ⟨ρ, S, hE, hS, w⟩ := h
  refine ⟨ρ, S, hE, hS, hi.mono (fun xs l S1 r J H1 st1 R1 ok D nD => ?_) w⟩
  have sm0 : Same H1 (upd H1 D (o0 D)) := same_fresh nD
  have n1 := R1.1.fresh nD
  have E1 := hE.le (st1.le hS.1)
  refine low_turns (g := g) (tt := tt) (zv1 := zv1) (A D) gm tm vm hv r ok (.same sm0) (E1.le (.same sm0)) (R1.step (R1.1.same sm0) (step_same sm0)) n1 (R1.out nD) (h0 D H1) fun acc' S' H' h st R n a => ?_
  refine h D H' (fun b u hb nb => ?_) R n (R1.out nD) a fun u hu hn => by have := (st1 D u hu hn).1; rw [nD] at this; cases this
  obtain ⟨e1, e2⟩ := st1 b u hb nb
  have ne : b ≠ D := ne_of_none e1 nD
  exact st b u ne (by rw [upd_ne ne]; exact e1) e2
end
end ZL
namespace ZL
open PySem PySem.Spec PyProof.Rows L2
section
variable {α : Type} [DecidableEq α]
def dd : List α → List α
  | [] => []
  | x :: xs => if x ∈ xs then dd xs else x :: dd xs
theorem mem_dd {y : α} : ∀ {xs : List α}, y ∈ dd xs ↔ y ∈ xs
  | [] => Iff.rfl
  | x :: xs => by
    unfold dd
    split
    · rename_i h
      rw [mem_dd, List.mem_cons]
      exact ⟨.inr, fun z => z.elim (fun e => e ▸ h) id⟩
    · rw [List.mem_cons, List.mem_cons, mem_dd]
theorem nodup_dd : ∀ xs : List α, (dd xs).Nodup
  | [] => List.nodup_nil
  | x :: xs => by
    unfold dd
    split
    · exact nodup_dd xs
    · rename_i h
      exact List.nodup_cons.mpr ⟨fun z => h (mem_dd.mp z), nodup_dd xs⟩
theorem pigeon : ∀ {l m : List α}, l.Nodup → (∀ x ∈ l, x ∈ m) → l.length ≤ m.length
  | [], _, _, _ => Nat.zero_le _
  | x :: l, m, hn, hs => by
    obtain ⟨h1, h2⟩ := List.nodup_cons.mp hn
    have hx : x ∈ m := hs x List.mem_cons_self
    have := pigeon (m := m.erase x) h2 fun y hy => by
      have hne : y ≠ x := fun e => h1 (by rw [← e]; exact hy)
      exact (List.mem_erase_of_ne hne).2 (hs y (List.mem_cons_of_mem _ hy))
    have e := List.length_erase_of_mem hx
    have := List.length_pos_of_mem hx
    rw [List.length_cons]
    omega
theorem dd_le_app (a b : List α) : (dd a).length ≤ (dd (a ++ b)).length := pigeon (nodup_dd a) fun x hx => mem_dd.mpr (List.mem_append_left _ (mem_dd.mp hx))
theorem dd_perm {l ms : List α} (hn : ms.Nodup) (hm : ∀ k, k ∈ ms ↔ k ∈ l) : ms.Perm (dd l) := (List.perm_ext_iff_of_nodup hn (nodup_dd l)).mpr fun k => by rw [hm, mem_dd]
end
def okS (es : List PyData) : Bool := match intsD es with
  | some ns => decide ((dd ns).length < 63)
  | none => match tupsD es with
    | some nss => decide ((dd nss).length < 63)
    | none => false
theorem intsD_of : ∀ ns : List Int, intsD (ns.map PyData.int) = some ns
  | [] => rfl
  | n :: ns => by simp only [List.map_cons, intsD, intsD_of ns]; rfl
theorem tupsD_of : ∀ nss : List (List Int), tupsD (nss.map tupI) = some nss
  | [] => rfl
  | n :: ns => by
    show (intsD (n.map PyData.int)).bind _ = _
    rw [intsD_of, Option.bind_some, tupsD_of ns]; rfl
theorem okS_inv {es : List PyData} (h : okS es = true) : (∃ ns, es = ns.map PyData.int ∧ (dd ns).length < 63) ∨ ∃ nss, es = nss.map tupI ∧ (dd nss).length < 63 := by
  unfold okS at h
  split at h
  · rename_i ns e
    exact .inl ⟨ns, intsD_eq e, of_decide_eq_true h⟩
  · split at h
    · rename_i nss e
      exact .inr ⟨nss, tupsD_eq e, of_decide_eq_true h⟩
    · cases h
theorem okS_ints {ns : List Int} (h : (dd ns).length < 63) : okS (ns.map PyData.int) = true := by unfold okS; rw [intsD_of]; exact decide_eq_true h
theorem map_split {α β : Type} {f : α → β} {l : List α} {a b : List β} (h : a ++ b = l.map f) : ∃ l1 l2, l = l1 ++ l2 ∧ a = l1.map f ∧ b = l2.map f := by
  obtain ⟨l1, l2, e1, e2, e3⟩ := List.map_eq_append_iff.mp h.symm
  exact ⟨l1, l2, e1, e2.symm, e3.symm⟩
theorem okS_tups {nss : List (List Int)} (h : (dd nss).length < 63) : okS (nss.map tupI) = true := by
  cases nss with
  | nil => rfl
  | cons n r =>
    unfold okS
    rw [show intsD ((n :: r).map tupI) = none from rfl, tupsD_of]
    exact decide_eq_true h
theorem okS_pre {a b : List PyData} (h : okS (a ++ b) = true) : okS a = true := by
  rcases okS_inv h with ⟨ns, e, l⟩ | ⟨ns, e, l⟩
  · obtain ⟨l1, l2, rfl, rfl, _⟩ := map_split e
    exact okS_ints (Nat.lt_of_le_of_lt (dd_le_app l1 l2) l)
  · obtain ⟨l1, l2, rfl, rfl, _⟩ := map_split e
    exact okS_tups (Nat.lt_of_le_of_lt (dd_le_app l1 l2) l)
abbrev emptyS (w : World) : Obj := { cls := .type "set", dict := none, data := .set #[] 0 (.fresh 0 0 (!w.params.followText "set-order")) }
def EmpO (w : World) (a : Addr) : HO := .ext fun h => h.get? a = some (emptyS w)
def SetIO (w : World) (a : Addr) (ns : List Int) : HO := .ext fun h => ∃ n, SetR w h a (fun j => decide (j ∈ ns)) n
theorem empO_new {P : Program} {w : World} {H : Hp} {h : Heap} {a : Addr} (e : h.get? a = some (emptyS w)) : ObjOk P w H h a (EmpO w a) := ⟨e, ⟨_, e⟩, fun _ _ p k => k _ p⟩
theorem setIO_new {P : Program} {w : World} {H : Hp} {h : Heap} {a : Addr} {ns : List Int} {n : Nat} (R : SetR w h a (fun j => decide (j ∈ ns)) n) : ObjOk P w H h a (SetIO w a ns) := by
  have ⟨o, _, _, _, ho, _⟩ := R
  exact ⟨⟨n, R⟩, ⟨o, ho⟩, fun h1 h2 ⟨m, p⟩ k => ⟨m, p.at k⟩⟩
def SetA (K : PySem.W.Frag) (P : Program) (w : World) (D : Addr) : AcT := fun H acc => (acc = [] ∧ H D = some (EmpO w D)) ∨ (∃ ns, ns ≠ [] ∧ acc = ns.map PyData.int ∧ H D = some (SetIO w D ns)) ∨
  ∃ nss, nss ≠ [] ∧ acc = nss.map tupI ∧ ∃ L : List (Addr × List Int), H D = some (SetTO P w D L) ∧ (∀ p ∈ L, SqT K H p.1 (p.2.map V.int)) ∧ ∀ k, k ∈ L.map (·.2) ↔ k ∈ nss
theorem ext_ne {D : Addr} {φ : Heap → Prop} (h : ∀ h0 : Heap, φ h0 → ∃ o, h0.get? D = some o ∧ ∀ vs, o.data ≠ .fields vs) (q : Str) : HO.ext φ ≠ LamX.CodeO D q := fun z => by
  unfold LamX.CodeO at z
  injection z with z
  have ob : ∀ t : Tok, (⟨(List.replicate (D + 1) ({ cls := .none, data := .fields #[.none, .str q t] } : Obj)).toArray, default⟩ : Heap).get? D = some { cls := .none, data := .fields #[.none, .str q t] } := fun t => by
    unfold Heap.get?
    simp
  obtain ⟨o, e, n⟩ := h _ (by rw [z]; exact ⟨_, _, default, ob default, rfl, rfl⟩)
  rw [ob] at e
  cases e
  exact n _ rfl
theorem setA_ok {K : PySem.W.Frag} {P : Program} {w : World} {D : Addr} : AcOk D (SetA K P w D) := by
  refine ⟨fun {H H' acc} h e le => ?_, fun {H acc} h => ?_⟩
  · rcases h with ⟨h1, h2⟩ | ⟨ns, h0, h1, h2⟩ | ⟨nss, h0, h1, L, h2, h3, h4⟩
    · exact .inl ⟨h1, e.trans h2⟩
    · exact .inr (.inl ⟨ns, h0, h1, e.trans h2⟩)
    · exact .inr (.inr ⟨nss, h0, h1, L, e.trans h2, fun p hp => sqT_le le (h3 p hp), h4⟩)
  · have ext : ∀ φ : Heap → Prop, H D = some (.ext φ) → (∀ h0 : Heap, φ h0 → ∃ o, h0.get? D = some o ∧ ∀ vs, o.data ≠ .fields vs) → ∃ o, H D = some o ∧ (∀ xs, o ≠ .tup xs) ∧ (∀ ob u, o ≠ .frz ob u) ∧ (∀ ps, o ≠ .tbl ps) ∧ ∀ q, o ≠ LamX.CodeO D q := fun φ e n => ⟨.ext φ, e, (fun _ z => nomatch z), (fun _ _ z => nomatch z), (fun _ z => nomatch z), ext_ne n⟩
    rcases h with ⟨h1, h2⟩ | ⟨ns, h0, h1, h2⟩ | ⟨nss, h0, h1, L, h2, h3, h4⟩
    · exact ext _ h2 fun h0 e => ⟨_, e, fun _ z => nomatch z⟩
    · refine ext (fun h => ∃ n, SetR w h D (fun j => decide (j ∈ ns)) n) h2 fun h0 ⟨n, R⟩ => ?_
      obtain ⟨o, es, ep, t, ho, hx, hd, _⟩ := R
      exact ⟨o, ho, fun vs z => by rw [hd] at z; cases z⟩
    · refine ext (fun h => SetT0 P w h D L) h2 fun h0 R => ?_
      obtain ⟨es, ep, tb, ⟨o, ho, hex, hd⟩, _⟩ := R
      exact ⟨o, ho, fun vs z => by rw [hd] at z; cases z⟩
theorem setA_0 {K : PySem.W.Frag} {P : Program} {w : World} (D : Addr) (H : Hp) : SetA K P w D (upd H D (EmpO w D)) [] := .inl ⟨rfl, upd_same⟩
theorem setR_le {w : World} {h : Heap} {a : Addr} {ns : List Int} {n : Nat} (R : SetR w h a (fun j => decide (j ∈ ns)) n) : n ≤ (dd ns).length := by
  obtain ⟨o, es, ep, t, ho, hx, hd, g, nd, hm, hb, hf, hn, hr⟩ := R
  have l : (es.toList.map keyOf).length = n := by rw [List.length_map, Array.length_toList]; exact hn
  rw [← l]
  exact pigeon nd fun x hx => mem_dd.mpr (of_decide_eq_true ((hm x).mpr hx))
section
variable {X : Cx} {pins : List (Addr × Obj)} {σ : L2.St} {H : Hp} {s : Shared} {D : Addr} {E : Value → Shared → Prop}
theorem addT_ok {t : Addr} {k : List Int} {L : List (Addr × List Int)} {es : Array (Int × Value)} {ep : Nat} {tb : SetTable} {Q : Value → Shared → Prop} (I : Inv X pins σ H s) (hu : X.A.units + 64 < cLine) (R : SetTR X.prog X.w s.heap D L es ep tb) (mu : Mut (H D)) (hx : IsT X.prog X.w s.heap k t) (few : L.length + 1 < 64)
    (h : ∀ L' s', Inv X pins σ (upd H D (SetTO X.prog X.w D L')) s' → (k ∈ L.map (·.2) → L' = L) → (k ∉ L.map (·.2) → L'.Perm ((t, k) :: L)) → Q .none s') : wpAny (model X.prog X.w) X.A (call (.builtin "set.add") [.ref D, .ref t]) Q E s := by
  obtain ⟨o, ho, hex, hd⟩ := R.ob
  refine wpAny_call_entry F.slot_set_add ⟨o, ho, hex.1⟩ F.entry_set_add ?_ (F.args_set_add_2 _ _)
  unfold Builtin.«set.add» Builtin.Frozenset.oneOther
  simp only [List.isEmpty_nil, bind_assoc]
  unfold Builtin.Frozenset.addrOf setAdd
  refine wpAny_bind (wpAny_pure ?_)
  try dsimp only
  refine wpAny_bind (wpAny_pure ?_)
  try dsimp only
  refine wpAny_bind (wpAny_holding (wpAny_bind ?_))
  refine wpAny_pyHash_tuple (by show X.A.units + 1 < cLine; omega) hx ?_
  refine add_at (s := { s with toks := s.toks + (k.length + 1) }) R hx (by show X.A.units + 1 < cLine; omega) few fun b h' L' es' ep' t' sb R' c1 c2 => ?_
  show wpAny _ _ (ret Value.none) _ _ _
  obtain ⟨o', ho', _⟩ := R'.ob
  exact wpAny_pure ⟨_, rfl, h L' _ (I.write (e := D) (t' := s.toks + (k.length + 1)) mu (.inl rfl) (fun b u hb hu => (sb.2 b hb).trans hu) ⟨o', ho'⟩ (setTO_new R'.t0)) c1 c2⟩
theorem addI_ok {ns : List Int} {n : Nat} {z : Int} {tk : Tok} {Q : Value → Shared → Prop} (I : Inv X pins σ H s) (R : SetR X.w s.heap D (fun j => decide (j ∈ ns)) n) (mu : Mut (H D)) (few : n + 1 < scanBound)
    (h : ∀ s', Inv X pins σ (upd H D (SetIO X.w D (ns ++ [z]))) s' → Q .none s') : wpAny (model X.prog X.w) X.A (call (.builtin "set.add") [.ref D, .int z tk]) Q E s := by
  refine setR_add R few fun h' sb new => ?_
  have new' : SetR X.w h' D (fun j => decide (j ∈ ns ++ [z])) _ := new.congr fun j => by simp [List.mem_append, Bool.decide_or]
  have ⟨o', _, _, _, ho', _⟩ := new'
  exact h _ (I.write (e := D) (t' := s.toks + 1) mu (.inl rfl) (fun b u hb hu => (sb.2 b hb).trans hu) ⟨o', ho'⟩ (setIO_new new'))
theorem mut_ext {φ : Heap → Prop} (h : H D = some (.ext φ)) : Mut (H D) := by rw [h]; trivial
theorem puts_set (hu : X.A.units + 64 < cLine) : Puts X D (SetA X.K X.prog X.w D) (fun es => okS es = true) "set.add" := by
  intro pins σ H s acc d v u I a r fz ok
  rcases okS_inv ok with ⟨ms, e, few⟩ | ⟨mss, e, few⟩
  · obtain ⟨ns, l2, rfl, rfl, e2⟩ := map_split e
    obtain ⟨z, rfl, rfl⟩ : ∃ z, l2 = [z] ∧ d = .int z := by
      match l2, e2 with
      | [z], e2 => exact ⟨z, rfl, (List.cons.inj e2).1⟩
    cases fz
    obtain ⟨tk, rfl⟩ := r
    have fin : ∀ {n : Nat}, SetR X.w s.heap D (fun j => decide (j ∈ ns)) n → Mut (H D) → wpAny (model X.prog X.w) X.A (call (.builtin "set.add") [.ref D, .int z tk]) (fun _ s' => ∃ o, Inv X pins σ (upd H D o) s' ∧ SetA X.K X.prog X.w D (upd H D o) (ns.map PyData.int ++ [.int z])) nox s := fun {n} R mu => by
      have hn := setR_le R
      have hle := dd_le_app ns [z]
      refine addI_ok I R mu (by unfold scanBound; omega) fun s' I' => ⟨_, I', .inr (.inl ⟨ns ++ [z], by simp, by simp, upd_same⟩)⟩
    rcases a with ⟨h1, h2⟩ | ⟨ns', h0, h1, h2⟩ | ⟨nss, h0, h1, L, h2, h3, h4⟩
    · have hns : ns = [] := List.map_eq_nil_iff.mp h1
      subst hns
      exact fin (setR_new_at (ns := []) (I.hok D _ h2).1) (mut_ext h2)
    · have hns : ns' = ns := by
        have := congrArg intsD h1
        rw [intsD_of, intsD_of] at this
        exact (Option.some.inj this).symm
      subst hns
      obtain ⟨n, R⟩ := (I.hok D _ h2).1
      exact fin R (mut_ext h2)
    · match nss, ns, h0, h1 with
      | n :: r, m :: q, _, h1 => cases (List.cons.inj h1).1
      | n :: r, [], _, h1 => cases h1
  · obtain ⟨ns, l2, rfl, rfl, e2⟩ := map_split e
    obtain ⟨k, rfl, rfl⟩ : ∃ z, l2 = [z] ∧ d = tupI z := by
      match l2, e2 with
      | [z], e2 => exact ⟨z, rfl, (List.cons.inj e2).1⟩
    obtain ⟨t, rfl, sq⟩ := fz_tup fz
    obtain rfl : u = Value.ref t := r
    have hx := I.isT sq
    have fin : ∀ {L : List (Addr × List Int)} {es : Array (Int × Value)} {ep : Nat} {tb : SetTable}, SetTR X.prog X.w s.heap D L es ep tb → Mut (H D) → (∀ p ∈ L, SqT X.K H p.1 (p.2.map V.int)) → (∀ k, k ∈ L.map (·.2) ↔ k ∈ ns) → (∀ o, Le H (upd H D o)) →
        wpAny (model X.prog X.w) X.A (call (.builtin "set.add") [.ref D, .ref t]) (fun _ s' => ∃ o, Inv X pins σ (upd H D o) s' ∧ SetA X.K X.prog X.w D (upd H D o) (ns.map tupI ++ [tupI k])) nox s := by
      intro L es ep tb R mu hk hm hle
      have h1 : L.length ≤ (dd ns).length := by
        have := pigeon R.nd (m := dd ns) fun x hx => mem_dd.mpr ((hm x).mp hx)
        rwa [List.length_map] at this
      have h2 := dd_le_app ns [k]
      refine addT_ok I hu R mu hx (by omega) fun L' s' I' c1 c2 => ⟨_, I', .inr (.inr ⟨ns ++ [k], by simp, by simp, L', upd_same, ?_, ?_⟩)⟩
      · intro p hp
        refine sqT_le (hle _) ?_
        rcases Classical.em (k ∈ L.map (·.2)) with c | c
        · rw [c1 c] at hp; exact hk p hp
        · rcases List.mem_cons.mp ((c2 c).mem_iff.mp hp) with e | hp
          · rw [e]; exact sq
          · exact hk p hp
      · intro j
        rw [List.mem_append, List.mem_singleton, ← hm j]
        rcases Classical.em (k ∈ L.map (·.2)) with c | c
        · rw [c1 c]
          exact ⟨.inl, fun z => z.elim id fun e => e ▸ c⟩
        · rw [((c2 c).map (·.2)).mem_iff, List.map_cons, List.mem_cons]
          exact Or.comm
    have lex : ∀ {φ : Heap → Prop}, H D = some (.ext φ) → ∀ o, Le H (upd H D o) := fun {φ} h o =>
      ⟨fun b xs hb => by rw [upd_ne fun z => by subst z; rw [h] at hb; cases hb]; exact hb, fun b ob u hb => by rw [upd_ne fun z => by subst z; rw [h] at hb; cases hb]; exact hb⟩
    rcases a with ⟨h1, h2⟩ | ⟨ns', h0, h1, h2⟩ | ⟨nss, h0, h1, L, h2, h3, h4⟩
    · have hns : ns = [] := List.map_eq_nil_iff.mp h1
      subst hns
      exact fin (setTR_fresh (I.hok D _ h2).1) (mut_ext h2) (fun p hp => by cases hp) (fun k => by simp) (lex h2)
    · match ns', ns, h0, h1 with
      | n :: r, m :: q, _, h1 => cases (List.cons.inj h1).1
      | n :: r, [], _, h1 => cases h1
    · have hns : nss = ns := by
        have := congrArg tupsD h1
        rw [tupsD_of, tupsD_of] at this
        exact (Option.some.inj this).symm
      subst hns
      have R0 : SetT0 X.prog X.w s.heap D L := (I.hok D _ h2).1
      obtain ⟨es, ep, tb, R⟩ := R0.full fun p hp => I.isT (h3 p hp)
      exact fin R (mut_ext h2) h3 h4 (lex h2)
end
end ZL
namespace ZL
open PySem PySem.Spec PyProof.Rows L2
abbrev keepH (h h' : Heap) : Prop := ∀ b o, h.get? b = some o → h'.get? b = some o
section
variable {P : Program} {w : World} {A : Around} {E : Value → Shared → Prop} {s : Shared}
set_option maxHeartbeats 3200000 in
theorem call_set_of {l : Addr} {T : String} {ol itO : Obj} {its : Array Value} {nl : Nat} {G : Heap → Prop} {Q : Value → Shared → Prop} (hol : s.heap.get? l = some ol) (hcl : ol.cls = .type T) (hdl : ol.data = .seq its nl)
    (hsls : isSubtype (.type T) (.type "set") = pure false) (hslf : isSubtype (.type T) (.type "frozenset") = pure false) (hne : (Value.type T == Value.type "dict") = false)
    (hpy : ∀ {A' : Around} {E' : Value → Shared → Prop} {s1 : Shared} {Q' : Value → Shared → Prop}, s1.heap.get? l = some ol → Q' (.ref s1.heap.objs.size) { s1 with heap := s1.heap.push itO } → wpAny (model P w) A' (pyIter (.ref l)) Q' E' s1)
    (hloop : ∀ {A' : Around} {R : Result → Shared → Prop} {s1 : Shared}, A'.handled = none → A'.units ≤ A.units + 3 → s1.heap = (s.heap.push (emptyS w)).push itO →
      (∀ s', s'.gens = s1.gens → s'.drawn = s1.drawn → s'.os = s1.os → keepH s.heap s'.heap → G s'.heap → R (.ok (.ret .none)) s') → codeAny (model P w) A' (.builtin "set.update.loop" ⟨[.ref s.heap.objs.size, .ref (s.heap.push (emptyS w)).objs.size], []⟩) R s1)
    (hh : A.handled = none) (h : ∀ (h' : Heap) (tk : Nat), G h' → keepH s.heap h' → Q (.ref s.heap.objs.size) { s with heap := h', toks := tk }) : wpAny (model P w) A (call (.type "set") [.ref l]) Q E s := by
  obtain ⟨c, tl, hmro⟩ := F.called_set.mro
  have hmade := F.called_set.made
  have hsub := F.called_set.sub
  refine wpAny_call (codeAny_of_tree ?_)
  show wpAny _ _ (callAny (.type "set") _) _ _ _
  refine wpAny_pure ⟨Code.quiet_builtin _ (by decide +kernel), codeAny_builtin F.entry_type_call ?_⟩
  rw [Around.under_plain (weight_type_call_type "set" [.ref l] []) rfl]
  have h1 := F.called_set.notType
  have h2 := F.called_set.canCreate
  have hct := F.typeCall_set_1 (.ref l)
  repeat (any_goals (first | assumption | wp_step))
  refine codeAny_mono (code_set_led1 (.ref l) (E := E) (Q₁ := fun v s1 => v = .ref s.heap.objs.size ∧ s1 = { s with heap := s.heap.push (emptyS w) }) ⟨rfl, rfl⟩) fun r s1 hr => ?_
  match r, hr with
  | .ok (.ret v), hr =>
    obtain ⟨rfl, rfl⟩ := hr
    have hS : (s.heap.push (emptyS w)).get? s.heap.objs.size = some (emptyS w) := Heap.get?_push_size _ rfl
    have hT : Shared.TypeIs { s with heap := s.heap.push (emptyS w) } (.ref s.heap.objs.size) "set" := ⟨_, hS, rfl⟩
    have hli := F.called_set.init.lookup
    have hbi := F.called_set.init.bind (.ref s.heap.objs.size)
    repeat (any_goals (first | assumption | wp_step))
    refine codeAny_mono (codeAny_call_builtin (R := wants (fun r s2 => r = .none ∧ ∃ h' tk, s2 = { s with heap := h', toks := tk } ∧ G h' ∧ keepH s.heap h') E) F.called_set.init.plain F.entry_set_init (check_set_init_1 hT ?_)) fun r2 s2 hr2 => ?_
    · obtain ⟨ocls, odict, odata, oslots⟩ := ol
      simp only at hcl hdl
      subst hcl; subst hdl
      have hol' : (s.heap.push (emptyS w)).get? l = some { cls := .type T, dict := odict, data := .seq its nl, slots := oslots } := Heap.get?_push_of_some _ hol
      unfold Builtin.«set.__init__» noKeywords Builtin.Frozenset.updateFrom
      generalize hPI : pyIter = PI
      wp_walk
      subst hPI
      refine hpy hol' (wpAny_bind (wpAny_runValue ?_))
      refine hloop (by simp [hh]) (by simp) rfl fun s' g d o k g' => ?_
      obtain ⟨h', g2, d', tk', os'⟩ := s'
      have g : g2 = s.gens := g
      have d : d' = s.drawn := d
      have o : os' = s.os := o
      subst g; subst d; subst o
      show wpAny _ _ _ _ _ _
      refine wpAny_pure ?_
      show wpAny _ _ (ret Value.none) _ _ _
      exact wpAny_pure ⟨rfl, h', tk', rfl, g', k⟩
    · match r2, hr2 with
      | .error e, hr2 => exact hr2
      | .ok (.ret r), hr2 =>
        obtain ⟨rfl, h', tk, rfl, g', k⟩ := hr2
        repeat (any_goals (first | assumption | wp_step))
        exact h _ _ g' k
  | .error e, hr => exact hr
end
section
variable {P : Program} {w : World} {s : Shared} {A : Around}
theorem size_ne {h : Heap} {b : Addr} {o o2 : Obj} (e : h.get? b = some o) : b ≠ h.objs.size ∧ b ≠ (h.push o2).objs.size := by
  have := Heap.lt_size e
  refine ⟨Nat.ne_of_lt this, ?_⟩
  rw [Heap.size_push]
  exact Nat.ne_of_lt (Nat.lt_succ_of_lt this)
theorem loop_ints {l : Addr} {items : Array Value} {ns : List Int} {itO : Obj} {St : Nat → Heap → Prop} {R : Result → Shared → Prop} {s1 : Shared} (hi : IntsAre items.toList ns) (hb : ns.length + 1 < scanBound) (ol : Obj) (hol : s.heap.get? l = some ol)
    (W : Walks P w A.in1 (s.heap.push (emptyS w)).objs.size [(s.heap.push (emptyS w)).objs.size, l] [(s.heap.push (emptyS w)).objs.size] items.size (fun i v => items[i]? = some v) St) (st : St 0 s1.heap) (e1 : s1.heap = (s.heap.push (emptyS w)).push itO)
    (k : ∀ s', s'.gens = s1.gens → s'.drawn = s1.drawn → s'.os = s1.os → keepH s.heap s'.heap → (∃ c, SetR w s'.heap s.heap.objs.size (fun j => decide (j ∈ ns)) c) → R (.ok (.ret .none)) s') :
    codeAny (model P w) A (.builtin "set.update.loop" ⟨[.ref s.heap.objs.size, .ref (s.heap.push (emptyS w)).objs.size], []⟩) R s1 := by
  have hl : items.size = ns.length := by rw [← Array.length_toList]; exact IntsAre.length hi
  have hn := size_ne (o2 := emptyS w) hol
  have hSf : s.heap.objs.size ∉ [(s.heap.push (emptyS w)).objs.size, l] := by
    rw [Heap.size_push]
    simp only [List.mem_cons, List.not_mem_nil, or_false, not_or]
    exact ⟨Nat.ne_of_lt (Nat.lt_succ_self _), fun z => hn.1 z.symm⟩
  refine set_update_ints W.toS s.heap.objs.size hSf ns hl hb (fun i v hv => ?_) (items.size - 0) 0 s1 (by omega) (Nat.zero_le _) st ⟨0, Nat.le_refl 0, setR_new_at ?_⟩ fun s' c hm hc hS' => k s' hm.gens hm.drawn hm.os (fun b o eb => ?_) ⟨c, hS'⟩
  · have hlt : i < ns.length := by rw [← hl]; exact (Array.getElem?_eq_some_iff.mp hv).1
    obtain ⟨t, e⟩ := PyProof.Rows.IntsAre.int_at hi i v (by rw [Array.getElem?_toList]; exact hv)
    refine ⟨ns[i], t, List.getElem?_eq_getElem hlt, ?_⟩
    rw [e, List.getD_eq_getElem?_getD, List.getElem?_eq_getElem hlt]; rfl
  · rw [e1]; exact Heap.get?_push_of_some _ (Heap.get?_push_size _ rfl)
  · obtain ⟨n1, n2⟩ := size_ne (o2 := emptyS w) eb
    refine hm.heap b o (by simp only [List.mem_cons, List.not_mem_nil, or_false, not_or]; exact ⟨n1, n2⟩) ?_
    rw [e1]
    exact Heap.get?_push_of_some _ (Heap.get?_push_of_some _ eb)
theorem loop_tups {l : Addr} {items : Array Value} {ks : List (Addr × List Int)} {itO : Obj} {St : Nat → Heap → Prop} {R : Result → Shared → Prop} {s1 : Shared} (hi : items.toList = ks.map fun p => Value.ref p.1) (hk : ∀ p ∈ ks, IsT P w s.heap p.2 p.1) (few : ks.length < 64) (hu : A.units + 1 < cLine) (ol : Obj) (hol : s.heap.get? l = some ol)
    (W : Walks P w A.in1 (s.heap.push (emptyS w)).objs.size [(s.heap.push (emptyS w)).objs.size, l] [(s.heap.push (emptyS w)).objs.size] items.size (fun i v => items[i]? = some v) St) (st : St 0 s1.heap) (e1 : s1.heap = (s.heap.push (emptyS w)).push itO)
    (k : ∀ s', s'.gens = s1.gens → s'.drawn = s1.drawn → s'.os = s1.os → keepH s.heap s'.heap → (∃ L es ep t, SetTR P w s'.heap s.heap.objs.size L es ep t ∧ Got ks ks.length L) → R (.ok (.ret .none)) s') :
    codeAny (model P w) A (.builtin "set.update.loop" ⟨[.ref s.heap.objs.size, .ref (s.heap.push (emptyS w)).objs.size], []⟩) R s1 := by
  have hl : items.size = ks.length := by rw [← Array.length_toList, hi, List.length_map]
  have hn := size_ne (o2 := emptyS w) hol
  have hSf : s.heap.objs.size ∉ [(s.heap.push (emptyS w)).objs.size, l] := by
    rw [Heap.size_push]
    simp only [List.mem_cons, List.not_mem_nil, or_false, not_or]
    exact ⟨Nat.ne_of_lt (Nat.lt_succ_self _), fun z => hn.1 z.symm⟩
  have none_of : ∀ b, s.heap.objs.size ≤ b → s.heap.get? b = none := by
    intro b hb
    cases q : s.heap.get? b with
    | none => rfl
    | some o => exact absurd (Nat.lt_of_lt_of_le (Heap.lt_size q) hb) (Nat.lt_irrefl _)
  refine set_update_tups W.toS s.heap.objs.size hSf ks hl few (fun i v hv => ?_) s.heap hk (none_of _ (Nat.le_refl _)) (fun b hb => none_of b ?_) (by show A.units + 1 < cLine; exact hu) (items.size - 0) 0 s1 (by omega) (Nat.zero_le _) st (fun b o eb => ?_) ⟨[], #[], 0, _, setTR_fresh ?_, Got.zero ks⟩
    fun s' L es ep t hm hS' g hkp => k s' hm.gens hm.drawn hm.os hkp ⟨L, es, ep, t, hS', by rw [hl] at g; exact g⟩
  · have q : items.toList[i]? = some v := by rw [Array.getElem?_toList]; exact hv
    rw [hi, List.getElem?_map] at q
    obtain ⟨p, e2, e3⟩ := Option.map_eq_some_iff.mp q
    exact ⟨p, e2, e3.symm⟩
  · rw [List.mem_singleton.mp hb, Heap.size_push]
    exact Nat.le_succ _
  · rw [e1]; exact Heap.get?_push_of_some _ (Heap.get?_push_of_some _ eb)
  · rw [e1]; exact Heap.get?_push_of_some _ (Heap.get?_push_size _ rfl)
end
def SetF (K : PySem.W.Frag) (P : Program) (w : World) (D : Addr) (H : Hp) (acc : List PyData) : Prop := (∃ ns, acc = ns.map PyData.int ∧ ((ns = [] ∧ H D = some (EmpO w D)) ∨ H D = some (SetIO w D ns))) ∨
  ∃ nss, nss ≠ [] ∧ acc = nss.map tupI ∧ ∃ L : List (Addr × List Int), H D = some (SetTO P w D L) ∧ (∀ p ∈ L, SqT K H p.1 (p.2.map V.int)) ∧ ∀ k, k ∈ L.map (·.2) ↔ k ∈ nss
theorem setF_of {K : PySem.W.Frag} {P : Program} {w : World} {D : Addr} {H : Hp} {acc : List PyData} (h : SetA K P w D H acc) : SetF K P w D H acc := by
  rcases h with ⟨h1, h2⟩ | ⟨ns, h0, h1, h2⟩ | h
  · exact .inl ⟨[], h1, .inl ⟨rfl, h2⟩⟩
  · exact .inl ⟨ns, h1, .inr h2⟩
  · exact .inr h
theorem okS_inv' {es : List PyData} (h : okS es = true) : (∃ ns, es = ns.map PyData.int ∧ (dd ns).length < 63) ∨ ∃ nss, es = nss.map tupI ∧ (dd nss).length < 63 ∧ nss ≠ [] := by
  rcases okS_inv h with ⟨ns, e, l⟩ | ⟨nss, e, l⟩
  · exact .inl ⟨ns, e, l⟩
  · cases nss with
    | nil => exact .inl ⟨[], e, l⟩
    | cons n r => exact .inr ⟨_, e, l, by simp⟩
def rMkS (K : PySem.W.Frag) (P : Program) (w : World) : List V → Hp → VK → Prop := fun vs H Q => ∃ (a : Addr) (xs : List V) (acc : List PyData), vs = [.ref a] ∧ (SqL K H a xs ∨ SqT K H a xs) ∧ FzAll K H xs acc ∧ okS acc = true ∧ acc.length < 63 ∧
  ∀ D φ, H D = none → SetF K P w D (upd H D (.ext φ)) acc → Q (.ref D) (upd H D (.ext φ))
section
variable {X : Cx}
theorem tups_ks {K : PySem.W.Frag} {H : Hp} : ∀ {nss : List (List Int)} {xs : List V}, FzAll K H xs (nss.map tupI) → ∃ ks : List (Addr × List Int), xs = ks.map (fun p => V.ref p.1) ∧ ks.map (·.2) = nss ∧ ∀ p ∈ ks, SqT K H p.1 (p.2.map V.int)
  | [], _, f => by cases f; exact ⟨[], rfl, rfl, fun p h => by cases h⟩
  | n :: r, _, .cons f1 f2 => by
    obtain ⟨ks, e1, e2, h⟩ := tups_ks f2
    obtain ⟨t, e, sq⟩ := fz_tup f1
    refine ⟨(t, n) :: ks, by rw [e, e1]; rfl, by rw [← e2]; rfl, fun p hp => ?_⟩
    rcases List.mem_cons.mp hp with rfl | hp
    · exact sq
    · exact h p hp
theorem cr_mkS {k : Nat} (hr : Room k X.A) : CallR X (.type "set") (rMkS X.K X.prog X.w) := by
  intro pins s σ H vs us Q I r ⟨a, xs, acc, e, sq, f, ok, few, q⟩
  subst e
  rw [Vals.ref1 r]
  have hu := hr.un
  have fin : ∀ {h' : Heap} {tk : Nat} {φ : Heap → Prop}, keepH s.heap h' → ObjOk X.prog X.w (upd H s.heap.objs.size (.ext φ)) h' s.heap.objs.size (.ext φ) → SetF X.K X.prog X.w s.heap.objs.size (upd H s.heap.objs.size (.ext φ)) acc →
      ∃ v H', Inv X pins σ H' { s with heap := h', toks := tk } ∧ RelV v (.ref s.heap.objs.size) ∧ Q v H' := fun {h' tk φ} k ob sa =>
    ⟨.ref s.heap.objs.size, _, I.laid (t' := tk) k (Nat.le_refl _) ob, rfl, q _ _ (I.hok.fresh (Nat.le_refl _)) sa⟩
  have road : ∀ (its : List Value) (G : Heap → Prop), ((sq' : (s.heap.IsList a its.toArray) ∨ s.heap.IsTuple a its.toArray) → Vals xs its → (∀ {A' : Around} {R : Result → Shared → Prop} {s1 : Shared} {St : Nat → Heap → Prop} {itO ol : Obj}, A'.units ≤ X.A.units + 3 → s.heap.get? a = some ol →
      Walks X.prog X.w A'.in1 (s.heap.push (emptyS X.w)).objs.size [(s.heap.push (emptyS X.w)).objs.size, a] [(s.heap.push (emptyS X.w)).objs.size] its.toArray.size (fun i v => its.toArray[i]? = some v) St → St 0 s1.heap → s1.heap = (s.heap.push (emptyS X.w)).push itO →
      (∀ s', s'.gens = s1.gens → s'.drawn = s1.drawn → s'.os = s1.os → keepH s.heap s'.heap → G s'.heap → R (.ok (.ret .none)) s') → codeAny (model X.prog X.w) A' (.builtin "set.update.loop" ⟨[.ref s.heap.objs.size, .ref (s.heap.push (emptyS X.w)).objs.size], []⟩) R s1) →
      (∀ (h' : Heap) (tk : Nat), G h' → keepH s.heap h' → ∃ v H', Inv X pins σ H' { s with heap := h', toks := tk } ∧ RelV v (.ref s.heap.objs.size) ∧ Q v H') → wpAny (model X.prog X.w) X.A (call (.type "set") [.ref a]) (EP X pins σ Q) X.xe s) := by
    intro its G sq' rv loop fin'
    rcases sq' with ⟨ol, hol, hcl, nl, hdl⟩ | ⟨ol, hol, hcl, nl, hdl⟩
    · have hne := (size_ne (o2 := emptyS X.w) hol).2
      refine call_set_of hol hcl hdl F.sub_list_set F.sub_list_frozenset (by decide) (fun {A' E' s1 Q'} h1 h2 => wpAny_pyIter_list ⟨ol, h1, hcl, nl, hdl⟩ h2) (fun {A' R s1} hh hun e1 kk => ?_) hr.hd fin'
      refine loop hun hol (Walks.list (show A'.in1.handled = none from hh) _ a hne its.toArray) ?_ e1 kk
      rw [e1]
      exact ⟨⟨_, Heap.get?_push_size _ rfl, rfl, rfl⟩, ⟨ol, Heap.get?_push_of_some _ (Heap.get?_push_of_some _ hol), hcl, nl, hdl⟩⟩
    · have hne := (size_ne (o2 := emptyS X.w) hol).2
      refine call_set_of hol hcl hdl F.sub_tuple_set F.sub_tuple_frozenset (by decide) (fun {A' E' s1 Q'} h1 h2 => wpAny_pyIter_tuple ⟨ol, h1, hcl, nl, hdl⟩ h2) (fun {A' R s1} hh hun e1 kk => ?_) hr.hd fin'
      refine loop hun hol (Walks.tuple (show A'.in1.handled = none from hh) _ a hne its.toArray) ?_ e1 kk
      rw [e1]
      exact ⟨⟨_, Heap.get?_push_size _ rfl, rfl, rfl⟩, ⟨ol, Heap.get?_push_of_some _ (Heap.get?_push_of_some _ hol), hcl, nl, hdl⟩⟩
  obtain ⟨its, sq', rv⟩ : ∃ its : List Value, (s.heap.IsList a its.toArray ∨ s.heap.IsTuple a its.toArray) ∧ Vals xs its := by
    rcases sq with sq | sq
    · obtain ⟨its, rv, pl, _⟩ := I.list sq
      exact ⟨its, .inl pl.isList, rv⟩
    · obtain ⟨its, rv, pl, _⟩ := I.tuple sq
      exact ⟨its, .inr pl, rv⟩
  rcases okS_inv' ok with ⟨ns, e, l⟩ | ⟨nss, e, l, hne⟩
  · subst e
    have ex := fz_ints f
    subst ex
    rw [List.length_map] at few
    refine road its (fun h' => ∃ c, SetR X.w h' s.heap.objs.size (fun j => decide (j ∈ ns)) c) sq' rv (fun {A' R s1 St itO ol} hun hol W st e1 kk => loop_ints (by simpa using rv.ints) (by unfold scanBound; omega) ol hol W st e1 kk) fun h' tk ⟨c, R⟩ k => ?_
    exact fin k (setIO_new R) (.inl ⟨ns, rfl, .inr upd_same⟩)
  · subst e
    obtain ⟨ks, ex, e2, hk⟩ := tups_ks f
    subst ex; subst e2
    rw [List.length_map, List.length_map] at few
    refine road its (fun h' => ∃ L es ep t, SetTR X.prog X.w h' s.heap.objs.size L es ep t ∧ Got ks ks.length L) sq' rv (fun {A' R s1 St itO ol} hun hol W st e1 kk => loop_tups (by simpa using refs_of_vals rv) (fun p hp => I.isT (hk p hp)) (by omega) (by omega) ol hol W st e1 kk) fun h' tk ⟨L, es, ep, t, R, g⟩ k => ?_
    have le : Le H (upd H s.heap.objs.size (SetTO X.prog X.w s.heap.objs.size L)) := .same (same_fresh (I.hok.fresh (Nat.le_refl _)))
    have sub : ∀ p ∈ L, p ∈ ks := fun p hp => List.mem_of_mem_take (g.sub p hp)
    refine fin k (setTO_new R.t0) (.inr ⟨_, hne, rfl, L, upd_same, fun p hp => sqT_le le (hk p (sub p hp)), fun j => ⟨fun hj => ?_, fun hj => ?_⟩⟩)
    · obtain ⟨p, hp, rfl⟩ := List.mem_map.mp hj
      exact List.mem_map.mpr ⟨p, sub p hp, rfl⟩
    · obtain ⟨p, hp, rfl⟩ := List.mem_map.mp hj
      exact g.all p (by rw [List.take_length]; exact hp)
def setSortD (es : List PyData) : Option (List PyData) := match intsD es with
  | some ns => if (dd ns).length < 63 then some ((sortI (dd ns)).map PyData.int) else none
  | none => match tupsD es with
    | some nss => if (dd nss).length < 63 ∧ ((nss.headD []).length ≥ 1 ∧ nss.all (okT (nss.headD []).length) = true) then some ((sortT (dd nss)).map tupI) else none
    | none => none
theorem setSort_ok {es fs : List PyData} (h : setSortD es = some fs) : okS es = true := by
  unfold setSortD at h
  unfold okS
  split at h
  · rename_i ns e
    try rw [e]
    split at h
    · rename_i c; exact decide_eq_true c
    · cases h
  · rename_i e
    try rw [e]
    split at h
    · rename_i nss e2
      try rw [e2]
      split at h
      · rename_i c; exact decide_eq_true c.1
      · cases h
    · cases h
def rSortS (K : PySem.W.Frag) (P : Program) (w : World) : List V → Hp → VK → Prop := fun vs H Q => ∃ (D : Addr) (acc es : List PyData), vs = [.ref D] ∧ SetF K P w D H acc ∧ setSortD acc = some es ∧ ∀ ws p, FzAll K H ws es → H p = none → Q (.ref p) (upd H p (.lst ws))
theorem fz_tups {K : PySem.W.Frag} {H : Hp} : ∀ {L : List (Addr × List Int)}, (∀ p ∈ L, SqT K H p.1 (p.2.map V.int)) → FzAll K H (L.map fun p => V.ref p.1) ((L.map (·.2)).map tupI)
  | [], _ => .nil
  | p :: L, h => .cons (.tup (h p List.mem_cons_self) (ints_fz p.2)) (fz_tups fun q hq => h q (List.mem_cons_of_mem _ hq))
theorem cr_sortS {k : Nat} (hr : Room k X.A) (hc : X.calm = true) : CallR X (.builtin "sorted") (rSortS X.K X.prog X.w) := by
  intro pins s σ H vs us Q I r ⟨D, acc, es, e, sf, se, q⟩
  subst e
  unfold setSortD at se
  rcases sf with ⟨ns, e, sf⟩ | ⟨nss, hne, e, L, h2, h3, h4⟩
  · subst e
    rw [intsD_of] at se
    simp only at se
    split at se
    · rename_i few
      cases se
      have R : ∃ n, SetR X.w s.heap D (fun j => decide (j ∈ ns)) n := by
        rcases sf with ⟨hz, h2⟩ | h2
        · subst hz
          exact ⟨0, setR_new_at (ns := []) (I.hok D _ h2).1⟩
        · exact (I.hok D _ h2).1
      obtain ⟨n, R⟩ := R
      rw [Vals.ref1 r]
      have hn := setR_le R
      refine sorted_set R hr.hd (by omega) fun s' p out c ms kp g o hp hg hout pw hm hl => ?_
      have en : ms = sortI (dd ns) := sortI_uniq (dd_perm (pw.imp fun h => Int.ne_of_lt h) fun k => by rw [hm k]; exact decide_eq_true_iff) (pw.imp fun h => Int.le_of_lt h)
      subst en
      have hv : Vals ((sortI (dd ns)).map V.int) out.toList := vals_of_ints hout
      have hpn : H p = none := I.hok.fresh hp
      have J : Inv X pins σ (upd H p (.lst ((sortI (dd ns)).map V.int))) { s with heap := s'.heap, gens := s'.gens, drawn := s'.drawn, toks := s'.toks } :=
        I.call (ch := []) (Un.laid kp hp hpn) (I.hok.laid kp hp ⟨by rw [List.length_map, hl, sizeLine_eq]; omega, out.toList, c, hv, hg⟩) (by rw [g]; exact I.bare) (fun _ z => nomatch z)
      have es : s' = { s with heap := s'.heap, gens := s'.gens, drawn := s'.drawn, toks := s'.toks } := by
        cases s'; cases s; cases o; rfl
      rw [es]
      exact ⟨.ref p, _, J, rfl, q _ p (ints_fz _) hpn⟩
    · cases se
  · subst e
    match nss, hne with
    | n0 :: r0, _ =>
      rw [show intsD ((n0 :: r0).map tupI) = none from rfl, tupsD_of] at se
      simp only at se
      split at se
      · rename_i hcond
        cases se
        have hd : ∀ ns ∈ n0 :: r0, okT ((n0 :: r0).headD []).length ns = true := List.all_eq_true.mp hcond.2.2
        refine cr_sortedT hc pins s σ H _ us Q I r ⟨D, L, _, bB, rfl, h2, h3, hcond.2.1, fun p hp => okT_inv (hd p.2 ((h4 p.2).mp (List.mem_map.mpr ⟨p, hp, rfl⟩))), fun L' p pm nd few pw hpn => ?_⟩
        have eL : L'.map (·.2) = sortT (dd (n0 :: r0)) := by
          refine sortT_uniq (fun ns hns => hd ns (mem_dd.mp hns)) (dd_perm nd fun k => by rw [(pm.map (·.2)).mem_iff]; exact h4 k) (List.pairwise_map.mpr pw)
        refine q _ p ?_ hpn
        rw [← eL]
        exact fz_tups fun p hp => h3 p (pm.mem_iff.mp hp)
      · cases se
def setLenD (es : List PyData) : Option Nat := match intsD es with
  | some ns => if (dd ns).length < 63 then some (dd ns).length else none
  | none => match tupsD es with
    | some nss => if (dd nss).length < 63 then some (dd nss).length else none
    | none => none
theorem setLen_ok {es : List PyData} {n : Nat} (h : setLenD es = some n) : okS es = true := by
  unfold setLenD at h
  unfold okS
  split at h
  · rename_i ns e
    try rw [e]
    split at h
    · rename_i c; exact decide_eq_true c
    · cases h
  · rename_i e
    try rw [e]
    split at h
    · rename_i nss e2
      try rw [e2]
      split at h
      · rename_i c; exact decide_eq_true c
      · cases h
    · cases h
def rLenS (K : PySem.W.Frag) (P : Program) (w : World) : List V → Hp → VK → Prop := fun vs H Q => ∃ (D : Addr) (acc : List PyData) (n : Nat), vs = [.ref D] ∧ SetF K P w D H acc ∧ setLenD acc = some n ∧ Q (.int n) H
theorem cr_lenS : CallR X (.builtin "len") (rLenS X.K X.prog X.w) := by
  intro pins s σ H vs us Q I r ⟨D, acc, n, e, sf, se, q⟩
  subst e
  unfold setLenD at se
  rw [Vals.ref1 r]
  rcases sf with ⟨ns, e, sf⟩ | ⟨nss, hne, e, L, h2, h3, h4⟩
  · subst e
    rw [intsD_of] at se
    simp only at se
    split at se
    · rename_i few
      cases se
      have R : ∃ n, SetR X.w s.heap D (fun j => decide (j ∈ ns)) n := by
        rcases sf with ⟨hz, h2⟩ | h2
        · subst hz
          exact ⟨0, setR_new_at (ns := []) (I.hok D _ h2).1⟩
        · exact (I.hok D _ h2).1
      obtain ⟨n, o, es, ep, t, ho, hx, hd, g, nd, hm, hb, hf, hn, hr⟩ := R
      have pm : (es.toList.map keyOf).Perm (dd ns) := dd_perm nd fun k => by rw [← hm k]; exact decide_eq_true_iff
      have e2 : es.size = (dd ns).length := by rw [← pm.length_eq, List.length_map, Array.length_toList]
      refine call_len_set ho hx hd hf (by rw [e2]; omega) ⟨.int (dd ns).length, H, I.tok _, ⟨_, by rw [e2]⟩, q⟩
    · cases se
  · subst e
    match nss, hne with
    | n0 :: r0, _ =>
      rw [show intsD ((n0 :: r0).map tupI) = none from rfl, tupsD_of] at se
      simp only at se
      split at se
      · rename_i few
        cases se
        have R0 : SetT0 X.prog X.w s.heap D L := (I.hok D _ h2).1
        obtain ⟨es, ep, tb, R⟩ := R0.full fun p hp => I.isT (h3 p hp)
        obtain ⟨o, ho, hx, hd⟩ := R.ob
        have pm : (L.map (·.2)).Perm (dd (n0 :: r0)) := dd_perm R.nd h4
        have e2 : es.size = (dd (n0 :: r0)).length := by rw [← pm.length_eq, List.length_map, R.size]
        refine call_len_set ho hx hd R.fits (by rw [e2]; omega) ⟨.int (dd (n0 :: r0)).length, H, I.tok _, ⟨_, by rw [e2]⟩, q⟩
      · cases se
end
end ZL
namespace V
open PySem PySem.Spec
abbrev Cells := List (Option ZL.Cell)
structure Exn where
  name : Str
  fs : List (Str × PyData)
inductive Res (α : Type) where
  | ok (a : α) (s : Cells)
  | ex (x : Exn) (s : Cells)
  | bad
def M (α : Type) := Cells → Res α
def M.pure {α : Type} (a : α) : M α := fun s => .ok a s
def M.bind {α β : Type} (m : M α) (k : α → M β) : M β := fun s => match m s with
  | .ok a s' => k a s'
  | .ex x s' => .ex x s'
  | .bad => .bad
instance : Monad M := { pure := M.pure, bind := M.bind }
def bad {α : Type} : M α := fun _ => .bad
def ofO {α : Type} : Option α → M α
  | some a => pure a
  | none => bad
def noex {α : Type} (m : M α) : M α := fun s => match m s with
  | .ok a s' => .ok a s'
  | _ => .bad
def raise {α : Type} (n : Str) : M α := fun s => .ex ⟨n, []⟩ s
theorem bind_def {α β : Type} (m : M α) (k : α → M β) (s : Cells) : (m >>= k) s = match m s with
  | .ok a s' => k a s'
  | .ex x s' => .ex x s'
  | .bad => .bad := rfl
@[simp] theorem pure_run {α : Type} (a : α) (s : Cells) : (pure a : M α) s = .ok a s := rfl
@[simp] theorem pure_bind' {α β : Type} (a : α) (k : α → M β) : ((pure a : M α) >>= k) = k a := rfl
@[simp] theorem bind_pure' {α : Type} (m : M α) : (m >>= fun a => pure a) = m := by
  funext s; rw [bind_def]; cases m s <;> rfl
@[simp] theorem bad_bind {α β : Type} (k : α → M β) : ((bad : M α) >>= k) = bad := rfl
@[simp] theorem raise_bind {α β : Type} (n : Str) (k : α → M β) : ((raise n : M α) >>= k) = raise n := rfl
@[simp] theorem bind_assoc' {α β γ : Type} (m : M α) (k : α → M β) (l : β → M γ) : ((m >>= k) >>= l) = (m >>= fun a => k a >>= l) := by
  funext s; simp only [bind_def]; cases m s <;> rfl
@[simp] theorem noex_pure {α : Type} (a : α) : noex (pure a : M α) = pure a := rfl
@[simp] theorem noex_bad {α : Type} : noex (bad : M α) = bad := rfl
@[simp] theorem ofO_some {α : Type} (a : α) : ofO (some a) = (pure a : M α) := rfl
@[simp] theorem ofO_none {α : Type} : ofO (none : Option α) = (bad : M α) := rfl
theorem bind_ok {α β : Type} {m : M α} {k : α → M β} {s s' : Cells} {a : α} (h : m s = .ok a s') : (m >>= k) s = k a s' := by rw [bind_def, h]
def getC (j : Nat) : M (List PyData) := fun s => match s[j]? with
  | some (some (.lst xs)) => .ok xs s
  | _ => .bad
def setC (j : Nat) (xs : List PyData) : M Unit := fun s => if j < s.length then .ok () (s.set j (some (.lst xs))) else .bad
def delC (j : Nat) : M Unit := fun s => .ok () (s.set j none)
def pick (s : Cells) : List Nat → Cells
  | [] => []
  | j :: r => s.getD j none :: pick s r
def put (s : Cells) : List Nat → Cells → Cells
  | j :: r, c :: cs => put (s.set j c) r cs
  | _, _ => s
def liveC : Option ZL.Cell → Bool
  | some (.tbl _) => false
  | some _ => true
  | none => false
def liveB (s : Cells) (js : List Nat) : Bool := js.all fun j => liveC (s.getD j none)
def sub {α : Type} (js : List Nat) (m : M α) : M α := fun s => bif liveB s js then (match m (pick s js) with
  | .ok a s' => .ok a (put s js s')
  | .ex x s' => .ex x (put s js s')
  | .bad => .bad) else .bad
@[simp] theorem sub_pure {α : Type} (a : α) : sub [] (pure a : M α) = pure a := rfl
inductive Fl (L T : Type) where
  | nx (t : T)
  | bk (l : L)
  | ct (l : L)
  | rt (v : PyData)
def flk {L T U : Type} (k : T → M (Fl L U)) : Fl L T → M (Fl L U)
  | .nx t => k t
  | .bk l => pure (.bk l)
  | .ct l => pure (.ct l)
  | .rt v => pure (.rt v)
@[simp] theorem flk_nx {L T U : Type} (k : T → M (Fl L U)) (t : T) : flk k (.nx t) = k t := rfl
@[simp] theorem flk_rt {L T U : Type} (k : T → M (Fl L U)) (v : PyData) : flk k (.rt v) = pure (.rt v) := rfl
@[simp] theorem flk_bk {L T U : Type} (k : T → M (Fl L U)) (v : L) : flk k (.bk v) = pure (.bk v) := rfl
@[simp] theorem flk_ct {L T U : Type} (k : T → M (Fl L U)) (v : L) : flk k (.ct v) = pure (.ct v) := rfl
def fin (m : M (Fl Unit Unit)) : M PyData := m >>= fun f => match f with
  | .nx _ => pure .none
  | .rt v => pure v
  | _ => bad
@[simp] theorem fin_rt (v : PyData) : fin (pure (.rt v)) = pure v := rfl
@[simp] theorem fin_nx (v : Unit) : fin (pure (.nx v)) = pure .none := rfl
@[simp] theorem fin_raise (n : Str) : fin (raise n) = raise n := rfl
@[simp] theorem fin_bind {α : Type} (m : M α) (k : α → M (Fl Unit Unit)) : fin (m >>= k) = (m >>= fun a => fin (k a)) := by
  unfold fin; rw [bind_assoc']
@[simp] theorem fin_cond (b : Bool) (x y : M (Fl Unit Unit)) : fin (bif b then x else y) = bif b then fin x else fin y := by cases b <;> rfl
@[simp] theorem bind_cond {α β : Type} (b : Bool) (x y : M α) (k : α → M β) : ((bif b then x else y) >>= k) = bif b then (x >>= k) else (y >>= k) := by cases b <;> rfl
def forM {L T α : Type} (pt : PyData → Option α) (body : α → T → M (Fl T T)) : List PyData → T → M (Fl L T)
  | [], t => pure (.nx t)
  | x :: r, t => ofO (pt x) >>= fun u => body u t >>= fun f => match f with
    | .nx t' => forM pt body r t'
    | .ct t' => forM pt body r t'
    | .bk t' => pure (.nx t')
    | .rt v => pure (.rt v)
def whileM {L T : Type} (c : T → M Bool) (body : T → M (Fl T T)) : Nat → T → M (Fl L T)
  | 0, _ => bad
  | n + 1, t => c t >>= fun b => bif b then (body t >>= fun f => match f with
    | .nx t' => whileM c body n t'
    | .ct t' => whileM c body n t'
    | .bk t' => pure (.nx t')
    | .rt v => pure (.rt v)) else pure (.nx t)
theorem whileM_succ {L T : Type} (c : T → M Bool) (body : T → M (Fl T T)) (n : Nat) (t : T) : (whileM c body (n + 1) t : M (Fl L T)) = (c t >>= fun b => bif b then (body t >>= fun f => match f with
    | .nx t' => whileM c body n t'
    | .ct t' => whileM c body n t'
    | .bk t' => pure (.nx t')
    | .rt v => pure (.rt v)) else pure (.nx t)) := rfl
def line : Nat := 16777216
end V
namespace ZL
open PySem PySem.Spec PyProof.Rows L2
inductive Fgz : ZEnv → ZEnv → Prop
  | nil : Fgz [] []
  | n {o : Option Z} {a b : ZEnv} : Fgz a b → Fgz (none :: a) (o :: b)
  | s {z : Z} {a b : ZEnv} : Fgz a b → Fgz (some z :: a) (some z :: b)
theorem Fgz.refl : ∀ a : ZEnv, Fgz a a
  | [] => .nil
  | none :: a => .n (Fgz.refl a)
  | some _ :: a => .s (Fgz.refl a)
theorem Fgz.trans : ∀ {a b c : ZEnv}, Fgz a b → Fgz b c → Fgz a c
  | _, _, _, .nil, h => h
  | _, _, _, .n h, .n k => .n (Fgz.trans h k)
  | _, _, _, .n h, .s k => .n (Fgz.trans h k)
  | _, _, _, .s h, .s k => .s (Fgz.trans h k)
theorem Fgz.set : ∀ {a b : ZEnv} (i : Nat) (o : Option Z), Fgz a b → Fgz (a.set i o) (b.set i o)
  | _, _, _, _, .nil => .nil
  | _, _, 0, none, .n h => .n h
  | _, _, 0, some z, .n h => .s h
  | _, _, 0, none, .s h => .n h
  | _, _, 0, some z, .s h => .s h
  | _, _, i + 1, o, .n h => .n (Fgz.set i o h)
  | _, _, i + 1, o, .s h => .s (Fgz.set i o h)
theorem Fgz.unset : ∀ {a b : ZEnv} (i : Nat) (o : Option Z), Fgz a b → Fgz (a.set i none) (b.set i o)
  | _, _, _, _, .nil => .nil
  | _, _, 0, _, .n h => .n h
  | _, _, 0, _, .s h => .n h
  | _, _, i + 1, o, .n h => .n (Fgz.unset i o h)
  | _, _, i + 1, o, .s h => .s (Fgz.unset i o h)
theorem Fgz.wipe {a b : ZEnv} (h : Fgz a b) : ∀ vs : List Nat, Fgz (zwipe a vs) (zwipe b vs)
  | [] => h
  | v :: vs => (Fgz.wipe h vs).set v none
theorem RE.forget {K : PySem.W.Frag} {H : Hp} : ∀ {a b : ZEnv} {σ : L2.St}, Fgz a b → RE K H b σ → RE K H a σ
  | _, _, _, .nil, .nil => .nil
  | _, _, _, .n h, .non r => .non (RE.forget h r)
  | _, _, _, .n h, .val _ r => .non (RE.forget h r)
  | _, _, _, .s h, .val q r => .val q (RE.forget h r)
section
variable {X : Cx} {B : Bs}
def WE (X : Cx) (B : Bs) (e : Expr) : ZT := fun ρ S Q => ∃ ρ' t, Fgz ρ' ρ ∧ ZE X B e t ∧ t ρ' S Q
def WT (X : Cx) (B : Bs) (e : Expr) : ZB := fun ρ S Q => ∃ ρ' t, Fgz ρ' ρ ∧ ZTe X B e t ∧ t ρ' S Q
def WW (X : Cx) (B : Bs) (e : Expr) : ZB := fun ρ S Q => ∃ ρ' t, Fgz ρ' ρ ∧ ZW X B e t ∧ t ρ' S Q
def WAs (X : Cx) (B : Bs) (e : List Expr) : ZA := fun ρ S Q => ∃ ρ' t, Fgz ρ' ρ ∧ ZAs X B e t ∧ t ρ' S Q
def WKw (X : Cx) (B : Bs) (e : List Keyword) : ZA := fun ρ S Q => ∃ ρ' t, Fgz ρ' ρ ∧ ZKw X B e t ∧ t ρ' S Q
def WSt (X : Cx) (B : Bs) (e : Stmt) : ZTS := fun D ρ S => ∃ ρ' t, Fgz ρ' ρ ∧ ZS X B e t ∧ t D ρ' S
def WSs (X : Cx) (B : Bs) (e : List Stmt) : ZTS := fun D ρ S => ∃ ρ' t, Fgz ρ' ρ ∧ ZSs X B e t ∧ t D ρ' S
def WI (X : Cx) (B : Bs) (tg e : Expr) : ZTI := fun ρ S Q => ∃ ρ' t, Fgz ρ' ρ ∧ ZI X B tg e t ∧ t ρ' S Q
theorem we_ze {e : Expr} : ZE X B e (WE X B e) := ⟨fun q ⟨ρ', t, f, h, w⟩ => ⟨ρ', t, f, h, h.mono q w⟩, ⟨fun pins s σ H Q I ⟨ρ, S, hE, hS, ρ', t, f, h, w⟩ => h.pe.run pins s σ H Q I ⟨ρ', S, hE.forget f, hS, w⟩⟩⟩
theorem wt_zt {e : Expr} : ZTe X B e (WT X B e) := ⟨fun q ⟨ρ', t, f, h, w⟩ => ⟨ρ', t, f, h, h.mono q w⟩, ⟨fun pins s σ H Q I ⟨ρ, S, hE, hS, ρ', t, f, h, w⟩ => h.pt.run pins s σ H Q I ⟨ρ', S, hE.forget f, hS, w⟩⟩⟩
theorem ww_zw {e : Expr} : ZW X B e (WW X B e) := ⟨fun q ⟨ρ', t, f, h, w⟩ => ⟨ρ', t, f, h, h.mono q w⟩, ⟨fun wh pins s σ H Q I ⟨ρ, S, hE, hS, ρ', t, f, h, w⟩ => h.pw.run wh pins s σ H Q I ⟨ρ', S, hE.forget f, hS, w⟩⟩⟩
theorem wa_za {e : List Expr} : ZAs X B e (WAs X B e) := ⟨fun q ⟨ρ', t, f, h, w⟩ => ⟨ρ', t, f, h, h.mono q w⟩, ⟨fun pos pins s σ H Q I ⟨ρ, S, hE, hS, ρ', t, f, h, w⟩ => h.pa.run pos pins s σ H Q I ⟨ρ', S, hE.forget f, hS, w⟩⟩⟩
theorem wk_zk {e : List Keyword} : ZKw X B e (WKw X B e) := ⟨fun q ⟨ρ', t, f, h, w⟩ => ⟨ρ', t, f, h, h.mono q w⟩, ⟨fun pos pins s σ H Q I ⟨ρ, S, hE, hS, ρ', t, f, h, w⟩ => h.pk.run pos pins s σ H Q I ⟨ρ', S, hE.forget f, hS, w⟩⟩⟩
theorem wss_zss {e : List Stmt} : ZSs X B e (WSs X B e) := ⟨⟨fun pins s σ H E I ⟨ρ, S, D, hE, hS, l, ρ', t, f, h, w⟩ => h.pss.run pins s σ H E I ⟨ρ', S, D, hE.forget f, hS, l, w⟩⟩⟩
theorem wi_zi {tg e : Expr} : ZI X B tg e (WI X B tg e) := ⟨fun q ⟨ρ', t, f, h, w⟩ => ⟨ρ', t, f, h, h.mono q w⟩, ⟨fun pins s σ H Q I ⟨ρ, S, hE, hS, ρ', t, f, h, w⟩ => h.pi.run pins s σ H Q I ⟨ρ', S, hE.forget f, hS, w⟩⟩⟩
theorem ZE.we {e : Expr} {t : ZT} (h : ZE X B e t) {ρ : ZEnv} {S : Sto} {Q : ZQ} (w : t ρ S Q) : WE X B e ρ S Q := ⟨ρ, t, .refl _, h, w⟩
theorem ZTe.we {e : Expr} {t : ZB} (h : ZTe X B e t) {ρ : ZEnv} {S : Sto} {Q} (w : t ρ S Q) : WT X B e ρ S Q := ⟨ρ, t, .refl _, h, w⟩
theorem ZW.we {e : Expr} {t : ZB} (h : ZW X B e t) {ρ : ZEnv} {S : Sto} {Q} (w : t ρ S Q) : WW X B e ρ S Q := ⟨ρ, t, .refl _, h, w⟩
theorem ZAs.we {e : List Expr} {t : ZA} (h : ZAs X B e t) {ρ : ZEnv} {S : Sto} {Q} (w : t ρ S Q) : WAs X B e ρ S Q := ⟨ρ, t, .refl _, h, w⟩
theorem ZKw.we {e : List Keyword} {t : ZA} (h : ZKw X B e t) {ρ : ZEnv} {S : Sto} {Q} (w : t ρ S Q) : WKw X B e ρ S Q := ⟨ρ, t, .refl _, h, w⟩
theorem ZI.we {tg e : Expr} {t : ZTI} (h : ZI X B tg e t) {ρ : ZEnv} {S : Sto} {Q} (w : t ρ S Q) : WI X B tg e ρ S Q := ⟨ρ, t, .refl _, h, w⟩
theorem ZS.we {e : Stmt} {t : ZTS} (h : ZS X B e t) {D : ZEnds} {ρ : ZEnv} {S : Sto} (w : t D ρ S) : WSt X B e D ρ S := ⟨ρ, t, .refl _, h, w⟩
theorem ZSs.we {e : List Stmt} {t : ZTS} (h : ZSs X B e t) {D : ZEnds} {ρ : ZEnv} {S : Sto} (w : t D ρ S) : WSs X B e D ρ S := ⟨ρ, t, .refl _, h, w⟩
theorem WSs.forget {e : List Stmt} {D : ZEnds} {ρ ρ' : ZEnv} {S : Sto} (f : Fgz ρ' ρ) (w : WSs X B e D ρ' S) : WSs X B e D ρ S := let ⟨ρ2, t, f2, h, w⟩ := w; ⟨ρ2, t, f2.trans f, h, w⟩
theorem WE.forget {e : Expr} {ρ ρ' : ZEnv} {S : Sto} {Q : ZQ} (f : Fgz ρ' ρ) (w : WE X B e ρ' S Q) : WE X B e ρ S Q := let ⟨ρ2, t, f2, h, w⟩ := w; ⟨ρ2, t, f2.trans f, h, w⟩
theorem WT.forget {e : Expr} {ρ ρ' : ZEnv} {S : Sto} {Q} (f : Fgz ρ' ρ) (w : WT X B e ρ' S Q) : WT X B e ρ S Q := let ⟨ρ2, t, f2, h, w⟩ := w; ⟨ρ2, t, f2.trans f, h, w⟩
end
inductive Vl where
  | d (x : PyData)
  | c (j : Nat)
  | k (xs : List PyData)
  | ob (a : Addr)
def Vl.den (ps : List Addr) : Vl → Z
  | .d x => .d x
  | .c j => .r (ps.getD j 0)
  | .k xs => .k xs
  | .ob a => .r a
abbrev VEnv := List (Option Vl)
def VEnv.den (ps : List Addr) (ρ : VEnv) : ZEnv := List.map (Option.map (Vl.den ps)) ρ
inductive Fg : VEnv → VEnv → Prop
  | nil : Fg [] []
  | n {o : Option Vl} {a b : VEnv} : Fg a b → Fg (none :: a) (o :: b)
  | s {z : Vl} {a b : VEnv} : Fg a b → Fg (some z :: a) (some z :: b)
theorem Fg.den (ps : List Addr) : ∀ {a b : VEnv}, Fg a b → Fgz (VEnv.den ps a) (VEnv.den ps b)
  | _, _, .nil => .nil
  | _, _, .n h => .n (Fg.den ps h)
  | _, _, .s h => .s (Fg.den ps h)
theorem Fg.refl : ∀ a : VEnv, Fg a a
  | [] => .nil
  | none :: a => .n (Fg.refl a)
  | some _ :: a => .s (Fg.refl a)
theorem Fg.none : ∀ b : VEnv, Fg (List.replicate b.length Option.none) b
  | [] => .nil
  | _ :: a => .n (Fg.none a)
def fgE (a b : VEnv) : Prop := match a, b with
  | [], [] => True
  | none :: a, _ :: b => fgE a b
  | some z :: a, o :: b => o = some z ∧ fgE a b
  | _, _ => False
theorem Fg.of : ∀ {a b : VEnv}, fgE a b → Fg a b
  | [], [], _ => .nil
  | Option.none :: a, _ :: b, h => .n (Fg.of h)
  | some z :: a, o :: b, h => by obtain ⟨rfl, h⟩ := h; exact .s (Fg.of h)
  | [], _ :: _, h => h.elim
  | Option.none :: _, [], h => h.elim
  | some _ :: _, [], h => h.elim
theorem den_set (ps : List Addr) (ρ : VEnv) (i : Nat) (o : Option Vl) : VEnv.den ps (ρ.set i o) = (VEnv.den ps ρ).set i (o.map (Vl.den ps)) := by
  unfold VEnv.den
  rw [List.map_set]
theorem den_get (ps : List Addr) (ρ : VEnv) (i : Nat) {v : Vl} (h : ρ[i]? = some (some v)) : (VEnv.den ps ρ)[i]? = some (some (v.den ps)) := by
  unfold VEnv.den
  rw [List.getElem?_map, h]
  rfl
def vwipe (ρ : VEnv) : List Nat → VEnv
  | [] => ρ
  | v :: vs => (vwipe ρ vs).set v none
theorem den_wipe (ps : List Addr) (ρ : VEnv) : ∀ vs : List Nat, VEnv.den ps (vwipe ρ vs) = zwipe (VEnv.den ps ρ) vs
  | [] => rfl
  | v :: vs => by rw [vwipe, zwipe, den_set, den_wipe ps ρ vs]; rfl
open V (Cells Exn Res M)
structure Gd where
  p : List Addr
  S : Sto
def OwnOk (S : Sto) : Prop := ∀ b a m, S b = some (.own a m) → ∃ dss, S a = some (.tab dss)
structure Rel (G : Gd) (ps : List Addr) (s : Cells) (S : Sto) : Prop where
  len : ps.length = s.length
  own : ∀ (j : Nat) (c : Cell) (a : Addr), s[j]? = some (some c) → ps[j]? = some a → S a = some c
  inj : ∀ (i j : Nat) (ci cj : Cell) (a : Addr), s[i]? = some (some ci) → s[j]? = some (some cj) → ps[i]? = some a → ps[j]? = some a → i = j
  fr : ∀ (a : Addr) (c : Cell), a ∉ G.p → G.S a = some c → S a = some c
  loc : ∀ (j : Nat) (c : Cell) (a : Addr), s[j]? = some (some c) → ps[j]? = some a → (j < G.p.length ∧ a ∈ G.p) ∨ (G.p.length ≤ j ∧ a ∉ G.p ∧ G.S a = none)
  gp : ∀ a ∈ G.p, S a ≠ none
  par : ps.take G.p.length = G.p
  owS : OwnOk S
  owG : OwnOk G.S
  gq : ∀ a ∈ G.p, ∀ p m, S a ≠ some (.own p m)
  cn : ∀ (j : Nat) (p : Addr) (m : Nat), s[j]? ≠ some (some (.own p m))
def sat {α : Type} (r : Res α) (Q : α → Cells → Prop) (E : Exn → Cells → Prop) : Prop := match r with
  | .ok a s => Q a s
  | .ex x s => E x s
  | .bad => False
theorem sat_bind {α β : Type} {m : M α} {k : α → M β} {s : Cells} {Q : β → Cells → Prop} {E : Exn → Cells → Prop} (h : sat ((m >>= k) s) Q E) : sat (m s) (fun a s' => sat (k a s') Q E) E := by
  rw [V.bind_def] at h
  unfold sat at *
  cases e : m s with
  | ok a s' => rw [e] at h; exact h
  | ex x s' => rw [e] at h; exact h
  | bad => rw [e] at h; exact h
theorem sat.mono {α : Type} {r : Res α} {Q Q' : α → Cells → Prop} {E E' : Exn → Cells → Prop} (h : sat r Q E) (q : ∀ a s, Q a s → Q' a s) (e : ∀ x s, E x s → E' x s) : sat r Q' E' := by
  unfold sat at *
  cases r with
  | ok a s => exact q _ _ h
  | ex x s => exact e _ _ h
  | bad => exact h
def XR (mg : Str → Option Value) (x : Exn) (zx : ZX) : Prop := mg x.name = some (.ref zx.cls) ∧ zx.fs = x.fs
abbrev XW := ZX → Sto → Prop
def XOk (mg : Str → Option Value) (G : Gd) (EZ : XW) (x : Exn) (s : Cells) : Prop := ∀ zx ps S, Rel G ps s S → XR mg x zx → EZ zx S
structure Ct where
  X : Cx
  B : Bs
  G : Gd
  EZ : XW
def FE (C : Ct) (e : Expr) (ρ : VEnv) (m : M PyData) : Prop := ∀ ps s S (Q : ZQ), Rel C.G ps s S → sat (m s) (fun d s' => ∀ S', Rel C.G ps s' S' → Q (.d d) S') (XOk C.X.mg C.G C.EZ) → WE C.X C.B e (VEnv.den ps ρ) S Q
def FT (C : Ct) (e : Expr) (ρ : VEnv) (m : M Bool) : Prop := ∀ ps s S (Q : Bool → Sto → Prop), Rel C.G ps s S → sat (m s) (fun d s' => ∀ S', Rel C.G ps s' S' → Q d S') (XOk C.X.mg C.G C.EZ) → WT C.X C.B e (VEnv.den ps ρ) S Q
def FW (C : Ct) (e : Expr) (ρ : VEnv) (m : M Bool) : Prop := ∀ ps s S (Q : Bool → Sto → Prop), Rel C.G ps s S → sat (m s) (fun d s' => ∀ S', Rel C.G ps s' S' → Q d S') (XOk C.X.mg C.G C.EZ) → WW C.X C.B e (VEnv.den ps ρ) S Q
def WL (X : Cx) (B : Bs) : List Expr → ZA
  | [] => fun ρ S Q => Q [] S
  | e :: es => fun ρ S Q => WE X B e ρ S fun z S1 => WL X B es ρ S1 fun zs S2 => Q (z :: zs) S2
def FL (C : Ct) (es : List Expr) (ρ : VEnv) (acc : List Vl) {β : Type} (m : M β) (k : List Vl → M β) : Prop :=
  ∀ ps s S (Q : List Z → Sto → Prop) (R : β → Cells → Prop), Rel C.G ps s S → sat (m s) R (XOk C.X.mg C.G C.EZ) → (∀ ds s' S', Rel C.G ps s' S' → sat (k (acc ++ ds) s') R (XOk C.X.mg C.G C.EZ) → Q (ds.map (Vl.den ps)) S') → WL C.X C.B es (VEnv.den ps ρ) S Q
section
variable {C : Ct} {e a b : Expr} {es : List Expr} {ρ : VEnv}
theorem fl_nil {β : Type} {acc : List Vl} {m : M β} {k : List Vl → M β} (h : m = k acc := by rfl) : FL C [] ρ acc m k := by
  subst h
  exact fun ps s S Q R r w q => q [] s S r (by rw [List.append_nil]; exact w)
theorem fl_cons {β : Type} {acc : List Vl} {me : M PyData} {m : PyData → M β} {k : List Vl → M β} (he : FE C e ρ me) (hr : ∀ x, FL C es ρ (acc ++ [.d x]) (m x) k) : FL C (e :: es) ρ acc (me >>= m) k := by
  intro ps s S Q R r w q
  refine he ps s S _ r ((sat_bind w).mono (fun x s1 h S1 r1 => ?_) fun _ _ h => h)
  exact hr x ps s1 S1 _ R r1 h fun ds s' S' r' h' => q (.d x :: ds) s' S' r' (by rw [List.append_assoc] at h'; exact h')
theorem fl_at {β : Type} {acc : List Vl} {x : PyData} {m : M β} {k : List Vl → M β} (he : FE C e ρ (pure x)) (hr : FL C es ρ (acc ++ [.d x]) m k) : FL C (e :: es) ρ acc m k := by
  intro ps s S Q R r w q
  refine he ps s S _ r ?_
  intro S1 r1
  exact hr ps s S1 _ R r1 w fun ds s' S' r' h' => q (.d x :: ds) s' S' r' (by rw [List.append_assoc] at h'; exact h')
theorem fl_c {β : Type} {acc : List Vl} {m : M β} {k : List Vl → M β} (i : Nat) (v : Vl) {x : Str} {pos : Pos} (hρ : ρ[i]? = some (some v)) (hr : FL C es ρ (acc ++ [v]) m k) (hN : C.X.N[i]? = some x := by rfl) (hv : Vis C.X.env.scope x := by first | exact Or.inl rfl | exact Or.inr (Or.inl rfl) | exact Or.inr (Or.inr rfl)) (hd : (x == ("__debug__" : Str)) = false := by decide)
    (hcd : (x == ("__classdict__" : Str)) = false := by decide) : FL C (.Name x pos :: es) ρ acc m k := by
  intro ps s S Q R r w q
  refine (zv i hN hv hd hcd).we ?_
  show zVar i _ _ _
  unfold zVar
  rw [den_get ps ρ i hρ]
  exact hr ps s S _ R r w fun ds s' S' r' h' => q (v :: ds) s' S' r' (by rw [List.append_assoc] at h'; exact h')
end
theorem ofO_ok {α : Type} {o : Option α} {a : α} {s s' : Cells} (h : V.ofO o s = .ok a s') : o = some a ∧ s' = s := by
  cases o with
  | none => cases h
  | some b => cases h; exact ⟨rfl, rfl⟩
theorem sat_ofO {α : Type} {o : Option α} {s : Cells} {Q : α → Cells → Prop} {E : Exn → Cells → Prop} (h : sat (V.ofO o s) Q E) : ∃ a, o = some a ∧ Q a s := by
  cases o with
  | none => exact h.elim
  | some b => exact ⟨b, rfl, h⟩
theorem sat_getC {s : Cells} {j : Nat} {Q : List PyData → Cells → Prop} {E : Exn → Cells → Prop} (h : sat (V.getC j s) Q E) : ∃ xs, s[j]? = some (some (.lst xs)) ∧ Q xs s := by
  unfold V.getC at h
  split at h
  · rename_i xs e; exact ⟨xs, e, h⟩
  · exact h.elim
theorem Rel.at {G : Gd} {ps : List Addr} {s : Cells} {S : Sto} (r : Rel G ps s S) {j : Nat} {c : Cell} (h : s[j]? = some (some c)) : ps[j]? = some (ps.getD j 0) ∧ S (ps.getD j 0) = some c := by
  have hj : j < ps.length := by rw [r.len]; exact (List.getElem?_eq_some_iff.mp h).1
  have e : ps[j]? = some (ps.getD j 0) := by simp [hj]
  exact ⟨e, r.own j c _ h e⟩
end ZL
namespace V
open PySem PySem.Spec ZL L2
def addO : PyData → PyData → Option PyData
  | .int i, .int j => some (.int (i + j))
  | .str i, .str j => if i.length + j.length ≤ line then some (.str (i ++ j)) else none
  | .tuple i, .tuple j => if i.length + j.length ≤ line then some (.tuple (i ++ j)) else none
  | .list i, .list j => if i.length + j.length ≤ line then some (.list (i ++ j)) else none
  | _, _ => none
def subO : PyData → PyData → Option PyData
  | .int i, .int j => some (.int (i - j))
  | _, _ => none
def mulOk (i j : Int) : Bool := decide (i.natAbs.log2 + j.natAbs.log2 + 2 ≤ 134217728)
def mulO : PyData → PyData → Option PyData
  | .int i, .int j => if mulOk i j then some (.int (i * j)) else none
  | _, _ => none
def divOk (j : Int) : Bool := decide (j ≠ 0) && decide (j.natAbs.log2 < 9000)
def fdivO : PyData → PyData → Option PyData
  | .int i, .int j => if divOk j then some (.int (i.fdiv j)) else none
  | _, _ => none
def modO : PyData → PyData → Option PyData
  | .int i, .int j => if 0 < j then some (.int (i % j)) else none
  | _, _ => none
def powOk (i j : Int) : Bool := decide (0 ≤ j) && decide (j ≤ 1000000) && decide (i.natAbs < 2 ^ 64)
def powO : PyData → PyData → Option PyData
  | .int i, .int j => if powOk i j then some (.int (i ^ j.toNat)) else none
  | _, _ => none
def negO : PyData → Option PyData
  | .int i => some (.int (-i))
  | _ => none
def ltO : PyData → PyData → Option Bool
  | .int i, .int j => some (decide (i < j))
  | _, _ => none
def leO : PyData → PyData → Option Bool
  | .int i, .int j => some (decide (i ≤ j))
  | _, _ => none
def gtO : PyData → PyData → Option Bool
  | .int i, .int j => some (decide (j < i))
  | _, _ => none
def eqO : PyData → PyData → Option Bool
  | .int i, .int j => some (decide (i = j))
  | .str i, .str j => some (decide (i = j))
  | a, b => if SeqAt.shaped a && SeqAt.shaped b then some (PyData.eqv a b) else none
def neO : PyData → PyData → Option Bool
  | .int i, .int j => some (!decide (i = j))
  | .str i, .str j => some (!decide (i = j))
  | a, b => if SeqAt.shaped a && SeqAt.shaped b then some (!PyData.eqv a b) else none
def rowD : PyData → Option (List PyData)
  | .list xs => some xs
  | .tuple xs => some xs
  | _ => none
def ixO : PyData → PyData → Option PyData
  | .list xs, .int i => atI xs i
  | .tuple xs, .int i => atI xs i
  | _, _ => none
def lenO : PyData → Option PyData
  | .str x => if x.length ≤ line then some (.int x.length) else none
  | .list xs => some (.int xs.length)
  | .tuple xs => some (.int xs.length)
  | _ => none
def isO (T : Ty7) (d : PyData) : PyData := .bool (isD T d)
def reprOk (d : PyData) : Bool := d.showable && decide (d.depth ≤ 100) && (!d.hasDict || lfree d) && decide (d.shown.length ≤ line)
def reprO (d : PyData) : Option PyData := if reprOk d then some (.str d.shown) else none
def allO : PyData → Option PyData
  | .list xs => (boolsZ xs).map fun bs => .bool (bs.all fun b => b)
  | _ => none
def anyO : PyData → Option PyData
  | .list xs => (boolsZ xs).map fun bs => .bool (bs.any fun b => b)
  | _ => none
def intO : PyData → Option PyData
  | .int i => some (.int i)
  | .bool b => some (.int (if b then 1 else 0))
  | _ => none
def absO : PyData → Option PyData
  | .int i => some (.int (absI i))
  | _ => none
def maxO : PyData → PyData → Option PyData
  | .int i, .int j => some (.int (maxI i j))
  | _, _ => none
def minO : PyData → PyData → Option PyData
  | .int i, .int j => some (.int (minI i j))
  | _, _ => none
def tupleO (x : PyData) : Option PyData := (rowD x).map .tuple
def listO (x : PyData) : Option PyData := (rowD x).map .list
def sliceO (x : PyData) (lo hi : Option Int) : Option PyData := match x with
  | .list xs => some (.list (cutD xs lo hi))
  | .tuple xs => some (.tuple (cutD xs lo hi))
  | _ => none
def toB : PyData → M Bool
  | .bool b => pure b
  | _ => bad
def ofB (m : M Bool) : M PyData := m >>= fun b => pure (.bool b)
abbrev addM (x y : PyData) : M PyData := ofO (addO x y)
abbrev subM (x y : PyData) : M PyData := ofO (subO x y)
abbrev mulM (x y : PyData) : M PyData := ofO (mulO x y)
abbrev fdivM (x y : PyData) : M PyData := ofO (fdivO x y)
abbrev modM (x y : PyData) : M PyData := ofO (modO x y)
abbrev powM (x y : PyData) : M PyData := ofO (powO x y)
abbrev negM (x : PyData) : M PyData := ofO (negO x)
abbrev ltM (x y : PyData) : M Bool := ofO (ltO x y)
abbrev leM (x y : PyData) : M Bool := ofO (leO x y)
abbrev gtM (x y : PyData) : M Bool := ofO (gtO x y)
abbrev eqM (x y : PyData) : M Bool := ofO (eqO x y)
abbrev neM (x y : PyData) : M Bool := ofO (neO x y)
abbrev ixM (x y : PyData) : M PyData := ofO (ixO x y)
abbrev lenM (x : PyData) : M PyData := ofO (lenO x)
abbrev reprM (x : PyData) : M PyData := ofO (reprO x)
abbrev allM (x : PyData) : M PyData := ofO (allO x)
abbrev anyM (x : PyData) : M PyData := ofO (anyO x)
abbrev intM (x : PyData) : M PyData := ofO (intO x)
abbrev absM (x : PyData) : M PyData := ofO (absO x)
abbrev maxM (x y : PyData) : M PyData := ofO (maxO x y)
abbrev minM (x y : PyData) : M PyData := ofO (minO x y)
abbrev tupleM (x : PyData) : M PyData := ofO (tupleO x)
abbrev listM (x : PyData) : M PyData := ofO (listO x)
def ptO : Option PyData → Option (Option Int)
  | none => some none
  | some (.int i) => some (some i)
  | _ => none
def sliceM (x : PyData) (lo hi : Option PyData) : M PyData := ofO ((ptO lo).bind fun l => (ptO hi).bind fun h => sliceO x l h)
def bi2 {β : Type} (g : PyData → PyData → M β) : List Vl → M β
  | [.d x, .d y] => g x y
  | _ => bad
def un {β : Type} (g : PyData → M β) : List Vl → M β
  | [.d x] => g x
  | _ => bad
def row1 {β : Type} (g : PyData → M β) : List Vl → M β
  | [.d x] => g x
  | [.c j] => getC j >>= fun xs => g (.list xs)
  | [.k xs] => g (.list xs)
  | _ => bad
def row2 {β : Type} (g : PyData → PyData → M β) : List Vl → M β
  | [.d x, .d y] => g x y
  | [.c j, .d y] => getC j >>= fun xs => g (.list xs) y
  | [.k xs, .d y] => g (.list xs) y
  | _ => bad
def datV : List Vl → Option (List PyData)
  | [] => some []
  | .d x :: r => (datV r).map (x :: ·)
  | _ :: _ => none
def tupK (l : List Vl) : M PyData := match datV l with
  | some ds => if ds.length ≤ line then pure (.tuple ds) else bad
  | none => bad
def lstK (l : List Vl) : M PyData := match datV l with
  | some ds => if ds.length ≤ line then pure (.list ds) else bad
  | none => bad
def tNot (m : M Bool) : M Bool := m >>= fun b => pure (!b)
def tAnd (m n : M Bool) : M Bool := m >>= fun b => bif b then n else pure false
def tOr (m n : M Bool) : M Bool := m >>= fun b => bif b then pure true else n
end V
namespace ZL
open PySem PySem.Spec PyProof.Rows L2 V
theorem line_eq : V.line = sizeLine := by rw [sizeLine_eq]; rfl
theorem mulOk_ok {i j : Int} (h : mulOk i j = true) : MulOk i j := by
  have h := of_decide_eq_true h
  unfold MulOk
  refine IntMulOk.of_le (a := i) (b := j) (bits_le (n := i.natAbs.log2 + 1) ?_) (bits_le (n := j.natAbs.log2 + 1) ?_) (by omega)
  · exact Nat.lt_log2_self
  · exact Nat.lt_log2_self
theorem divOk_ok {i j : Int} (h : divOk j = true) : DivOk i j := by
  unfold divOk at h
  simp only [Bool.and_eq_true, decide_eq_true_eq] at h
  exact h
theorem powOk_ok {i j : Int} (h : powOk i j = true) : PowOk i j := by
  unfold powOk at h
  simp only [Bool.and_eq_true, decide_eq_true_eq] at h
  exact ⟨h.1.1, h.1.2, h.2⟩
def Op2 (r : ZR2) (g : PyData → PyData → Option PyData) : Prop := ∀ x y d S Q, g x y = some d → Q (.d d) S → r (.d x) (.d y) S Q
def Op2b (r : ZR2) (g : PyData → PyData → Option Bool) : Prop := ∀ x y d S Q, g x y = some d → Q (.d (.bool d)) S → r (.d x) (.d y) S Q
theorem o_add : Op2 rZPlus addO := by
  intro x y d S Q h q
  unfold addO at h
  split at h
  · cases h; exact q
  · split at h <;> cases h; rename_i h; rw [line_eq] at h; exact ⟨h, q⟩
  · split at h <;> cases h; rename_i h; rw [line_eq] at h; exact ⟨h, q⟩
  · split at h <;> cases h; rename_i h; rw [line_eq] at h; exact ⟨h, q⟩
  · cases h
theorem o_sub : Op2 (rZ0 fun i j => zi (i - j)) subO := by
  intro x y d S Q h q
  unfold subO at h
  split at h <;> cases h
  exact q
theorem o_mul : Op2 rZMul mulO := by
  intro x y d S Q h q
  unfold mulO at h
  split at h
  · split at h <;> cases h; rename_i h; exact ⟨mulOk_ok h, q⟩
  · cases h
theorem o_fdiv : Op2 (rZI DivOk fun i j => zi (i.fdiv j)) fdivO := by
  intro x y d S Q h q
  unfold fdivO at h
  split at h
  · split at h <;> cases h; rename_i h; exact ⟨divOk_ok h, q⟩
  · cases h
theorem o_mod : Op2 (rZI (fun _ j => 0 < j) fun i j => zi (i % j)) modO := by
  intro x y d S Q h q
  unfold modO at h
  split at h
  · split at h <;> cases h; rename_i h; exact ⟨h, q⟩
  · cases h
theorem o_pow : Op2 (rZI PowOk fun i j => zi (i ^ j.toNat)) powO := by
  intro x y d S Q h q
  unfold powO at h
  split at h
  · split at h <;> cases h; rename_i h; exact ⟨powOk_ok h, q⟩
  · cases h
theorem o_lt : Op2b (rZ0 fun i j => zb (decide (i < j))) ltO := by
  intro x y d S Q h q
  unfold ltO at h
  split at h <;> cases h
  exact q
theorem o_le : Op2b (rZ0 fun i j => zb (decide (i ≤ j))) leO := by
  intro x y d S Q h q
  unfold leO at h
  split at h <;> cases h
  exact q
theorem o_gt : Op2b (rZ0 fun i j => zb (decide (j < i))) gtO := by
  intro x y d S Q h q
  unfold gtO at h
  split at h <;> cases h
  exact q
theorem o_eq : Op2b rZEq eqO := by
  intro x y d S Q h q
  unfold eqO at h
  split at h
  · cases h; exact q
  · cases h; exact q
  · rename_i n1 n2
    split at h <;> cases h
    rename_i h
    simp only [Bool.and_eq_true] at h
    unfold rZEq
    split
    · rename_i e1 e2; cases e1; cases e2; exact (n1 _ _ rfl rfl).elim
    · rename_i e1 e2; cases e1; cases e2; exact (n2 _ _ rfl rfl).elim
    · rename_i e1 e2; cases e1; cases e2; exact ⟨h, q⟩
    · rename_i k; exact (k _ _ rfl rfl).elim
theorem o_ne : Op2b rZNe neO := by
  intro x y d S Q h q
  unfold neO at h
  split at h
  · cases h; exact q
  · cases h; exact q
  · rename_i n1 n2
    split at h <;> cases h
    rename_i h
    simp only [Bool.and_eq_true] at h
    unfold rZNe
    split
    · rename_i e1 e2; cases e1; cases e2; exact (n1 _ _ rfl rfl).elim
    · rename_i e1 e2; cases e1; cases e2; exact (n2 _ _ rfl rfl).elim
    · rename_i e1 e2; cases e1; cases e2; exact ⟨h, q⟩
    · rename_i k; exact (k _ _ rfl rfl).elim
section
variable {C : Ct} {e a b c : Expr} {es : List Expr} {ρ : VEnv} {pos : Pos}
theorem f_v (i : Nat) {x : Str} {d : PyData} (hρ : ρ[i]? = some (some (.d d)) := by rfl) (hN : C.X.N[i]? = some x := by rfl) (hv : Vis C.X.env.scope x := by first | exact Or.inl rfl | exact Or.inr (Or.inl rfl) | exact Or.inr (Or.inr rfl)) (hd : (x == ("__debug__" : Str)) = false := by decide)
    (hcd : (x == ("__classdict__" : Str)) = false := by decide) : FE C (.Name x pos) ρ (pure d) := by
  intro ps s S Q r w
  refine (zv i hN hv hd hcd).we ?_
  show zVar i _ _ _
  unfold zVar
  rw [den_get ps ρ i hρ]
  exact w S r
theorem f_of {d : PyData} (h : ZE C.X C.B e (zC (.d d))) : FE C e ρ (pure d) := fun ps s S Q r w => h.we (w S r)
theorem f_int {i j pos} : FE C (.Constant (.int i) j pos) ρ (pure (.int i)) := f_of ze_int
theorem f_bl {i j pos} : FE C (.Constant (.bool i) j pos) ρ (pure (.bool i)) := f_of ze_bl
theorem f_non {j pos} : FE C (.Constant .none j pos) ρ (pure .none) := f_of ze_non
theorem f_str {x j pos} : FE C (.Constant (.str x) j pos) ρ (pure (.str x)) := f_of ze_str
theorem fl_two {β : Type} {m : M β} {g : PyData → PyData → M β} (h : FL C [a, b] ρ [] m (bi2 g)) {ps : List Addr} {s : Cells} {S : Sto} {Q : Z → Z → Sto → Prop} {R : β → Cells → Prop} (r : Rel C.G ps s S) (w : sat (m s) R (XOk C.X.mg C.G C.EZ))
    (q : ∀ x y s' S', Rel C.G ps s' S' → sat (g x y s') R (XOk C.X.mg C.G C.EZ) → Q (.d x) (.d y) S') : WE C.X C.B a (VEnv.den ps ρ) S fun x S1 => WE C.X C.B b (VEnv.den ps ρ) S1 fun y S2 => Q x y S2 := by
  have := h ps s S (fun zs S' => match zs with | [x, y] => Q x y S' | _ => True) R r w fun ds s' S' r' w' => by
    rw [List.nil_append] at w'
    unfold bi2 at w'
    split at w'
    · exact q _ _ s' S' r' w'
    · exact w'.elim
  exact this
theorem f_bin {op : Operator} {rr : ZR2} {g : PyData → PyData → Option PyData} {m : M PyData} (ho : ZOp C.X (binaryOp op) rr) (hg : Op2 rr g) (h : FL C [a, b] ρ [] m (bi2 fun x y => ofO (g x y))) : FE C (.BinOp a op b pos) ρ m := by
  intro ps s S Q r w
  refine (ze_op ho we_ze we_ze).we ?_
  refine fl_two h r w fun x y s' S' r' w' => ?_
  obtain ⟨d, e, q⟩ := sat_ofO w'
  exact hg x y d S' Q e (q S' r')
theorem f_add {m : M PyData} (h : FL C [a, b] ρ [] m (bi2 addM)) : FE C (.BinOp a .Add b pos) ρ m := f_bin zplus o_add h
theorem f_sub {m : M PyData} (h : FL C [a, b] ρ [] m (bi2 subM)) : FE C (.BinOp a .Sub b pos) ρ m := f_bin zsub o_sub h
theorem f_mul {m : M PyData} (h : FL C [a, b] ρ [] m (bi2 mulM)) : FE C (.BinOp a .Mult b pos) ρ m := f_bin zmul o_mul h
theorem f_fdiv {m : M PyData} (h : FL C [a, b] ρ [] m (bi2 fdivM)) : FE C (.BinOp a .FloorDiv b pos) ρ m := f_bin zfdiv o_fdiv h
theorem f_mod {m : M PyData} (h : FL C [a, b] ρ [] m (bi2 modM)) : FE C (.BinOp a .Mod b pos) ρ m := f_bin zmod o_mod h
theorem f_pow {m : M PyData} (h : FL C [a, b] ρ [] m (bi2 powM)) : FE C (.BinOp a .Pow b pos) ρ m := f_bin zpow o_pow h
theorem t_cmp {op : CmpOp} {rr : ZR2} {g : PyData → PyData → Option Bool} {m : M Bool} (ho : ZOp C.X (compareOp op) rr) (hg : Op2b rr g) (h : FL C [a, b] ρ [] m (bi2 fun x y => ofO (g x y))) (hm : behindInMarks op b = false := by first | rfl | exact nomark _) : FT C (.Compare a [op] [b] pos) ρ m := by
  intro ps s S Q r w
  refine (zt_cmp ho we_ze we_ze hm).we ?_
  refine fl_two h r w fun x y s' S' r' w' => ?_
  obtain ⟨d, e, q⟩ := sat_ofO w'
  exact hg x y d S' _ e (q S' r')
theorem f_cmp {op : CmpOp} {rr : ZR2} {g : PyData → PyData → Option Bool} {m : M Bool} (ho : ZOp C.X (compareOp op) rr) (hg : Op2b rr g) (h : FL C [a, b] ρ [] m (bi2 fun x y => ofO (g x y))) (hm : behindInMarks op b = false := by first | rfl | exact nomark _) : FE C (.Compare a [op] [b] pos) ρ (ofB m) := by
  intro ps s S Q r w
  refine (ze_cmp ho we_ze we_ze hm).we ?_
  refine fl_two h r (sat_bind w) fun x y s' S' r' w' => ?_
  obtain ⟨d, e, q⟩ := sat_ofO w'
  exact hg x y d S' _ e (q S' r')
theorem t_val {m : M PyData} (h : FE C e ρ m) (he : ∀ whole, isTrue e C.X.env whole = (do let v ← whole; standAt e.pos; holding [v] (truthy v)) := by intro _; rfl) : FT C e ρ (m >>= toB) := by
  intro ps s S Q r w
  refine (zt_val we_ze he).we ?_
  refine h ps s S _ r ((sat_bind w).mono (fun d s' h S' r' => ?_) fun _ _ h => h)
  cases d with
  | bool b => exact h S' r'
  | _ => exact h.elim
theorem t_not {m : M Bool} (h : FT C a ρ m) : FT C (.UnaryOp .Not a pos) ρ (tNot m) := by
  intro ps s S Q r w
  refine (zt_not wt_zt).we ?_
  exact h ps s S _ r ((sat_bind w).mono (fun d s' h S' r' => h S' r') fun _ _ h => h)
variable {rest : List Expr} {ma mb : M Bool}
theorem w_or1 (h : FT C a ρ ma) : FW C (.BoolOp .Or [a] pos) ρ ma := fun ps s S Q r w => (zw_or1 wt_zt).we (h ps s S _ r w)
theorem w_or (h : FT C a ρ ma) (h2 : FW C (.BoolOp .Or (b :: rest) pos) ρ mb) : FW C (.BoolOp .Or (a :: b :: rest) pos) ρ (tOr ma mb) := by
  intro ps s S Q r w
  refine (zw_or wt_zt ww_zw).we ?_
  refine h ps s S _ r ((sat_bind w).mono (fun d s' w' S' r' => ?_) fun _ _ h => h)
  cases d with
  | true => exact w' S' r'
  | false => exact h2 ps s' S' _ r' w'
theorem FW.t (h : FW C a ρ ma) : FT C a ρ ma := fun ps s S Q r w => (ww_zw.t).we (h ps s S _ r w)
theorem f_one {op} {m : M PyData} (h : FE C a ρ m) : FE C (.BoolOp op [a] pos) ρ m := fun ps s S Q r w => (ze_one we_ze).we (h ps s S _ r w)
def andV (m n : M PyData) : M PyData := m >>= fun x => toB x >>= fun b => bif b then n else pure (.bool false)
def orV (m n : M PyData) : M PyData := m >>= fun x => toB x >>= fun b => bif b then pure (.bool true) else n
variable {na nb : M PyData}
theorem f_and (h : FE C a ρ na) (h2 : FE C (.BoolOp .And (b :: rest) pos) ρ nb) : FE C (.BoolOp .And (a :: b :: rest) pos) ρ (andV na nb) := by
  intro ps s S Q r w
  refine (ze_and we_ze we_ze).we ?_
  refine h ps s S _ r ((sat_bind w).mono (fun d s' w' S' r' => ?_) fun _ _ h => h)
  cases d with
  | bool b =>
    cases b with
    | true => exact h2 ps s' S' _ r' w'
    | false => exact w' S' r'
  | _ => exact w'.elim
def notV (m : M PyData) : M PyData := m >>= fun x => toB x >>= fun b => pure (.bool (!b))
theorem f_not (h : FE C a ρ na) : FE C (.UnaryOp .Not a pos) ρ (notV na) := by
  intro ps s S Q r w
  refine (ze_not we_ze).we ?_
  refine h ps s S _ r ((sat_bind w).mono (fun d s' w' S' r' => ?_) fun _ _ h => h)
  cases d with
  | bool b => exact w' S' r'
  | _ => exact w'.elim
theorem f_if (hc : FT C c ρ ma) (h : FE C a ρ na) (h2 : FE C b ρ nb) : FE C (.IfExp c a b pos) ρ (ma >>= fun t => bif t then na else nb) := by
  intro ps s S Q r w
  refine (ze_if wt_zt we_ze we_ze).we ?_
  refine hc ps s S _ r ((sat_bind w).mono (fun d s' w' S' r' => ?_) fun _ _ h => h)
  cases d with
  | true => exact h ps s' S' _ r' w'
  | false => exact h2 ps s' S' _ r' w'
theorem f_neg (h : FL C [a] ρ [] na (un negM)) : FE C (.UnaryOp .USub a pos) ρ na := by
  intro ps s S Q r w
  refine (ze_neg we_ze).we ?_
  have := h ps s S (fun zs S' => match zs with | [x] => (match x with | .d (.int i) => Q (zi (-i)) S' | _ => False) | _ => True) _ r w fun ds s' S' r' w' => by
    rw [List.nil_append] at w'
    unfold un at w'
    split at w'
    · obtain ⟨d, e, q⟩ := sat_ofO w'
      unfold negO at e
      split at e <;> cases e
      exact q S' r'
    · exact w'.elim
  exact this
theorem ixO_int {x y d : PyData} (e : ixO x y = some d) : ∃ i, y = .int i := by
  unfold ixO at e
  split at e
  · exact ⟨_, rfl⟩
  · exact ⟨_, rfl⟩
  · cases e
theorem f_ix (h : FL C [a, b] ρ [] na (row2 ixM)) (hs : PlainIx b := by intro _ _; rfl) : FE C (.Subscript a b pos) ρ na := by
  intro ps s S Q r w
  refine (ze_ix we_ze we_ze hs).we ?_
  have := h ps s S (fun zs S' => match zs with | [x, y] => rZIx x y S' Q | _ => True) _ r w fun ds s' S' r' w' => by
    rw [List.nil_append] at w'
    unfold row2 at w'
    split at w'
    · obtain ⟨d, e, q⟩ := sat_ofO w'
      unfold ixO at e
      split at e
      · show rZIx _ _ _ _; unfold rZIx; simp only [Vl.den, rowZ]; rw [e]; exact q S' r'
      · show rZIx _ _ _ _; unfold rZIx; simp only [Vl.den, rowZ]; rw [e]; exact q S' r'
      · cases e
    · obtain ⟨xs, ex, w'⟩ := sat_getC (sat_bind w')
      obtain ⟨d, e, q⟩ := sat_ofO w'
      obtain ⟨i, rfl⟩ := ixO_int e
      have e : atI xs i = some d := e
      have o := (r'.at ex).2
      show rZIx _ _ _ _; unfold rZIx; simp only [Vl.den, rowZ]; rw [o]; simp only []; rw [e]; exact q S' r'
    · obtain ⟨d, e, q⟩ := sat_ofO w'
      obtain ⟨i, rfl⟩ := ixO_int e
      rename_i _ xs
      have e : atI xs i = some d := e
      show rZIx _ _ _ _; unfold rZIx; simp only [Vl.den, rowZ]; rw [e]; exact q S' r'
    · exact w'.elim
  exact this
end
end ZL
namespace V
open PySem PySem.Spec ZL L2
abbrev pN : PyData → Option PyData := some
def pT2 {α β : Type} (p : PyData → Option α) (q : PyData → Option β) : PyData → Option (α × β)
  | .tuple [x, y] => (p x).bind fun a => (q y).bind fun b => some (a, b)
  | _ => none
def compP {T : Type} (mt : PyData → Option T) (c : T → M Bool) (f : T → M PyData) : List PyData → M (List PyData)
  | [] => pure []
  | x :: r => ofO (mt x) >>= fun t => c t >>= fun b => bif b then (f t >>= fun y => compP mt c f r >>= fun ys => pure (y :: ys)) else compP mt c f r
def comp {T : Type} (mt : PyData → Option T) (c : T → M Bool) (f : T → M PyData) (xs : List PyData) : M (List PyData) := noex (if xs.length ≤ line then compP mt c f xs else bad)
abbrev yep {T : Type} : T → M Bool := fun _ => pure true
def setl (ρ : VEnv) (l : List (Nat × PyData)) : VEnv := l.foldl (fun ρ p => ρ.set p.1 (some (.d p.2))) ρ
def setz (ρ : ZEnv) (l : List (Nat × PyData)) : ZEnv := l.foldl (fun ρ p => ρ.set p.1 (some (.d p.2))) ρ
theorem den_setl (ps : List Addr) : ∀ (l : List (Nat × PyData)) (ρ : VEnv), VEnv.den ps (setl ρ l) = setz (VEnv.den ps ρ) l
  | [], _ => rfl
  | p :: l, ρ => by
    show VEnv.den ps (setl (ρ.set p.1 (some (.d p.2))) l) = setz ((VEnv.den ps ρ).set p.1 (some (.d p.2))) l
    rw [den_setl ps l, den_set]; rfl
theorem fg_setz : ∀ (l : List (Nat × PyData)) {a b : ZEnv}, Fgz a b → Fgz (setz a l) (setz b l)
  | [], _, _, h => h
  | p :: l, a, b, h => fg_setz l (h.set p.1 _)
def rangeO : PyData → PyData → Option (List PyData)
  | .int i, .int j => if decide (-(2 ^ 62) ≤ i) && decide (i < 2 ^ 62) && decide (-(2 ^ 62) ≤ j) && decide (j < 2 ^ 62) then some (rangeD i (j - i).toNat) else none
  | _, _ => none
abbrev rangeM (x y : PyData) : M (List PyData) := ofO (rangeO x y)
theorem rangeO_inv {x y : PyData} {xs : List PyData} (h : rangeO x y = some xs) : ∃ i j, x = .int i ∧ y = .int j ∧ (-(2 ^ 62) ≤ i ∧ i < 2 ^ 62) ∧ (-(2 ^ 62) ≤ j ∧ j < 2 ^ 62) ∧ xs = rangeD i (j - i).toNat := by
  unfold rangeO at h
  split at h
  · split at h
    · rename_i i j h1
      simp only [Bool.and_eq_true, decide_eq_true_eq] at h1
      cases h
      exact ⟨i, j, rfl, rfl, ⟨h1.1.1.1, h1.1.1.2⟩, ⟨h1.1.2, h1.2⟩, rfl⟩
    · cases h
  · cases h
abbrev rowM (x : PyData) : M (List PyData) := ofO (rowD x)
end V
namespace ZL
open PySem PySem.Spec PyProof.Rows L2 V
def FA (C : Ct) (es : List Expr) (ρ : VEnv) (acc : List Vl) {β : Type} (m : M β) (k : List Vl → M β) : Prop :=
  ∀ ps s S (Q : List Z → Sto → Prop) (R : β → Cells → Prop), Rel C.G ps s S → sat (m s) R (XOk C.X.mg C.G C.EZ) → (∀ ds s' S', Rel C.G ps s' S' → sat (k (acc ++ ds) s') R (XOk C.X.mg C.G C.EZ) → Q (ds.map (Vl.den ps)) S') → WAs C.X C.B es (VEnv.den ps ρ) S Q
section
variable {C : Ct} {e a b c : Expr} {es : List Expr} {ρ : VEnv} {pos : Pos}
theorem fa_nil {β : Type} {acc : List Vl} {m : M β} {k : List Vl → M β} (h : m = k acc := by rfl) : FA C [] ρ acc m k := by
  subst h
  exact fun ps s S Q R r w q => za_nil.we (q [] s S r (by rw [List.append_nil]; exact w))
theorem fa_cons {β : Type} {acc : List Vl} {me : M PyData} {m : PyData → M β} {k : List Vl → M β} (he : FE C e ρ me) (hr : ∀ x, FA C es ρ (acc ++ [.d x]) (m x) k) (hs : starEach (e :: es) C.X.env = (false, eval e C.X.env) :: starEach es C.X.env := by rfl) : FA C (e :: es) ρ acc (me >>= m) k := by
  intro ps s S Q R r w q
  refine (za_cons we_ze wa_za hs).we ?_
  refine he ps s S _ r ((sat_bind w).mono (fun x s1 h S1 r1 => ?_) fun _ _ h => h)
  exact hr x ps s1 S1 _ R r1 h fun ds s' S' r' h' => q (.d x :: ds) s' S' r' (by rw [List.append_assoc] at h'; exact h')
theorem fa_at {β : Type} {acc : List Vl} {x : PyData} {m : M β} {k : List Vl → M β} (he : FE C e ρ (pure x)) (hr : FA C es ρ (acc ++ [.d x]) m k) (hs : starEach (e :: es) C.X.env = (false, eval e C.X.env) :: starEach es C.X.env := by rfl) : FA C (e :: es) ρ acc m k := by
  intro ps s S Q R r w q
  refine (za_cons we_ze wa_za hs).we ?_
  refine he ps s S _ r ?_
  intro S1 r1
  exact hr ps s S1 _ R r1 w fun ds s' S' r' h' => q (.d x :: ds) s' S' r' (by rw [List.append_assoc] at h'; exact h')
theorem fa_c {β : Type} {acc : List Vl} {m : M β} {k : List Vl → M β} (i : Nat) (v : Vl) {x : Str} {pos : Pos} (hr : FA C es ρ (acc ++ [v]) m k) (hρ : ρ[i]? = some (some v) := by rfl) (hs : starEach (.Name x pos :: es) C.X.env = (false, eval (.Name x pos) C.X.env) :: starEach es C.X.env := by rfl) (hN : C.X.N[i]? = some x := by rfl) (hv : Vis C.X.env.scope x := by first | exact Or.inl rfl | exact Or.inr (Or.inl rfl) | exact Or.inr (Or.inr rfl)) (hd : (x == ("__debug__" : Str)) = false := by decide)
    (hcd : (x == ("__classdict__" : Str)) = false := by decide) : FA C (.Name x pos :: es) ρ acc m k := by
  intro ps s S Q R r w q
  refine (za_cons we_ze wa_za hs).we ?_
  refine (zv i hN hv hd hcd).we ?_
  show zVar i _ _ _
  unfold zVar
  rw [den_get ps ρ i hρ]
  exact hr ps s S _ R r w fun ds s' S' r' h' => q (v :: ds) s' S' r' (by rw [List.append_assoc] at h'; exact h')
theorem datas_map {ps : List Addr} : ∀ {l : List Vl} {ds : List PyData}, datV l = some ds → datas (l.map (Vl.den ps)) = some ds
  | [], _, e => e
  | .d x :: r, ds, e => by
    simp only [datV, Option.map_eq_some_iff] at e
    obtain ⟨es, e1, e2⟩ := e
    show (datas (r.map (Vl.den ps))).map (x :: ·) = some ds
    rw [datas_map e1]
    exact congrArg some e2
  | .c _ :: _, _, e => by simp [datV] at e
  | .k _ :: _, _, e => by simp [datV] at e
  | .ob _ :: _, _, e => by simp [datV] at e
theorem sat_if {α : Type} {b : Prop} [Decidable b] {a : α} {s : Cells} {Q : α → Cells → Prop} {E : Exn → Cells → Prop} (h : sat ((if b then (pure a : M α) else bad) s) Q E) : b ∧ Q a s := by
  split at h
  · rename_i hb; exact ⟨hb, h⟩
  · exact h.elim
theorem f_tup {x1} {m : M PyData} (h : FA C es ρ [] m tupK) : FE C (.Tuple es x1 pos) ρ m := by
  intro ps s S Q r w
  refine (ze_tup wa_za).we ?_
  refine h ps s S _ _ r w fun ds s' S' r' w' => ?_
  rw [List.nil_append] at w'
  unfold tupK at w'
  cases e : datV ds with
  | none => rw [e] at w'; exact w'.elim
  | some xs =>
    rw [e] at w'
    obtain ⟨hz, q⟩ := sat_if w'
    rw [datas_map e]
    exact ⟨by rw [← line_eq]; exact hz, q S' r'⟩
theorem f_lst {m : M PyData} (h : FA C es ρ [] m lstK) : FE C (.List es pos) ρ m := by
  intro ps s S Q r w
  refine (ze_lst wa_za).we ?_
  refine h ps s S _ _ r w fun ds s' S' r' w' => ?_
  rw [List.nil_append] at w'
  unfold lstK at w'
  cases e : datV ds with
  | none => rw [e] at w'; exact w'.elim
  | some xs =>
    rw [e] at w'
    obtain ⟨hz, q⟩ := sat_if w'
    rw [datas_map e]
    exact ⟨by rw [← line_eq]; exact hz, q S' r'⟩
def Fresh (G : Gd) (ps : List Addr) (s : Cells) (S : Sto) (p : Addr) (xs : List PyData) : Prop := S p = some (.lst xs) ∧ (∀ (j : Nat) (c : Cell), s[j]? = some (some c) → ps[j]? ≠ some p) ∧ p ∉ G.p ∧ G.S p = none
def FN (C : Ct) (e : Expr) (ρ : VEnv) (m : M (List PyData)) : Prop := ∀ ps s S (Q : ZQ), Rel C.G ps s S → sat (m s) (fun xs s' => ∀ S' p, Rel C.G ps s' S' → Fresh C.G ps s' S' p xs → Q (.r p) S') (XOk C.X.mg C.G C.EZ) → WE C.X C.B e (VEnv.den ps ρ) S Q
theorem own_put_new {S : Sto} {p : Addr} {xs : List PyData} (o : OwnOk S) (h : S p = none) : OwnOk (S.put p (.lst xs)) := fun b a m e => by
  have ne : b ≠ p := fun z => by subst z; rw [put_same] at e; cases e
  rw [put_ne ne] at e
  obtain ⟨dss, q⟩ := o b a m e
  exact ⟨dss, by rw [put_ne fun z => by rw [z, h] at q; cases q]; exact q⟩
def Cell.like : Cell → Cell → Prop
  | .lst _, .lst _ => True
  | .tab _, .tab _ => True
  | _, _ => False
theorem own_put {S : Sto} {p : Addr} {c c' : Cell} (o : OwnOk S) (h : S p = some c) (l : Cell.like c c') : OwnOk (S.put p c') := fun b a m e => by
  have ne : b ≠ p := fun z => by subst z; rw [put_same] at e; cases e; cases c <;> exact l
  rw [put_ne ne] at e
  obtain ⟨dss, q⟩ := o b a m e
  by_cases z : a = p
  · subst z
    rw [h] at q; cases q
    cases c' with
    | tab d => exact ⟨d, put_same⟩
    | lst _ => exact l.elim
    | own _ _ => exact l.elim
    | tbl _ => exact l.elim
  · exact ⟨dss, by rw [put_ne z]; exact q⟩
theorem Rel.new {G : Gd} {ps : List Addr} {s : Cells} {S : Sto} (r : Rel G ps s S) {p : Addr} {xs : List PyData} (h : S p = none) : Rel G ps s (S.put p (.lst xs)) := by
  refine ⟨r.len, fun j c' a e1 e2 => ?_, r.inj, fun a c' e1 e2 => ?_, r.loc, ?_, r.par, own_put_new r.owS h, r.owG, fun a ha q m e => ?_, r.cn⟩
  · have := r.own j c' a e1 e2
    rw [put_ne (fun z => by rw [z, h] at this; cases this)]
    exact this
  · have := r.fr a c' e1 e2
    rw [put_ne (fun z => by rw [z, h] at this; cases this)]
    exact this
  · intro a ha
    by_cases q : a = p
    · subst q; rw [put_same]; exact fun z => nomatch z
    · rw [put_ne q]; exact r.gp a ha
  · by_cases z : a = p
    · subst z; rw [put_same] at e; cases e
    · rw [put_ne z] at e; exact r.gq a ha q m e
theorem Rel.fresh {G : Gd} {ps : List Addr} {s : Cells} {S : Sto} (r : Rel G ps s S) {p : Addr} {xs : List PyData} (h : S p = none) : Fresh G ps s (S.put p (.lst xs)) p xs := by
  have q : p ∉ G.p := fun q => r.gp p q h
  refine ⟨put_same, fun j c e1 e2 => ?_, q, ?_⟩
  · rw [r.own j c p e1 e2] at h; cases h
  · cases e : G.S p with
    | none => rfl
    | some c => rw [r.fr p c q e] at h; cases h
def lstN (l : List Vl) : M (List PyData) := match datV l with
  | some ds => if ds.length ≤ line then pure ds else bad
  | none => bad
theorem n_lst {m : M (List PyData)} (h : FA C es ρ [] m lstN) : FN C (.List es pos) ρ m := by
  intro ps s S Q r w
  refine (ze_lstM wa_za).we ?_
  refine h ps s S _ _ r w fun ds s' S' r' w' => ?_
  rw [List.nil_append] at w'
  unfold lstN at w'
  cases e : datV ds with
  | none => rw [e] at w'; exact w'.elim
  | some xs =>
    rw [e] at w'
    obtain ⟨hz, q⟩ := sat_if w'
    rw [datas_map e]
    exact ⟨by rw [← line_eq]; exact hz, fun p hp => q _ p (r'.new hp) (r'.fresh hp)⟩
theorem Rel.lay {G : Gd} {ps : List Addr} {s : Cells} {S : Sto} {p : Addr} {xs : List PyData} (r : Rel G ps s S) (f : Fresh G ps s S p xs) (j : Nat) (hj : j < s.length) (hl : G.p.length ≤ j) : Rel G (ps.set j p) (s.set j (some (.lst xs))) S := by
  have get : ∀ {i : Nat} {c : Cell} {a : Addr}, (s.set j (some (.lst xs)))[i]? = some (some c) → (ps.set j p)[i]? = some a → (i = j ∧ c = .lst xs ∧ a = p) ∨ (i ≠ j ∧ s[i]? = some (some c) ∧ ps[i]? = some a) := by
    intro i c a e1 e2
    by_cases q : i = j
    · subst q
      rw [List.getElem?_set_self hj] at e1
      rw [List.getElem?_set_self (by rw [r.len]; exact hj)] at e2
      cases e1; cases e2
      exact .inl ⟨rfl, rfl, rfl⟩
    · rw [List.getElem?_set_ne (Ne.symm q)] at e1 e2
      exact .inr ⟨q, e1, e2⟩
  refine ⟨by rw [List.length_set, List.length_set]; exact r.len, fun i c a e1 e2 => ?_, fun i k ci ck a e1 e2 e3 e4 => ?_, r.fr, fun i c a e1 e2 => ?_, r.gp, by rw [List.take_set_of_le hl]; exact r.par, r.owS, r.owG, r.gq, fun i q m e => ?_⟩
  · rcases get e1 e2 with ⟨_, rfl, rfl⟩ | ⟨_, h1, h2⟩
    · exact f.1
    · exact r.own i c a h1 h2
  · rcases get e1 e3 with ⟨rfl, _, rfl⟩ | ⟨n1, h1, h2⟩
    · rcases get e2 e4 with ⟨rfl, _, _⟩ | ⟨n2, h3, h4⟩
      · rfl
      · exact absurd h4 (f.2.1 k ck h3)
    · rcases get e2 e4 with ⟨rfl, _, rfl⟩ | ⟨n2, h3, h4⟩
      · exact absurd h2 (f.2.1 i ci h1)
      · exact r.inj i k ci ck a h1 h3 h2 h4
  · rcases get e1 e2 with ⟨rfl, rfl, rfl⟩ | ⟨_, h1, h2⟩
    · exact .inr ⟨hl, f.2.2⟩
    · exact r.loc i c a h1 h2
  · by_cases z : i = j
    · subst z; rw [List.getElem?_set_self hj] at e; cases e
    · rw [List.getElem?_set_ne (Ne.symm z)] at e; exact r.cn i q m e
theorem Rel.upd {G : Gd} {ps : List Addr} {s : Cells} {S : Sto} {j : Nat} {c c' : Cell} (r : Rel G ps s S) (h : s[j]? = some (some c)) (l : Cell.like c c' := by trivial) : Rel G ps (s.set j (some c')) (S.put (ps.getD j 0) c') := by
  have hj : j < s.length := (List.getElem?_eq_some_iff.mp h).1
  obtain ⟨e0, o0⟩ := r.at h
  have get : ∀ {i : Nat} {d : Cell}, (s.set j (some c'))[i]? = some (some d) → (i = j ∧ d = c') ∨ (i ≠ j ∧ s[i]? = some (some d)) := by
    intro i d e1
    by_cases q : i = j
    · subst q
      rw [List.getElem?_set_self hj] at e1
      cases e1
      exact .inl ⟨rfl, rfl⟩
    · rw [List.getElem?_set_ne (Ne.symm q)] at e1
      exact .inr ⟨q, e1⟩
  refine ⟨by rw [List.length_set]; exact r.len, fun i d a e1 e2 => ?_, fun i k ci ck a e1 e2 e3 e4 => ?_, fun a d n e => ?_, fun i d a e1 e2 => ?_, fun a ha => ?_, r.par, own_put r.owS o0 l, r.owG, fun a ha q m e => ?_, fun i q m e => ?_⟩
  · rcases get e1 with ⟨rfl, rfl⟩ | ⟨n, h1⟩
    · rw [e0] at e2; cases e2; exact put_same
    · rw [put_ne (fun z => n (r.inj i j _ _ a h1 h e2 (by rw [z]; exact e0)))]
      exact r.own i d a h1 e2
  · have live : ∀ {i : Nat} {d : Cell}, (s.set j (some c'))[i]? = some (some d) → ∃ d', s[i]? = some (some d') := by
      intro i d e
      rcases get e with ⟨rfl, rfl⟩ | ⟨_, h1⟩
      · exact ⟨_, h⟩
      · exact ⟨_, h1⟩
    obtain ⟨d1, h1⟩ := live e1
    obtain ⟨d2, h2⟩ := live e2
    exact r.inj i k d1 d2 a h1 h2 e3 e4
  · have ne : a ≠ ps.getD j 0 := by
      intro z
      rcases r.loc j c _ h e0 with q | q
      · exact n (z ▸ q.2)
      · rw [← z] at q; rw [q.2.2] at e; cases e
    rw [put_ne ne]
    exact r.fr a d n e
  · rcases get e1 with ⟨rfl, rfl⟩ | ⟨n, h1⟩
    · exact r.loc i c a h e2
    · exact r.loc i d a h1 e2
  · by_cases q : a = ps.getD j 0
    · rw [q, put_same]; exact fun z => nomatch z
    · rw [put_ne q]; exact r.gp a ha
  · by_cases z : a = ps.getD j 0
    · rw [z, put_same] at e; cases e; cases c <;> exact l
    · rw [put_ne z] at e; exact r.gq a ha q m e
  · rcases get e with ⟨_, h1⟩ | ⟨_, h1⟩
    · subst h1; cases c <;> exact l
    · exact r.cn i q m h1
theorem Rel.drop {G : Gd} {ps : List Addr} {s : Cells} {S : Sto} (r : Rel G ps s S) (j : Nat) : Rel G ps (s.set j none) S := by
  have get : ∀ {i : Nat} {d : Cell}, (s.set j none)[i]? = some (some d) → s[i]? = some (some d) := by
    intro i d e1
    by_cases q : i = j
    · subst q
      rw [List.getElem?_set] at e1
      split at e1
      · split at e1 <;> cases e1
      · exact (absurd rfl (by assumption))
    · rw [List.getElem?_set_ne (Ne.symm q)] at e1
      exact e1
  exact ⟨by rw [List.length_set]; exact r.len, fun i d a e1 e2 => r.own i d a (get e1) e2, fun i k ci ck a e1 e2 e3 e4 => r.inj i k ci ck a (get e1) (get e2) e3 e4, r.fr, fun i d a e1 e2 => r.loc i d a (get e1) e2, r.gp, r.par, r.owS, r.owG, r.gq, fun i q m e => r.cn i q m (get e)⟩
def VCl (r : ZC1) (k : List Vl → M PyData) : Prop := ∀ (C : Ct) ps s S vs (Q : ZQ), Rel C.G ps s S → sat (k vs s) (fun d s' => ∀ S', Rel C.G ps s' S' → Q (.d d) S') (XOk C.X.mg C.G C.EZ) → r (vs.map (Vl.den ps)) S Q
variable {x : Str} {p : Pos} {id T : String} {rr : ZC1} {k : List Vl → M PyData} {kN : List Vl → M (List PyData)} {m : M PyData} {mN : M (List PyData)}
theorem f_callB (hc : ZCl C.X (.builtin id) rr) (hk : VCl rr k) (hm : C.X.mg x = none) (hv : bootBuiltins x = some (.builtin id)) (ha : FA C (e :: es) ρ [] m k) (hg : Gl C.X x := by rfl) (hn : x ≠ "__name__" := by decide) (hdb : (x == ("__debug__" : Str)) = false := by decide)
    (he : starEach (e :: es) C.X.env = (false, eval e C.X.env) :: starEach es C.X.env := by rfl) (hpl : (backTo pos (starEach es C.X.env)).any (·.1) = false := by rfl) : FE C (.Call (.Name x p) (e :: es) [] pos) ρ m := by
  intro ps s S Q r w
  refine (ze_callB hc hg hm hv wa_za hn hdb he hpl).we ?_
  exact ha ps s S _ _ r w fun ds s' S' r' w' => hk C ps s' S' ds Q r' (by rw [List.nil_append] at w'; exact w')
theorem f_callT (hc : ZCl C.X (.type T) rr) (hk : VCl rr k) (hm : C.X.mg x = none) (hv : bootBuiltins x = some (.type T)) (ha : FA C (e :: es) ρ [] m k) (hg : Gl C.X x := by rfl) (hn : x ≠ "__name__" := by decide) (hdb : (x == ("__debug__" : Str)) = false := by decide)
    (he : starEach (e :: es) C.X.env = (false, eval e C.X.env) :: starEach es C.X.env := by rfl) (hpl : (backTo pos (starEach es C.X.env)).any (·.1) = false := by rfl) : FE C (.Call (.Name x p) (e :: es) [] pos) ρ m := by
  intro ps s S Q r w
  refine (ze_callTy hc hg hm hv wa_za hn hdb he hpl).we ?_
  exact ha ps s S _ _ r w fun ds s' S' r' w' => hk C ps s' S' ds Q r' (by rw [List.nil_append] at w'; exact w')
theorem v_un {r : ZC1} {g : PyData → Option PyData} (h : ∀ x d S Q, g x = some d → Q (.d d) S → r [.d x] S Q) : VCl r (un fun x => ofO (g x)) := by
  intro C ps s S vs Q r' w
  unfold un at w
  split at w
  · obtain ⟨d, e, q⟩ := sat_ofO w; exact h _ d S Q e (q S r')
  · exact w.elim
theorem v_bin {r : ZC1} {g : PyData → PyData → Option PyData} (h : ∀ x y d S Q, g x y = some d → Q (.d d) S → r [.d x, .d y] S Q) : VCl r (bi2 fun x y => ofO (g x y)) := by
  intro C ps s S vs Q r' w
  unfold bi2 at w
  split at w
  · obtain ⟨d, e, q⟩ := sat_ofO w; exact h _ _ d S Q e (q S r')
  · exact w.elim
theorem row_at {G : Gd} {ps : List Addr} {s : Cells} {S : Sto} {j : Nat} {xs : List PyData} (r : Rel G ps s S) (ex : s[j]? = some (some (.lst xs))) : rowZ S (Vl.den ps (.c j)) = some xs := by
  show (match S (ps.getD j 0) with | some (.lst xs) => some xs | _ => none) = some xs
  rw [(r.at ex).2]
theorem v_row {r : ZC1} {g : PyData → Option PyData} (h : ∀ x d S Q, g x = some d → Q (.d d) S → r [.d x] S Q) (h2 : ∀ z xs d S Q, rowZ S z = some xs → (∀ x, z ≠ .d x) → g (.list xs) = some d → Q (.d d) S → r [z] S Q) : VCl r (row1 fun x => ofO (g x)) := by
  intro C ps s S vs Q r' w
  unfold row1 at w
  split at w
  · obtain ⟨d, e, q⟩ := sat_ofO w; exact h _ d S Q e (q S r')
  · obtain ⟨xs, ex, w⟩ := sat_getC (sat_bind w)
    obtain ⟨d, e, q⟩ := sat_ofO w
    refine h2 _ xs d S Q ?_ (fun _ z => nomatch z) e (q S r')
    exact row_at r' ex
  · obtain ⟨d, e, q⟩ := sat_ofO w
    exact h2 (.k _) _ d S Q rfl (fun _ z => nomatch z) e (q S r')
  · exact w.elim
theorem v_max : VCl rZMax (bi2 maxM) := v_bin (by
  intro x y d S Q e q; unfold maxO at e; split at e <;> cases e; exact q)
theorem v_min : VCl rZMin (bi2 minM) := v_bin (by
  intro x y d S Q e q; unfold minO at e; split at e <;> cases e; exact q)
theorem v_int : VCl rZInt (un intM) := v_un (by
  intro x d S Q e q; unfold intO at e; split at e <;> cases e <;> exact q)
theorem v_len : VCl rZLen (row1 lenM) := v_row (by
    intro x d S Q e q
    unfold lenO at e
    split at e
    · split at e <;> cases e; rename_i h; rw [line_eq] at h; exact ⟨h, q⟩
    · cases e; exact q
    · cases e; exact q
    · cases e) (by
    intro z xs d S Q e n e2 q
    cases e2
    cases z with
    | d x => exact absurd rfl (n x)
    | r a => show rZLen _ _ _; unfold rZLen; simp only []; rw [e]; exact q
    | k ys => cases e; exact q)
theorem v_tuple : VCl rZTuple (row1 tupleM) := v_row (by
    intro x d S Q e q
    unfold tupleO at e
    obtain ⟨xs, e1, e2⟩ := Option.map_eq_some_iff.mp e
    subst e2
    unfold rowD at e1
    split at e1 <;> cases e1 <;> exact q) (by
    intro z xs d S Q e n e2 q
    cases e2
    show rZTuple _ _ _; unfold rZTuple; simp only []; rw [e]; exact q)
theorem v_list : VCl rZList (row1 listM) := v_row (by
    intro x d S Q e q
    unfold listO at e
    obtain ⟨xs, e1, e2⟩ := Option.map_eq_some_iff.mp e
    subst e2
    unfold rowD at e1
    split at e1 <;> cases e1 <;> exact q) (by
    intro z xs d S Q e n e2 q
    cases e2
    show rZList _ _ _; unfold rZList; simp only []; rw [e]; exact q)
theorem v_all : VCl rZAll (un allM) := v_un (by
  intro x d S Q e q
  unfold allO at e
  split at e
  · obtain ⟨bs, e1, e2⟩ := Option.map_eq_some_iff.mp e
    subst e2
    exact ⟨bs, by rw [boolsZ_map e1], q⟩
  · cases e)
theorem v_any : VCl rZAny (un anyM) := v_un (by
  intro x d S Q e q
  unfold anyO at e
  split at e
  · obtain ⟨bs, e1, e2⟩ := Option.map_eq_some_iff.mp e
    subst e2
    exact ⟨bs, by rw [boolsZ_map e1], q⟩
  · cases e)
theorem v_repr : VCl rZRepr (un reprM) := v_un (by
  intro x d S Q e q
  unfold reprO at e
  split at e <;> cases e
  rename_i h
  unfold reprOk at h
  simp only [Bool.and_eq_true, decide_eq_true_eq, Bool.or_eq_true, Bool.not_eq_true'] at h
  exact ⟨⟨h.1.1.1, h.1.1.2, h.1.2, by rw [← line_eq]; exact h.2⟩, q⟩)
theorem f_isi (T : Ty7) {c : Expr} (hm : C.X.mg "isinstance" = none) (hc : PE C.X c (tC (.ty T.name))) (h : FL C [e] ρ [] m (un fun x => pure (isO T x))) (hg : Gl C.X "isinstance" := by rfl)
    (hs : starEach (e :: [c]) C.X.env = (false, eval e C.X.env) :: starEach [c] C.X.env := by rfl) (hs2 : starEach [c] C.X.env = (false, eval c C.X.env) :: starEach [] C.X.env := by rfl) (hpl : (backTo pos (starEach [c] C.X.env)).any (·.1) = false := by rfl) : FE C (.Call (.Name "isinstance" p) [e, c] [] pos) ρ m := by
  intro ps s S Q r w
  refine (ze_isi T hm we_ze hc hg hs hs2 hpl).we ?_
  have := h ps s S (fun zs S' => match zs with | [z] => thereZ S' z ∧ Q (zb (isZ T z)) S' | _ => True) _ r w fun ds s' S' r' w' => by
    rw [List.nil_append] at w'
    unfold un at w'
    split at w'
    · exact ⟨trivial, by have := w' S' r'; cases T <;> exact this⟩
    · exact w'.elim
  exact this
theorem slice_ok {z : PyData} {lo hi : Option Int} {d : PyData} {S : Sto} {Q : ZQ} (h : sliceO z lo hi = some d) (q : Q (.d d) S) : rZSl (.d z) lo hi S Q := by
  unfold sliceO at h
  split at h <;> cases h
  · exact q
  · exact q
def slL (x y : PyData) : M PyData := sliceM x (some y) none
def slH (x y : PyData) : M PyData := sliceM x none (some y)
theorem slice_row {z : Z} {xs : List PyData} {lo hi : Option Int} {d : PyData} {S : Sto} {Q : ZQ} (e : rowZ S z = some xs) (n : ∀ x, z ≠ .d x) (h : sliceO (.list xs) lo hi = some d) (q : Q (.d d) S) : rZSl z lo hi S Q := by
  cases h
  unfold rZSl
  split
  · exact absurd rfl (n _)
  · rw [e]; exact q
theorem ptO_some {y : PyData} {o : Option Int} (h : ptO (some y) = some o) : ∃ i, y = .int i ∧ o = some i := by
  unfold ptO at h
  split at h
  · rename_i e; cases e
  · rename_i e; cases e; cases h; exact ⟨_, rfl, rfl⟩
  · cases h
theorem sl_split {lo hi : Option PyData} {x d : PyData} (h : ((ptO lo).bind fun l => (ptO hi).bind fun k => sliceO x l k) = some d) : ∃ l k, ptO lo = some l ∧ ptO hi = some k ∧ sliceO x l k = some d := by
  cases e1 : ptO lo with
  | none => rw [e1] at h; cases h
  | some l =>
    rw [e1] at h
    cases e2 : ptO hi with
    | none => rw [e2] at h; cases h
    | some k => rw [e2] at h; exact ⟨l, k, rfl, rfl, h⟩
theorem f_slL {lo : Expr} {p2 : Pos} (h : FL C [e, lo] ρ [] m (row2 slL)) : FE C (.Subscript e (.Slice (some lo) none none p2) pos) ρ m := by
  intro ps s S Q r w
  refine (ze_slice we_ze (zo_some we_ze) zo_none).we ?_
  have := h ps s S (fun zs S' => match zs with | [x, y] => (match y with | .d (.int i) => rZSl x (some i) none S' Q | _ => False) | _ => True) _ r w fun ds s' S' r' w' => by
    rw [List.nil_append] at w'
    unfold row2 at w'
    split at w'
    · obtain ⟨d, e, q⟩ := sat_ofO w'
      obtain ⟨l, k, e1, e2, e3⟩ := sl_split e
      obtain ⟨i, rfl, rfl⟩ := ptO_some e1
      cases e2
      exact slice_ok e3 (q S' r')
    · obtain ⟨xs, ex, w'⟩ := sat_getC (sat_bind w')
      obtain ⟨d, e, q⟩ := sat_ofO w'
      obtain ⟨l, k, e1, e2, e3⟩ := sl_split e
      obtain ⟨i, rfl, rfl⟩ := ptO_some e1
      cases e2
      exact slice_row (row_at r' ex) (fun _ z => nomatch z) e3 (q S' r')
    · obtain ⟨d, e, q⟩ := sat_ofO w'
      obtain ⟨l, k, e1, e2, e3⟩ := sl_split e
      obtain ⟨i, rfl, rfl⟩ := ptO_some e1
      cases e2
      exact slice_row (z := .k _) rfl (fun _ z => nomatch z) e3 (q S' r')
    · exact w'.elim
  exact this
theorem f_slH {hi : Expr} {p2 : Pos} (h : FL C [e, hi] ρ [] m (row2 slH)) : FE C (.Subscript e (.Slice none (some hi) none p2) pos) ρ m := by
  intro ps s S Q r w
  refine (ze_slice we_ze zo_none (zo_some we_ze)).we ?_
  have := h ps s S (fun zs S' => match zs with | [x, y] => (match y with | .d (.int i) => rZSl x none (some i) S' Q | _ => False) | _ => True) _ r w fun ds s' S' r' w' => by
    rw [List.nil_append] at w'
    unfold row2 at w'
    split at w'
    · obtain ⟨d, e, q⟩ := sat_ofO w'
      obtain ⟨l, k, e1, e2, e3⟩ := sl_split e
      cases e1
      obtain ⟨i, rfl, rfl⟩ := ptO_some e2
      exact slice_ok e3 (q S' r')
    · obtain ⟨xs, ex, w'⟩ := sat_getC (sat_bind w')
      obtain ⟨d, e, q⟩ := sat_ofO w'
      obtain ⟨l, k, e1, e2, e3⟩ := sl_split e
      cases e1
      obtain ⟨i, rfl, rfl⟩ := ptO_some e2
      exact slice_row (row_at r' ex) (fun _ z => nomatch z) e3 (q S' r')
    · obtain ⟨d, e, q⟩ := sat_ofO w'
      obtain ⟨l, k, e1, e2, e3⟩ := sl_split e
      cases e1
      obtain ⟨i, rfl, rfl⟩ := ptO_some e2
      exact slice_row (z := .k _) rfl (fun _ z => nomatch z) e3 (q S' r')
    · exact w'.elim
  exact this
end
end ZL
namespace ZL
open PySem PySem.Spec PyProof.Rows L2 V
def FI (C : Ct) (tg e : Expr) (ρ : VEnv) (m : M (List PyData)) : Prop := ∀ ps s S (Q : List PyData → List (Addr × List PyData) → Sto → Prop), Rel C.G ps s S → sat (m s) (fun xs s' => ∀ S', Rel C.G ps s' S' → Q xs [] S') (XOk C.X.mg C.G C.EZ) → WI C.X C.B tg e (VEnv.den ps ρ) S Q
section
variable {C : Ct} {e a b c tg : Expr} {es : List Expr} {ρ : VEnv} {pos p : Pos} {m : M PyData} {mi : M (List PyData)}
theorem i_row (h : FE C e ρ m) : FI C tg e ρ (m >>= rowM) := by
  intro ps s S Q r w
  refine (zi_row we_ze).we ?_
  refine h ps s S _ r ((sat_bind w).mono (fun d s' w' S' r' => ?_) fun _ _ h => h)
  obtain ⟨xs, e, q⟩ := sat_ofO w'
  have : rowZ S' (.d d) = some xs := by rw [← e]; cases d <;> rfl
  simp only [this]
  exact q S' r'
theorem i_range1 (hm : C.X.mg "range" = none) (h : FA C [a] ρ [] mi (un fun y => rangeM (.int 0) y)) (hg : Gl C.X "range" := by rfl) (hs : starEach [a] C.X.env = [(false, eval a C.X.env)] := by rfl) : FI C tg (.Call (.Name "range" p) [a] [] pos) ρ mi := by
  intro ps s S Q r w
  refine (zi_range1 hg hm wa_za hs).we ?_
  refine h ps s S _ _ r w fun ds s' S' r' w' => ?_
  rw [List.nil_append] at w'
  unfold un at w'
  split at w'
  · obtain ⟨xs, e, q⟩ := sat_ofO w'
    obtain ⟨i, j, e1, rfl, h1, h2, rfl⟩ := rangeO_inv e
    cases e1
    have w2 := q S' r'
    rw [Int.sub_zero] at w2
    exact ⟨h2, w2⟩
  · exact w'.elim
def GOk {T : Type} (g : ZG) (mt : PyData → Option T) (asg : T → List (Nat × PyData)) : Prop := ∀ x t ρ S (Q : ZEnv → Sto → Prop), mt x = some t → Q (setz ρ (asg t)) S → g (.d x) ρ S Q
theorem go_name {i : Nat} : GOk (zgName i) pN (fun x => [(i, x)]) := by
  intro x t ρ S Q e q
  cases e
  exact q
theorem setz_app (ρ : ZEnv) (l k : List (Nat × PyData)) : setz ρ (l ++ k) = setz (setz ρ l) k := List.foldl_append
variable {α β γ δ : Type} {p1 : PyData → Option α} {p2 : PyData → Option β} {p3 : PyData → Option γ} {p4 : PyData → Option δ} {g1 g2 g3 g4 : ZG} {a1 : α → List (Nat × PyData)} {a2 : β → List (Nat × PyData)} {a3 : γ → List (Nat × PyData)} {a4 : δ → List (Nat × PyData)}
theorem go_t2 (h1 : GOk g1 p1 a1) (h2 : GOk g2 p2 a2) : GOk (zgTup 2 (zgCons g1 (zgCons g2 zgNil))) (pT2 p1 p2) (fun t => a1 t.1 ++ a2 t.2) := by
  intro x t ρ S Q e q
  unfold pT2 at e
  split at e
  · rename_i x y
    simp only [Option.bind_eq_some_iff] at e
    obtain ⟨a, e1, b, e2, e3⟩ := e
    cases e3
    refine ⟨rfl, h1 x a ρ S _ e1 (h2 y b _ S _ e2 ?_)⟩
    rw [← setz_app]
    exact q
  · cases e
abbrev noW : XW := fun _ _ => False
abbrev Ct.blk (C : Ct) (s : Shared) (H : Hp) (scope : Scope) (A : Addr) (cl : List (Str × Addr)) (fp : List Addr) : Ct := { C with X := C.X.blk s H scope (compEnvC scope cl A C.X.env) fp, EZ := noW }
abbrev FBlk (C : Ct) (scope : Scope) (P : Ct → Prop) : Prop := ∀ (s : Shared) (H : Hp) (A : Addr) (cl : List (Str × Addr)) (fp : List Addr), P (C.blk s H scope A cl fp)
def WEb (C : Ct) (scope : Scope) (e : Expr) : ZT := fun ρ S Q => FBlk C scope fun C => WE C.X C.B e ρ S Q
def WTb (C : Ct) (scope : Scope) (e : Expr) : ZB := fun ρ S Q => FBlk C scope fun C => WT C.X C.B e ρ S Q
theorem web {scope : Scope} : Blk C.X scope fun X => ZE X C.B e (WEb C scope e) := fun s H A cl fp => ⟨fun q w s H A cl fp => we_ze.mono q (w s H A cl fp), PE.imp we_ze.pe fun σ H' Q ⟨ρ, S, hE, hS, w⟩ => ⟨ρ, S, hE, hS, w s H A cl fp⟩⟩
theorem wtb {scope : Scope} : Blk C.X scope fun X => ZTe X C.B e (WTb C scope e) := fun s H A cl fp => ⟨fun q w s H A cl fp => wt_zt.mono q (w s H A cl fp), PT.imp wt_zt.pt fun σ H' Q ⟨ρ, S, hE, hS, w⟩ => ⟨ρ, S, hE, hS, w s H A cl fp⟩⟩
def FTs (C : Ct) (scope : Scope) (ifs : List Expr) {T : Type} (ρ : T → VEnv) (c : T → M Bool) : Prop := (ifs = [] ∧ c = yep) ∨ (∃ e, ifs = [e] ∧ FBlk C scope fun C => ∀ t, FT C e (ρ t) (c t))
theorem ts_nil {scope : Scope} {T : Type} {r : T → VEnv} : FTs C scope [] r yep := .inl ⟨rfl, rfl⟩
theorem ts_one {scope : Scope} {T : Type} {r : T → VEnv} {k : T → M Bool} (h : FBlk C scope fun C => ∀ t, FT C e (r t) (k t)) : FTs C scope [e] r k := .inr ⟨e, rfl, h⟩
def tsR (C : Ct) (scope : Scope) : List Expr → ZB
  | [] => zYes
  | e :: _ => WTb C scope e
theorem ts_zts {scope : Scope} {ifs : List Expr} {T : Type} {r : T → VEnv} {k : T → M Bool} (h : FTs C scope ifs r k) : Blk C.X scope fun X => ZTs X C.B ifs (tsR C scope ifs) := by
  rcases h with ⟨rfl, _⟩ | ⟨e, rfl, _⟩
  · exact fun _ _ _ _ _ => zts_nil
  · exact fun s H A cl fp => zts_one (wtb s H A cl fp)
theorem noex_ok {α : Type} {m : M α} {s s' : Cells} {a : α} (h : V.noex m s = .ok a s') : m s = .ok a s' := by
  unfold V.noex at h
  split at h
  · rename_i e; cases h; exact e
  · cases h
theorem sat_noex {α : Type} {m : M α} {s : Cells} {Q : α → Cells → Prop} {E : Exn → Cells → Prop} (h : sat (V.noex m s) Q E) : ∃ a s', m s = .ok a s' ∧ Q a s' := by
  cases e : V.noex m s with
  | ok a s' => rw [e] at h; exact ⟨a, s', noex_ok e, h⟩
  | ex x s' => unfold V.noex at e; split at e <;> cases e
  | bad => rw [e] at h; exact h.elim
theorem bind_inv {α β : Type} {m : M α} {k : α → M β} {s s' : Cells} {b : β} (h : (m >>= k) s = .ok b s') : ∃ a s1, m s = .ok a s1 ∧ k a s1 = .ok b s' := by
  rw [V.bind_def] at h
  split at h
  · rename_i a s1 e; exact ⟨a, s1, e, h⟩
  · cases h
  · cases h
theorem sat_of {α : Type} {m : M α} {s s' : Cells} {a : α} {Q : α → Cells → Prop} {E : Exn → Cells → Prop} (h : m s = .ok a s') (q : Q a s') : sat (m s) Q E := by rw [h]; exact q
theorem comp_turns {T : Type} {scope : Scope} {g : ZG} {mt : PyData → Option T} {asg : T → List (Nat × PyData)} {cnd : T → M Bool} {f : T → M PyData} {vs : List Nat} {elt : Expr} {ifs : List Expr} {ps : List Addr} {xs : List PyData} {s s' : Cells} {S1 : Sto} {ys : List PyData}
    (hg : GOk g mt asg) (hgm : ∀ {z ρ S} {Q Q' : ZEnv → Sto → Prop}, (∀ ρ' S', Q ρ' S' → Q' ρ' S') → g z ρ S Q → g z ρ S Q') (ht : FTs C scope ifs (fun t => setl (vwipe ρ vs) (asg t)) cnd) (he : FBlk C scope fun C => ∀ t, FE C elt (setl (vwipe ρ vs) (asg t)) (f t))
    (r : Rel C.G ps s S1) (hz : xs.length ≤ sizeLine) (hrun : compP mt cnd f xs s = .ok ys s') {P : List PyData → Sto → Prop} (fin : ∀ S', Rel C.G ps s' S' → P ys S') :
    ∃ I : Nat → List PyData → Sto → Prop, I 0 [] S1 ∧ (∀ i acc S', i ≤ xs.length → I i acc S' → Need S' []) ∧
    (∀ (i : Nat) (x : PyData) acc S', xs[i]? = some x → I i acc S' → g (.d x) (zwipe (VEnv.den ps ρ) vs) S' fun ρ2 S2 => tsR C scope ifs ρ2 S2 fun b S3 =>
      zBr b (WEb C scope elt ρ2 S3 fun y S4 => match y with
        | .d d => acc.length < sizeLine ∧ I (i + 1) (acc ++ [d]) S4
        | _ => False) (I (i + 1) acc S3)) ∧ ∀ acc S', I xs.length acc S' → P acc S' := by
  refine ⟨fun i acc S' => ∃ s1, Rel C.G ps s1 S' ∧ acc.length ≤ i ∧ ∃ zs, compP mt cnd f (xs.drop i) s1 = .ok zs s' ∧ ys = acc ++ zs, ⟨s, r, Nat.le_refl _, ys, by rw [List.drop_zero]; exact hrun, rfl⟩, fun _ _ _ _ _ => need_nil, ?_, ?_⟩
  · rintro i x acc S' ex ⟨s1, r1, hl, zs, run, ey⟩
    have hi : i < xs.length := (List.getElem?_eq_some_iff.mp ex).1
    have ed : xs.drop i = x :: xs.drop (i + 1) := by rw [← (List.getElem?_eq_some_iff.mp ex).2]; exact List.drop_eq_getElem_cons hi
    rw [ed] at run
    unfold compP at run
    obtain ⟨t, s2, e1, run1⟩ := bind_inv run
    obtain ⟨e0, e00⟩ := ofO_ok e1
    subst e00
    refine hg x t _ S' _ e0 ?_
    obtain ⟨b, s3, e2, run2⟩ := bind_inv run1
    have test : ∀ (Q : Bool → Sto → Prop), (∀ S3, Rel C.G ps s3 S3 → Q b S3) → tsR C scope ifs (setz (zwipe (VEnv.den ps ρ) vs) (asg t)) S' Q := by
      intro Q q
      rcases ht with ⟨rfl, ec⟩ | ⟨e, rfl, hc⟩
      · subst ec
        cases e2
        exact q S' r1
      · intro sh H A cl fp
        have := hc sh H A cl fp t ps s2 S' Q r1 (sat_of e2 q)
        rw [den_setl, den_wipe] at this
        exact this
    refine test _ fun S3 r3 => ?_
    cases b with
    | true =>
      obtain ⟨y, s4, e3, run3⟩ := bind_inv run2
      obtain ⟨zs', s5, e4, run4⟩ := bind_inv run3
      cases run4
      show WEb C scope elt _ _ _
      intro sh H A cl fp
      have := he sh H A cl fp t ps s3 S3 (fun y S4 => match y with
        | .d d => acc.length < sizeLine ∧ ∃ s1, Rel C.G ps s1 S4 ∧ (acc ++ [d]).length ≤ i + 1 ∧ ∃ zs, compP mt cnd f (xs.drop (i + 1)) s1 = .ok zs s' ∧ ys = (acc ++ [d]) ++ zs
        | _ => False) r3 (sat_of e3 fun S4 r4 => ⟨by omega, s4, r4, by rw [List.length_append]; simp; omega, zs', e4, by rw [ey, List.append_assoc]; rfl⟩)
      rw [den_setl, den_wipe] at this
      exact this
    | false => exact ⟨s3, r3, by omega, zs, run2, ey⟩
  · rintro acc S' ⟨s1, r1, hl, zs, run, ey⟩
    rw [List.drop_length] at run
    cases run
    rw [List.append_nil] at ey
    subst ey
    exact fin S' r1
variable {T : Type} {mt : PyData → Option T} {asg : T → List (Nat × PyData)} {cnd : T → M Bool} {f : T → M PyData} {g : ZG} {iter elt : Expr} {ifs : List Expr} {scope : Scope} {own : List (Str × Nat)} {o : List Nat}
theorem sat_comp {xs : List PyData} {s : Cells} {Q : List PyData → Cells → Prop} {E : Exn → Cells → Prop} (h : sat (comp mt cnd f xs s) Q E) : xs.length ≤ sizeLine ∧ ∃ ys s', compP mt cnd f xs s = .ok ys s' ∧ Q ys s' := by
  unfold comp at h
  obtain ⟨ys, s', e, q⟩ := sat_noex h
  split at e
  · rename_i hz
    rw [line_eq] at hz
    exact ⟨hz, ys, s', e, q⟩
  · cases e
theorem f_lc (hN : C.X.N.Nodup) (hi : FI C tg iter ρ mi) (ok : BlkOk C.X.N C.X.env.scope scope own) (zg : Blk C.X scope fun X => ZGt X C.B tg o g) (hg : GOk g mt asg) (ht : FTs C scope ifs (fun t => setl (vwipe ρ (own.map (·.2))) (asg t)) cnd) (he : FBlk C scope fun C => ∀ t, FE C elt (setl (vwipe ρ (own.map (·.2))) (asg t)) (f t))
    (hc : C.X.calm = true := by rfl) (hv : ∀ i ∈ o, i ∈ own.map (·.2) := by decide) (hs : ∀ x, foldedSetIterable iter C.X.env x = pure x := by intro _; rfl) : FE C (.ListComp elt [⟨tg, iter, ifs, 0⟩] scope pos) ρ (mi >>= fun xs => comp mt cnd f xs >>= fun ys => pure (.list ys)) := by
  intro ps s S Q r w
  refine (ze_lc hN wi_zi ok zg (ts_zts ht) web hc hv hs).we ?_
  refine hi ps s S _ r ((sat_bind w).mono (fun xs s1 w1 S1 r1 => ?_) fun _ _ h => h)
  obtain ⟨hz, ys, s', run, q⟩ := sat_comp (sat_bind w1)
  exact ⟨comp_turns hg (zg C.X.s_0 C.X.H_0 0 [] []).mono ht he r1 hz run (P := fun acc S' => Q (zl acc) S') q⟩
end
end ZL
namespace V
open PySem PySem.Spec ZL L2
inductive Md where
  | d | c | k
def unl : PyData → List PyData
  | .list xs => xs
  | _ => []
def encode : List Md → Nat → List PyData → List Vl
  | [], _, _ => []
  | .d :: ms, i, x :: ds => .d x :: encode ms i ds
  | .d :: _, _, [] => []
  | .c :: ms, i, ds => .c i :: encode ms (i + 1) ds
  | .k :: ms, i, x :: ds => .k (unl x) :: encode ms i ds
  | .k :: _, _, [] => []
def splitV : List Md → List Vl → Option (List Nat × List PyData)
  | [], [] => some ([], [])
  | .d :: ms, .d x :: vs => (splitV ms vs).map fun p => (p.1, x :: p.2)
  | .c :: ms, .c j :: vs => (splitV ms vs).map fun p => (j :: p.1, p.2)
  | .k :: ms, .k xs :: vs => (splitV ms vs).map fun p => (p.1, .list xs :: p.2)
  | _, _ => none
def nD : List Md → Nat
  | [] => 0
  | .c :: ms => nD ms
  | _ :: ms => nD ms + 1
def nC : List Md → Nat
  | [] => 0
  | .c :: ms => nC ms + 1
  | _ :: ms => nC ms
def nod : List Nat → Bool
  | [] => true
  | j :: r => !(r.contains j) && nod r
def callK (ms : List Md) (F : List PyData → M PyData) (vs : List Vl) : M PyData := match splitV ms vs with
  | some (js, ds) => bif nod js then sub js (F ds) else bad
  | none => bad
def callL (m : M PyData) : M (List PyData) := m >>= fun d => match d with
  | .list xs => pure xs
  | _ => bad
def callN (ms : List Md) (F : List PyData → M PyData) (vs : List Vl) : M (List PyData) := callL (callK ms F vs)
def frame (nl : Nat) (m : M PyData) : M PyData := fun s => match m (s ++ List.replicate nl none) with
  | .ok a s' => .ok a (s'.take s.length)
  | .ex x s' => .ex x (s'.take s.length)
  | .bad => .bad
def noC (j : Nat) : VEnv → Bool
  | [] => true
  | some (.c i) :: r => !(i == j) && noC j r
  | _ :: r => noC j r
def appC (j : Nat) (d : PyData) : M PyData := fun s => match s[j]? with
  | some (some (.lst xs)) => if xs.length < line then .ok .none (s.set j (some (.lst (xs ++ [d])))) else .bad
  | _ => .bad
def putC (j : Nat) (i d : PyData) : M Unit := fun s => match s[j]?, i with
  | some (some (.lst xs)), .int k => match ixN xs.length k with
    | some n => .ok () (s.set j (some (.lst (xs.set n d))))
    | none => .bad
  | _, _ => .bad
end V
namespace ZL
open PySem PySem.Spec PyProof.Rows L2 V
def Sto.del (S : Sto) (a : Addr) : Sto := fun b => if b = a then none else S b
theorem del_same {S : Sto} {a : Addr} : S.del a a = none := by unfold Sto.del; rw [if_pos rfl]
theorem del_ne {S : Sto} {a b : Addr} (h : b ≠ a) : S.del a b = S b := by unfold Sto.del; rw [if_neg h]
theorem RS.lock {K : PySem.W.Frag} {B : Bs} {S : Sto} {H : Hp} {a : Addr} {xs : List V} {ds : List PyData} {o : Obj} (r : RS K B S H) (e : S a = some (.lst ds)) (h : H a = some (.lst xs)) :
    Le H (upd H a (.frz o (.lst xs))) ∧ Step S (S.del a) H (upd H a (.frz o (.lst xs))) ∧ RS K B (S.del a) (upd H a (.frz o (.lst xs))) := by
  have ln : Ln H (upd H a (.frz o (.lst xs))) := ln_set h
  have le := ln.le
  have st : Step S (S.del a) H (upd H a (.frz o (.lst xs))) := fun b u q n => by
    have ne : b ≠ a := fun z => by rw [z, e] at n; cases n
    exact ⟨by rw [upd_ne ne]; exact q, by rw [del_ne ne]; exact n⟩
  refine ⟨le, st, r.step (fun b c q => ?_) st⟩
  have ne : b ≠ a := fun z => by rw [z, del_same] at q; cases q
  rw [del_ne ne] at q
  refine (r.1 b c q).keep ln (fun x zs hx hz => ?_) (fun x m hx => ?_) fun p m hp => ⟨q, fun dss hd => ⟨dss, ?_⟩⟩
  · have : x ≠ a := by
      rcases hx with rfl | ⟨m, hx⟩ | ⟨m, hx⟩
      · exact ne
      · intro z; rw [z, e] at hx; cases hx
      · intro z
        rw [q] at hx
        cases hx
        obtain ⟨_, ⟨dss, ep⟩, _⟩ := r.1 b _ q
        rw [z, e] at ep; cases ep
    rw [upd_ne this]; exact hz
  · rw [del_ne fun z => by rw [z, e] at hx; cases hx]; exact hx
  · rw [del_ne fun z => by rw [z, e] at hd; cases hd]; exact hd
theorem set_self {α : Type} {l : List α} {i : Nat} {a : α} (h : l[i]? = some a) : l.set i a = l := by
  apply List.ext_getElem?
  intro j
  by_cases q : i = j
  · subst q
    rw [List.getElem?_set_self (List.getElem?_eq_some_iff.mp h).1, h]
  · rw [List.getElem?_set_ne q]
theorem zss_lock {X : Cx} {B : Bs} {ss : List Stmt} {t : ZTS} (i : Nat) (h : ZSs X B ss t) : ZSs X B ss (fun D ρ S => ∃ p xs, ρ[i]? = some (some (.r p)) ∧ S p = some (.lst xs) ∧ t D (ρ.set i (some (zl xs))) (S.del p)) := by
  refine ⟨⟨fun pins s σ H E I ⟨ρ, S, D, hE, hS, l, p, xs, ei, e, w⟩ => ?_⟩⟩
  obtain ⟨ws, hp, f⟩ := hS.1 p _ e
  obtain ⟨o, I2⟩ := I.lock hp True.intro
  obtain ⟨le, st, rs⟩ := hS.lock (o := o) e hp
  obtain ⟨v, ev, rz⟩ := hE.get ei
  cases rz
  have E2 := (hE.le le).set i (v := .ref p) (z := zl xs) (.d (.lst ⟨o, upd_same⟩ (f.le le)))
  rw [set_self ev] at E2
  exact h.pss.run pins s σ _ E I2 ⟨_, _, D, E2, rs, l.step st, w⟩
theorem Rel.del {G : Gd} {ps : List Addr} {s : Cells} {S : Sto} {p : Addr} {xs : List PyData} (r : Rel G ps s S) (f : Fresh G ps s S p xs) : Rel G ps s (S.del p) := by
  refine ⟨r.len, fun j c a e1 e2 => ?_, r.inj, fun a c n e => ?_, r.loc, fun a ha => ?_, r.par, fun b a m e => ?_, r.owG, fun a ha q m e => ?_, r.cn⟩
  · rw [del_ne (fun z => f.2.1 j c e1 (by rw [← z]; exact e2))]; exact r.own j c a e1 e2
  · rw [del_ne (fun z => by rw [z, f.2.2.2] at e; cases e)]; exact r.fr a c n e
  · rw [del_ne (fun z : a = p => f.2.2.1 (by rw [← z]; exact ha))]; exact r.gp a ha
  · have ne : b ≠ p := fun z => by subst z; rw [del_same] at e; cases e
    rw [del_ne ne] at e
    obtain ⟨dss, q⟩ := r.owS b a m e
    exact ⟨dss, by rw [del_ne fun z => by rw [z, f.1] at q; cases q]; exact q⟩
  · have ne : a ≠ p := fun z => by subst z; rw [del_same] at e; cases e
    rw [del_ne ne] at e
    exact r.gq a ha q m e
end ZL
namespace ZL
open PySem PySem.Spec PyProof.Rows L2 V
abbrev Tbs := List (Addr × Str)
def TbIn (Ts : Tbs) (S : Sto) : Prop := ∀ x ∈ Ts, S x.1 = some (.tbl x.2)
structure Gt (Ts : Tbs) (G : Gd) : Prop where
  at_ : TbIn Ts G.S
  out : ∀ x ∈ Ts, x.1 ∉ G.p
theorem Gt.now {Ts : Tbs} {G : Gd} {ps : List Addr} {s : Cells} {S : Sto} (g : Gt Ts G) (r : Rel G ps s S) : TbIn Ts S := fun x hx => r.fr x.1 _ (g.out x hx) (g.at_ x hx)
theorem Gt.nil {G : Gd} : Gt [] G := ⟨fun _ h => (by cases h), fun _ h => (by cases h)⟩
def noTb (ps : List Addr) (S : Sto) : Prop := ∀ a ∈ ps, ∀ q, S a ≠ some (.tbl q)
def VSp (Ts : Tbs) (mg : Str → Option Value) (ms : List Md) (rm : Bool) (F : List PyData → M PyData) : ZSp := fun zs S Q E => TbIn Ts S ∧ ∃ (ds : List PyData) (ps0 : List Addr) (s0 : Cells), noTb ps0 S ∧ zs = (encode ms 0 ds).map (Vl.den ps0) ∧ (encode ms 0 ds).length = ms.length ∧ ds.length = nD ms ∧ ps0.length = nC ms ∧ Rel ⟨ps0, S⟩ ps0 s0 S ∧
  sat (F ds s0) (fun d s' => (rm = false ∧ ∀ S', Rel ⟨ps0, S⟩ ps0 s' S' → Q (.d d) S') ∨ (rm = true ∧ ∃ xs, d = .list xs ∧ ∀ S' p, Rel ⟨ps0, S⟩ ps0 s' S' → Fresh ⟨ps0, S⟩ ps0 s' S' p xs → Q (.r p) S')) fun x s' => ∀ zx S', Rel ⟨ps0, S⟩ ps0 s' S' → XR mg x zx → E zx S'
theorem vsp_mono {Ts : Tbs} {mg : Str → Option Value} {ms : List Md} {rm : Bool} {F : List PyData → M PyData} {zs : List Z} {S : Sto} {Q Q' : ZQ} {E E' : ZX → Sto → Prop} (q : ∀ z S', Q z S' → Q' z S') (e : ∀ x S', E x S' → E' x S') (h : VSp Ts mg ms rm F zs S Q E) : VSp Ts mg ms rm F zs S Q' E' := by
  obtain ⟨ht, ds, ps0, s0, hn, e1, e0, e2, e3, r, w⟩ := h
  refine ⟨ht, ds, ps0, s0, hn, e1, e0, e2, e3, r, w.mono (fun d s' h => ?_) fun x s' h zx S' a b => e _ _ (h zx S' a b)⟩
  rcases h with ⟨h1, h⟩ | ⟨h1, xs, e, h⟩
  · exact .inl ⟨h1, fun S' a => q _ _ (h S' a)⟩
  · exact .inr ⟨h1, xs, e, fun S' p a b => q _ _ (h S' p a b)⟩
theorem vsp_len {Ts : Tbs} {mg : Str → Option Value} {ms : List Md} {rm : Bool} {F : List PyData → M PyData} {n : Nat} (hn : ms.length = n) : ∀ zs S Q E, VSp Ts mg ms rm F zs S Q E → zs.length = n := by
  rintro zs S Q E ⟨_, ds, ps0, s0, _, e1, e0, _⟩
  rw [e1, List.length_map, e0, hn]
theorem split_den (ps : List Addr) : ∀ (ms : List Md) (vs : List Vl) (js : List Nat) (ds : List PyData) (pre : List Addr), splitV ms vs = some (js, ds) → vs.map (Vl.den ps) = (encode ms pre.length ds).map (Vl.den (pre ++ js.map (ps.getD · 0))) ∧ (encode ms pre.length ds).length = ms.length ∧ ds.length = nD ms ∧ js.length = nC ms
  | [], [], js, ds, pre, h => by cases h; exact ⟨rfl, rfl, rfl, rfl⟩
  | .d :: ms, .d x :: vs, js, ds, pre, h => by
    simp only [splitV, Option.map_eq_some_iff] at h
    obtain ⟨⟨js', ds'⟩, e, h⟩ := h
    cases h
    obtain ⟨h1, h2, h3, h4⟩ := split_den ps ms vs _ _ pre e
    exact ⟨by simp only [List.map_cons, encode, h1]; rfl, by simp only [encode, List.length_cons, h2], by simp only [nD, List.length_cons, h3], h4⟩
  | .c :: ms, .c j :: vs, js, ds, pre, h => by
    simp only [splitV, Option.map_eq_some_iff] at h
    obtain ⟨⟨js', ds'⟩, e, h⟩ := h
    cases h
    obtain ⟨h1, h2, h3, h4⟩ := split_den ps ms vs js' _ (pre ++ [ps.getD j 0]) e
    rw [List.length_append, List.append_assoc] at h1
    rw [List.length_append] at h2
    refine ⟨?_, congrArg (· + 1) h2, h3, by simp only [nC, List.length_cons, h4]⟩
    simp only [List.map_cons, encode, h1]
    congr 1
    simp [Vl.den]
  | .k :: ms, .k xs :: vs, js, ds, pre, h => by
    simp only [splitV, Option.map_eq_some_iff] at h
    obtain ⟨⟨js', ds'⟩, e, h⟩ := h
    cases h
    obtain ⟨h1, h2, h3, h4⟩ := split_den ps ms vs _ _ pre e
    exact ⟨by simp only [List.map_cons, encode, h1]; rfl, by simp only [encode, List.length_cons, h2], by simp only [nD, List.length_cons, h3], h4⟩
  | [], _ :: _, _, _, _, h => by simp [splitV] at h
  | .d :: _, [], _, _, _, h => by simp [splitV] at h
  | .d :: _, .ob _ :: _, _, _, _, h => by simp [splitV] at h
  | .d :: _, .c _ :: _, _, _, _, h => by simp [splitV] at h
  | .d :: _, .k _ :: _, _, _, _, h => by simp [splitV] at h
  | .c :: _, [], _, _, _, h => by simp [splitV] at h
  | .c :: _, .ob _ :: _, _, _, _, h => by simp [splitV] at h
  | .c :: _, .d _ :: _, _, _, _, h => by simp [splitV] at h
  | .c :: _, .k _ :: _, _, _, _, h => by simp [splitV] at h
  | .k :: _, [], _, _, _, h => by simp [splitV] at h
  | .k :: _, .ob _ :: _, _, _, _, h => by simp [splitV] at h
  | .k :: _, .d _ :: _, _, _, _, h => by simp [splitV] at h
  | .k :: _, .c _ :: _, _, _, _, h => by simp [splitV] at h
theorem pick_at (s : Cells) : ∀ (js : List Nat) (i : Nat) (c : Cell), (pick s js)[i]? = some (some c) → ∃ j, js[i]? = some j ∧ s[j]? = some (some c)
  | [], i, c, h => by simp [pick] at h
  | j :: r, 0, c, h => by
    refine ⟨j, rfl, ?_⟩
    simp only [pick, List.getElem?_cons_zero, Option.some.injEq, List.getD_eq_getElem?_getD] at h
    cases e : s[j]? with
    | none => rw [e] at h; cases h
    | some o => rw [e] at h; simpa using h
  | j :: r, i + 1, c, h => by
    obtain ⟨j', e1, e2⟩ := pick_at s r i c (by simpa [pick] using h)
    exact ⟨j', by simpa using e1, e2⟩
theorem pick_len (s : Cells) : ∀ js : List Nat, (pick s js).length = js.length
  | [] => rfl
  | j :: r => by simp [pick, pick_len s r]
theorem nod_nodup : ∀ {js : List Nat}, nod js = true → js.Nodup
  | [], _ => .nil
  | j :: r, h => by
    simp only [nod, Bool.and_eq_true, Bool.not_eq_true', List.contains_eq_mem, decide_eq_false_iff_not] at h
    exact List.nodup_cons.mpr ⟨h.1, nod_nodup h.2⟩
theorem put_len : ∀ (js : List Nat) (s s' : Cells), (V.put s js s').length = s.length
  | [], s, s' => by cases s' <;> rfl
  | j :: r, s, [] => rfl
  | j :: r, s, c :: cs => by simp [V.put, put_len r]
theorem put_get : ∀ (js : List Nat) (s s' : Cells) (k : Nat), js.Nodup → s'.length = js.length → (V.put s js s')[k]? = (if k ∈ js then (if k < s.length then s'[js.idxOf k]? else none) else s[k]?)
  | [], s, s', k, _, _ => by cases s' <;> simp [V.put]
  | j :: r, s, [], k, _, h => by simp at h
  | j :: r, s, c :: cs, k, nd, h => by
    have nd' := List.nodup_cons.mp nd
    simp only [V.put]
    rw [put_get r (s.set j c) cs k nd'.2 (by simpa using h)]
    by_cases q : k = j
    · subst q
      simp only [nd'.1, if_false, List.mem_cons, true_or, if_true, List.idxOf_cons_self, List.getElem?_cons_zero]
      rw [List.getElem?_set]
      simp
    · simp only [List.mem_cons, q, false_or, List.length_set]
      rw [List.getElem?_set_ne (Ne.symm q)]
      by_cases hk : k ∈ r
      · simp only [hk, if_true]
        have e2 : (j :: r).idxOf k = r.idxOf k + 1 := by
          rw [List.idxOf_cons]
          have : (j == k) = false := by simpa using (Ne.symm q)
          rw [this]; rfl
        rw [e2, List.getElem?_cons_succ]
      · simp only [hk, if_false]
theorem getD_at {ps : List Addr} {j : Nat} {a : Addr} (h : ps[j]? = some a) : ps.getD j 0 = a := by
  rw [List.getD_eq_getElem?_getD, h]; rfl
theorem Rel.into {G : Gd} {ps : List Addr} {s : Cells} {S : Sto} (r : Rel G ps s S) {js : List Nat} (nd : js.Nodup) (live : ∀ j ∈ js, ∃ c, s[j]? = some (some c)) : Rel ⟨js.map (ps.getD · 0), S⟩ (js.map (ps.getD · 0)) (pick s js) S := by
  have at' : ∀ {i : Nat} {c : Cell} {a : Addr}, (pick s js)[i]? = some (some c) → (js.map (ps.getD · 0))[i]? = some a → ∃ j, js[i]? = some j ∧ s[j]? = some (some c) ∧ ps[j]? = some a := by
    intro i c a e1 e2
    obtain ⟨j, h1, h2⟩ := pick_at s js i c e1
    rw [List.getElem?_map, h1] at e2
    cases e2
    exact ⟨j, h1, h2, (r.at h2).1⟩
  refine ⟨by rw [List.length_map, pick_len], fun i c a e1 e2 => ?_, fun i k ci ck a e1 e2 e3 e4 => ?_, fun a c _ e => e, fun i c a e1 e2 => ?_, fun a ha => ?_, List.take_length, r.owS, r.owS, fun a ha q m e => ?_, fun i q m e => ?_⟩
  · obtain ⟨j, h1, h2, h3⟩ := at' e1 e2
    exact r.own j c a h2 h3
  · obtain ⟨j, h1, h2, h3⟩ := at' e1 e3
    obtain ⟨j', h1', h2', h3'⟩ := at' e2 e4
    have := r.inj j j' ci ck a h2 h2' h3 h3'
    subst this
    exact (List.getElem?_inj (List.getElem?_eq_some_iff.mp h1).1 nd).mp (h1.trans h1'.symm)
  · refine .inl ⟨(List.getElem?_eq_some_iff.mp e2).1, List.mem_of_getElem? e2⟩
  · obtain ⟨j, hj, rfl⟩ := List.mem_map.mp ha
    obtain ⟨c, hc⟩ := live j hj
    rw [(r.at hc).2]
    exact fun z => nomatch z
  · obtain ⟨j, hj, rfl⟩ := List.mem_map.mp ha
    obtain ⟨c, hc⟩ := live j hj
    rw [(r.at hc).2] at e
    cases e
    exact r.cn j q m hc
  · obtain ⟨j, _, h2⟩ := pick_at s js i _ e
    exact r.cn j q m h2
theorem Rel.back {G : Gd} {ps : List Addr} {s s' : Cells} {S S' : Sto} (r : Rel G ps s S) {js : List Nat} (nd : js.Nodup) (live : ∀ j ∈ js, ∃ c, s[j]? = some (some c)) (r' : Rel ⟨js.map (ps.getD · 0), S⟩ (js.map (ps.getD · 0)) s' S') : Rel G ps (V.put s js s') S' := by
  have hl : s'.length = js.length := by rw [← r'.len, List.length_map]
  have get : ∀ {k : Nat} {c : Cell}, (V.put s js s')[k]? = some (some c) → (∃ i : Nat, js[i]? = some k ∧ s'[i]? = some (some c)) ∨ (k ∉ js ∧ s[k]? = some (some c)) := by
    intro k c e
    rw [put_get js s s' k nd hl] at e
    by_cases q : k ∈ js
    · simp only [q, if_true] at e
      split at e
      · refine .inl ⟨js.idxOf k, ?_, e⟩
        rw [List.getElem?_eq_getElem (List.idxOf_lt_length_of_mem q), List.getElem_idxOf]
      · cases e
    · simp only [q, if_false] at e
      exact .inr ⟨q, e⟩
  have was : ∀ {k : Nat} {c : Cell}, (V.put s js s')[k]? = some (some c) → ∃ c0, s[k]? = some (some c0) := by
    intro k c e
    rcases get e with ⟨i, h1, _⟩ | ⟨_, h⟩
    · exact live k (List.mem_of_getElem? h1)
    · exact ⟨_, h⟩
  have keep : ∀ {a : Addr} {c : Cell}, (∀ j ∈ js, ps[j]? ≠ some a) → S a = some c → S' a = some c := by
    intro a c n e
    refine r'.fr a c ?_ e
    intro z
    obtain ⟨j, hj, ej⟩ := List.mem_map.mp z
    obtain ⟨c', hc'⟩ := live j hj
    exact n j hj (by rw [(r.at hc').1]; exact congrArg some ej)
  refine ⟨by rw [put_len]; exact r.len, fun k c a e1 e2 => ?_, fun i k ci ck a e1 e2 e3 e4 => ?_, fun a c n e => ?_, fun k c a e1 e2 => ?_, fun a ha => ?_, r.par, r'.owS, r.owG, fun a ha q m e => ?_, fun k q m e => ?_⟩
  · rcases get e1 with ⟨i, h1, h2⟩ | ⟨n, h⟩
    · exact r'.own i c a h2 (by rw [List.getElem?_map, h1]; exact congrArg some (getD_at e2))
    · refine keep (fun j hj z => ?_) (r.own k c a h e2)
      obtain ⟨c', hc'⟩ := live j hj
      have := r.inj k j c c' a h hc' e2 z
      exact n (this ▸ hj)
  · obtain ⟨c1, h1⟩ := was e1
    obtain ⟨c2, h2⟩ := was e2
    exact r.inj i k c1 c2 a h1 h2 e3 e4
  · refine keep (fun j hj z => ?_) (r.fr a c n e)
    obtain ⟨c', hc'⟩ := live j hj
    rcases r.loc j c' a hc' z with q | q
    · exact n q.2
    · rw [q.2.2] at e; cases e
  · obtain ⟨c1, h1⟩ := was e1
    exact r.loc k c1 a h1 e2
  · by_cases q : ∃ j ∈ js, ps[j]? = some a
    · obtain ⟨j, hj, e⟩ := q
      refine r'.gp a (List.mem_map.mpr ⟨j, hj, getD_at e⟩)
    · cases e : S a with
      | none => exact absurd e (r.gp a ha)
      | some c => rw [keep (fun j hj z => q ⟨j, hj, z⟩) e]; exact fun z => nomatch z
  · by_cases z : ∃ j ∈ js, ps[j]? = some a
    · obtain ⟨j, hj, ej⟩ := z
      exact r'.gq a (List.mem_map.mpr ⟨j, hj, getD_at ej⟩) q m e
    · cases ea : S a with
      | none => exact r.gp a ha ea
      | some c =>
        rw [keep (fun j hj x => z ⟨j, hj, x⟩) ea] at e
        cases e
        exact r.gq a ha q m ea
  · rcases get e with ⟨i, h1, h2⟩ | ⟨_, h⟩
    · exact r'.cn i q m h2
    · exact r.cn k q m h
theorem Rel.back_fresh {G : Gd} {ps : List Addr} {s s' : Cells} {S S' : Sto} (r : Rel G ps s S) {js : List Nat} (nd : js.Nodup) (live : ∀ j ∈ js, ∃ c, s[j]? = some (some c)) (r' : Rel ⟨js.map (ps.getD · 0), S⟩ (js.map (ps.getD · 0)) s' S') {p : Addr} {xs : List PyData} (f : Fresh ⟨js.map (ps.getD · 0), S⟩ (js.map (ps.getD · 0)) s' S' p xs) : Fresh G ps (V.put s js s') S' p xs := by
  have hl : s'.length = js.length := by rw [← r'.len, List.length_map]
  have n0 : S p = none := f.2.2.2
  refine ⟨f.1, fun k c e1 e2 => ?_, fun z => r.gp p z n0, ?_⟩
  · rw [put_get js s s' k nd hl] at e1
    by_cases q : k ∈ js
    · obtain ⟨c', hc'⟩ := live k q
      rw [r.own k c' p hc' e2] at n0; cases n0
    · simp only [q, if_false] at e1
      rw [r.own k c p e1 e2] at n0; cases n0
  · cases e : G.S p with
    | none => rfl
    | some c =>
      by_cases q : p ∈ G.p
      · exact absurd n0 (r.gp p q)
      · rw [r.fr p c q e] at n0; cases n0
theorem live_at {s : Cells} {js : List Nat} (h : liveB s js = true) : ∀ j ∈ js, ∃ c, s[j]? = some (some c) ∧ ∀ q, c ≠ .tbl q := by
  intro j hj
  have := List.all_eq_true.mp h j hj
  rw [List.getD_eq_getElem?_getD] at this
  cases e : s[j]? with
  | none => rw [e] at this; simp [liveC] at this
  | some o =>
    rw [e] at this
    cases o with
    | none => simp [liveC] at this
    | some c =>
      refine ⟨c, rfl, fun q z => ?_⟩
      subst z
      simp [liveC] at this
theorem live_of {s : Cells} {js : List Nat} (h : liveB s js = true) : ∀ j ∈ js, ∃ c, s[j]? = some (some c) := fun j hj => let ⟨c, e, _⟩ := live_at h j hj; ⟨c, e⟩
theorem Rel.noTb {G : Gd} {ps : List Addr} {s : Cells} {S : Sto} (r : Rel G ps s S) {js : List Nat} (h : liveB s js = true) : noTb (js.map (ps.getD · 0)) S := fun a ha q z => by
  obtain ⟨j, hj, rfl⟩ := List.mem_map.mp ha
  obtain ⟨c, hc, n⟩ := live_at h j hj
  rw [(r.at hc).2] at z
  exact n q (Option.some.inj z)
end ZL
namespace ZL
open PySem PySem.Spec PyProof.Rows L2 V
section
variable {C : Ct} {e a b c tg : Expr} {es : List Expr} {ρ : VEnv} {pos p : Pos} {m : M PyData} {mN : M (List PyData)}
theorem sat_sub {α : Type} {js : List Nat} {m : M α} {s : Cells} {Q : α → Cells → Prop} {E : Exn → Cells → Prop} (h : sat (sub js m s) Q E) : liveB s js = true ∧ sat (m (pick s js)) (fun a s' => Q a (V.put s js s')) (fun x s' => E x (V.put s js s')) := by
  unfold sub at h
  cases e : liveB s js with
  | false => rw [e] at h; exact h.elim
  | true =>
    rw [e] at h
    refine ⟨rfl, ?_⟩
    unfold sat at *
    cases e2 : m (pick s js) with
    | ok a s' => simp only [cond_true, e2] at h; exact h
    | ex x s' => simp only [cond_true, e2] at h; exact h
    | bad => simp only [cond_true, e2] at h
variable {Ts : Tbs} {k : Nat} {f : Addr} {fd : FuncData} {ps' : List Str} {ms : List Md} {rm : Bool} {F : List PyData → M PyData} {x : Str}
theorem call_low (g : Gt Ts C.G) {ps : List Addr} {s : Cells} {S : Sto} {vs : List Vl} {Q : ZQ} (r : Rel C.G ps s S) {js : List Nat} {ds : List PyData} (es : splitV ms vs = some (js, ds)) (nd : nod js = true) (w : sat (sub js (F ds) s) (fun d s' => (rm = false ∧ ∀ S', Rel C.G ps s' S' → Q (.d d) S') ∨ (rm = true ∧ ∃ xs, d = .list xs ∧ ∀ S' p, Rel C.G ps s' S' → Fresh C.G ps s' S' p xs → Q (.r p) S')) (XOk C.X.mg C.G C.EZ)) :
    VSp Ts C.X.mg ms rm F (vs.map (Vl.den ps)) S Q (fun zx S' => C.EZ zx S') := by
  obtain ⟨h1, h2, h3, h4⟩ := split_den ps ms vs js ds [] es
  obtain ⟨lv, w⟩ := sat_sub w
  have nd := nod_nodup nd
  have live := live_of lv
  refine ⟨g.now r, ds, js.map (ps.getD · 0), pick s js, r.noTb lv, h1, h2, h3, by rw [List.length_map]; exact h4, r.into nd live, w.mono (fun d s' h => ?_) fun x s' h zx S' r' xr => h zx ps S' (r.back nd live r') xr⟩
  rcases h with ⟨e, h⟩ | ⟨e, xs, ed, h⟩
  · exact .inl ⟨e, fun S' r' => h S' (r.back nd live r')⟩
  · exact .inr ⟨e, xs, ed, fun S' p r' fr => h S' p (r.back nd live r') (r.back_fresh nd live r' fr)⟩
theorem sat_callK {vs : List Vl} {s : Cells} {Q : PyData → Cells → Prop} {E : Exn → Cells → Prop} (h : sat (callK ms F vs s) Q E) : ∃ js ds, splitV ms vs = some (js, ds) ∧ nod js = true ∧ sat (sub js (F ds) s) Q E := by
  unfold callK at h
  cases e : splitV ms vs with
  | none => rw [e] at h; exact h.elim
  | some p =>
    obtain ⟨js, ds⟩ := p
    rw [e] at h
    cases e2 : nod js with
    | false => simp only [e2, cond_false] at h; exact h.elim
    | true => simp only [e2, cond_true] at h; exact ⟨js, ds, rfl, e2, h⟩
theorem f_call (Fn : ZFn C.X.prog C.X.w C.X.K C.X.mg C.X.base k f fd ps' (VSp Ts C.X.mg ms false F)) (hG : C.X.A.guards = some [] ∧ Gt Ts C.G) (hr : Room k C.X.A) (hm : C.X.mg x = some (.ref f)) (hk : PySem.W.keepIn C.X.K (.ref f) = true) (hb : Binds C.X.K fd ps' []) (hx : Tk C.X C.B (fun _ zx S => C.EZ zx S))
    (ha : FA C (e :: es) ρ [] m (callK ms F)) (hg : Gl C.X x := by rfl) (hdb : (x == ("__debug__" : Str)) = false := by decide) (he : starEach (e :: es) C.X.env = (false, eval e C.X.env) :: starEach es C.X.env := by rfl) (hpl : (backTo pos (starEach es C.X.env)).any (·.1) = false := by rfl) : FE C (.Call (.Name x p) (e :: es) [] pos) ρ m := by
  intro ps s S Q r w
  refine (ze_call Fn hG.1 hr hm hk hb hx wa_za hg hdb he hpl).we ?_
  refine ha ps s S _ _ r w fun vs s' S' r' w' => ?_
  rw [List.nil_append] at w'
  obtain ⟨js, ds, e1, nd, w2⟩ := sat_callK w'
  exact call_low hG.2 r' e1 nd (w2.mono (fun d s2 h => .inl ⟨rfl, h⟩) fun _ _ h => h)
theorem n_call (Fn : ZFn C.X.prog C.X.w C.X.K C.X.mg C.X.base k f fd ps' (VSp Ts C.X.mg ms true F)) (hG : C.X.A.guards = some [] ∧ Gt Ts C.G) (hr : Room k C.X.A) (hm : C.X.mg x = some (.ref f)) (hk : PySem.W.keepIn C.X.K (.ref f) = true) (hb : Binds C.X.K fd ps' []) (hx : Tk C.X C.B (fun _ zx S => C.EZ zx S))
    (ha : FA C (e :: es) ρ [] mN (callN ms F)) (hg : Gl C.X x := by rfl) (hdb : (x == ("__debug__" : Str)) = false := by decide) (he : starEach (e :: es) C.X.env = (false, eval e C.X.env) :: starEach es C.X.env := by rfl) (hpl : (backTo pos (starEach es C.X.env)).any (·.1) = false := by rfl) : FN C (.Call (.Name x p) (e :: es) [] pos) ρ mN := by
  intro ps s S Q r w
  refine (ze_call Fn hG.1 hr hm hk hb hx wa_za hg hdb he hpl).we ?_
  refine ha ps s S _ _ r w fun vs s' S' r' w' => ?_
  rw [List.nil_append] at w'
  obtain ⟨js, ds, e1, nd, w2⟩ := sat_callK (sat_bind w')
  refine call_low hG.2 r' e1 nd (w2.mono (fun d s2 h => ?_) fun _ _ h => h)
  cases d with
  | list xs => exact .inr ⟨rfl, xs, rfl, h⟩
  | _ => exact h.elim
end
def FlOk (C : Ct) (rm : Bool) (D : ZEnds) {L T : Type} (emb : T → VEnv) (embL : L → VEnv) : Fl L T → Cells → Prop
  | .nx t, s => ∀ ps S ρ, Rel C.G ps s S → Fg (emb t) ρ → D.nx (VEnv.den ps ρ) S
  | .bk l, s => ∀ ps S ρ, Rel C.G ps s S → Fg (embL l) ρ → D.bk (VEnv.den ps ρ) S
  | .ct l, s => ∀ ps S ρ, Rel C.G ps s S → Fg (embL l) ρ → D.ct (VEnv.den ps ρ) S
  | .rt v, s => (rm = false ∧ ∀ ps S, Rel C.G ps s S → D.rt (.d v) S) ∨ (rm = true ∧ ∃ xs, v = .list xs ∧ ∀ ps S p, Rel C.G ps s S → Fresh C.G ps s S p xs → D.rt (.r p) S)
def WSK (X : Cx) (B : Bs) : List (List Stmt) → List Stmt → ZTS
  | [], ss => WSs X B ss
  | r :: K, ss => fun D ρ S => WSs X B ss { D with nx := fun ρ S => WSK X B K r D ρ S } ρ S
theorem wsk_cons {X : Cx} {B : Bs} {K : List (List Stmt)} {st : Stmt} {rest : List Stmt} {t : ZTS} (h : ZS X B st t) {D : ZEnds} {ρ : ZEnv} {S : Sto} (w : t { D with nx := fun ρ S => WSK X B K rest D ρ S } ρ S) : WSK X B K (st :: rest) D ρ S := by
  cases K with
  | nil => exact (zss_cons h wss_zss).we w
  | cons r K => exact (zss_cons h wss_zss).we w
theorem WSK.forget {X : Cx} {B : Bs} {K : List (List Stmt)} {ss : List Stmt} {D : ZEnds} {ρ ρ' : ZEnv} {S : Sto} (f : Fgz ρ' ρ) (w : WSK X B K ss D ρ' S) : WSK X B K ss D ρ S := by
  cases K with
  | nil => exact WSs.forget f w
  | cons r K => exact WSs.forget f w
def FS (C : Ct) (rm : Bool) (K : List (List Stmt)) (ss : List Stmt) (ρ : VEnv) {L T : Type} (emb : T → VEnv) (embL : L → VEnv) (m : M (Fl L T)) : Prop := ∀ ps s S (D : ZEnds), Rel C.G ps s S → sat (m s) (FlOk C rm D emb embL) (XOk C.X.mg C.G C.EZ) → WSK C.X C.B K ss D (VEnv.den ps ρ) S
section
variable {C : Ct} {rm : Bool} {e a b c tg : Expr} {es : List Expr} {ρ : VEnv} {pos p : Pos} {K : List (List Stmt)} {rest body orelse : List Stmt} {L T T1 : Type} {emb : T → VEnv} {embL : L → VEnv} {m : M (Fl L T)} {me mi : M PyData} {mN : M (List PyData)}
theorem s_pop (h : FS C rm K rest ρ emb embL m) : FS C rm (rest :: K) [] ρ emb embL m := fun ps s S D r w => zss_nil.we (h ps s S D r w)
theorem s_end {t : T} (h : Fg (emb t) ρ) : FS C rm [] [] ρ emb embL (pure (.nx t)) := fun ps s S D r w => zss_nil.we (w ps S ρ r h)
theorem s_end0 {n : Nat} (h : ρ.length = n := by rfl) : FS C rm [] [] ρ (fun _ : Unit => List.replicate n none) embL (pure (.nx ())) := by
  subst h
  exact s_end (Fg.none ρ)
theorem s_set (i : Nat) {x : Str} {pos' : Pos} {k : PyData → M (Fl L T)} (hN : C.X.N.Nodup) (he : FE C e ρ me) (hr : ∀ v, FS C rm K rest (ρ.set i (some (.d v))) emb embL (k v)) (hi : C.X.N[i]? = some x := by rfl) (hx : Loc C.X.env.scope x := by first | exact Or.inl rfl | exact Or.inr rfl) (hs : swapsWith e (some (.Name x pos')) pos.line C.X.env = pure false := by rfl) (hf : C.X.fn x = true ∨ C.X.env.scope.names.lookup x = some .local := by first | exact .inl rfl | exact .inr rfl | assumption) :
    FS C rm K (.Assign [.Name x pos'] e pos :: rest) ρ emb embL (me >>= k) := by
  intro ps s S D r w
  refine wsk_cons (zs_set i hN we_ze hi hx hs hf) ?_
  refine he ps s S _ r ((sat_bind w).mono (fun v s' w' S' r' => ?_) fun _ _ h => h)
  have := hr v ps s' S' D r' w'
  rw [den_set] at this
  exact this
theorem fgz_lay {ps : List Addr} {p : Addr} {j : Nat} : ∀ {ρ : VEnv}, noC j ρ = true → VEnv.den (ps.set j p) ρ = VEnv.den ps ρ
  | [], _ => rfl
  | o :: r, h => by
    have hd : noC j r = true := by
      cases o with
      | none => exact h
      | some v =>
        cases v with
        | c i => simp only [noC, Bool.and_eq_true] at h; exact h.2
        | d x => exact h
        | k x => exact h
        | ob x => exact h
    show Option.map (Vl.den (ps.set j p)) o :: VEnv.den (ps.set j p) r = Option.map (Vl.den ps) o :: VEnv.den ps r
    rw [fgz_lay hd]
    congr 1
    cases o with
    | none => rfl
    | some v =>
      cases v with
      | d x => rfl
      | k x => rfl
      | ob x => rfl
      | c i =>
        simp only [noC, Bool.and_eq_true, Bool.not_eq_true', beq_eq_false_iff_ne] at h
        show some (Z.r _) = some (Z.r _)
        congr 2
        rw [List.getD_eq_getElem?_getD, List.getD_eq_getElem?_getD, List.getElem?_set_ne (Ne.symm h.1)]
theorem den_lay {ps : List Addr} {p : Addr} {j i : Nat} {ρ : VEnv} (hj : j < ps.length) (h : noC j (ρ.set i none) = true) : VEnv.den (ps.set j p) (ρ.set i (some (.c j))) = (VEnv.den ps ρ).set i (some (.r p)) := by
  have e1 : ρ.set i (some (.c j)) = (ρ.set i none).set i (some (.c j)) := by rw [List.set_set]
  rw [e1, den_set, fgz_lay h, den_set, List.set_set]
  congr 1
  show some (Z.r _) = some (Z.r p)
  rw [List.getD_eq_getElem?_getD, List.getElem?_set_self hj]
  rfl
theorem sat_setC {j : Nat} {xs : List PyData} {s : Cells} {Q : Unit → Cells → Prop} {E : Exn → Cells → Prop} (h : sat (setC j xs s) Q E) : j < s.length ∧ Q () (s.set j (some (.lst xs))) := by
  unfold setC at h
  split at h
  · rename_i hj; exact ⟨hj, h⟩
  · exact h.elim
theorem s_setC (i j : Nat) {x : Str} {pos' : Pos} {k : Unit → M (Fl L T)} (hl : C.G.p.length ≤ j) (hN : C.X.N.Nodup) (he : FN C e ρ mN) (hr : FS C rm K rest (ρ.set i (some (.c j))) emb embL (k ())) (hno : noC j (ρ.set i none) = true := by rfl) (hi : C.X.N[i]? = some x := by rfl) (hx : Loc C.X.env.scope x := by first | exact Or.inl rfl | exact Or.inr rfl) (hs : swapsWith e (some (.Name x pos')) pos.line C.X.env = pure false := by rfl) (hf : C.X.fn x = true ∨ C.X.env.scope.names.lookup x = some .local := by first | exact .inl rfl | exact .inr rfl | assumption) :
    FS C rm K (.Assign [.Name x pos'] e pos :: rest) ρ emb embL (mN >>= fun xs => setC j xs >>= k) := by
  intro ps s S D r w
  refine wsk_cons (zs_set i hN we_ze hi hx hs hf) ?_
  refine he ps s S _ r ((sat_bind w).mono (fun xs s' w' S' p r' f => ?_) fun _ _ h => h)
  obtain ⟨hj, w2⟩ := sat_setC (sat_bind w')
  have := hr (ps.set j p) _ S' D (r'.lay f j hj hl) w2
  rw [den_lay (by rw [r'.len]; exact hj) hno] at this
  exact this
theorem s_expr {k : PyData → M (Fl L T)} (he : FE C e ρ me) (hr : ∀ v, FS C rm K rest ρ emb embL (k v)) (hs : swapsWith e none pos.line C.X.env = pure false := by rfl) : FS C rm K (.Expr e pos :: rest) ρ emb embL (me >>= k) := by
  intro ps s S D r w
  refine wsk_cons (zs_expr we_ze hs) ?_
  exact he ps s S _ r ((sat_bind w).mono (fun v s' w' S' r' => hr v ps s' S' D r' w') fun _ _ h => h)
theorem s_ret (he : FE C e ρ me) : FS C false K (.Return (some e) pos :: rest) ρ emb embL (me >>= fun v => pure (.rt v)) := by
  intro ps s S D r w
  refine wsk_cons (zs_ret we_ze) ?_
  refine he ps s S _ r ((sat_bind w).mono (fun v s' w' S' r' => ?_) fun _ _ h => h)
  rcases w' with ⟨_, h⟩ | ⟨h, _⟩
  · exact h ps S' r'
  · cases h
theorem s_retL (he : FN C e ρ mN) : FS C true K (.Return (some e) pos :: rest) ρ emb embL (mN >>= fun xs => pure (.rt (.list xs))) := by
  intro ps s S D r w
  refine wsk_cons (zs_ret we_ze) ?_
  refine he ps s S _ r ((sat_bind w).mono (fun v s' w' S' p r' f => ?_) fun _ _ h => h)
  rcases w' with ⟨h, _⟩ | ⟨_, xs, e, h⟩
  · cases h
  · cases e; exact h ps S' p r' f
def lockC (j : Nat) : M (List PyData) := getC j >>= fun xs => delC j >>= fun _ => pure xs
theorem s_lock (i j : Nat) {k : List PyData → M (Fl L T)} (hl : C.G.p.length ≤ j) (hr : ∀ xs, FS C rm K rest (ρ.set i (some (.d (.list xs)))) emb embL (k xs)) (hρ : ρ[i]? = some (some (.c j)) := by rfl) : FS C rm K rest ρ emb embL (lockC j >>= k) := by
  intro ps s S D r w
  obtain ⟨xs, ex, w1⟩ := sat_getC (sat_bind (sat_bind w))
  have w2 := sat_bind w1
  have hj : j < s.length := (List.getElem?_eq_some_iff.mp ex).1
  obtain ⟨e1, o1⟩ := r.at ex
  have f : Fresh C.G ps (s.set j none) S (ps.getD j 0) xs := by
    refine ⟨o1, fun k c e2 e3 => ?_, ?_⟩
    · by_cases q : k = j
      · subst q
        rw [List.getElem?_set_self hj] at e2
        cases e2
      · rw [List.getElem?_set_ne (Ne.symm q)] at e2
        exact q (r.inj k j c _ _ e2 ex e3 e1)
    · rcases r.loc j _ _ ex e1 with q | q
      · omega
      · exact ⟨q.2.1, q.2.2⟩
  have go := hr xs ps (s.set j none) (S.del (ps.getD j 0)) D ((r.drop j).del f) w2
  rw [den_set] at go
  have lk : ∀ {D : ZEnds}, WSs C.X C.B rest D ((VEnv.den ps ρ).set i (some (zl xs))) (S.del (ps.getD j 0)) → WSs C.X C.B rest D (VEnv.den ps ρ) S := fun h => (zss_lock i wss_zss).we ⟨_, xs, den_get ps ρ i hρ, o1, h⟩
  cases K with
  | nil => exact lk go
  | cons r K => exact lk go
variable {mt : M Bool} {ma mb : M (Fl L T)} {m1 m2 : M (Fl L T1)} {emb1 : T1 → VEnv}
theorem s_if (hc : FT C c ρ mt) (h1 : FS C rm (rest :: K) body ρ emb embL ma) (h2 : FS C rm (rest :: K) orelse ρ emb embL mb) : FS C rm K (.If c body orelse pos :: rest) ρ emb embL (mt >>= fun t => bif t then ma else mb) := by
  intro ps s S D r w
  refine wsk_cons (zs_if wt_zt wss_zss wss_zss) ?_
  refine hc ps s S _ r ((sat_bind w).mono (fun t s' w' S' r' => ?_) fun _ _ h => h)
  cases t with
  | true => exact h1 ps s' S' D r' w'
  | false => exact h2 ps s' S' D r' w'
theorem s_join {k : T1 → M (Fl L T)} (hc : FT C c ρ mt) (h1 : FS C rm [] body ρ emb1 embL m1) (h2 : FS C rm [] orelse ρ emb1 embL m2) (hr : ∀ t, FS C rm K rest (emb1 t) emb embL (k t)) : FS C rm K (.If c body orelse pos :: rest) ρ emb embL (mt >>= fun t => (bif t then m1 else m2) >>= flk k) := by
  intro ps s S D r w
  refine wsk_cons (zs_if wt_zt wss_zss wss_zss) ?_
  refine hc ps s S _ r ((sat_bind w).mono (fun t s' w' S' r' => ?_) fun _ _ h => h)
  have flow : ∀ (fl : Fl L T1) s2, sat (flk k fl s2) (FlOk C rm D emb embL) (XOk C.X.mg C.G C.EZ) → FlOk C rm { D with nx := fun ρ S => WSK C.X C.B K rest D ρ S } emb1 embL fl s2 := by
    intro fl s2 w2
    cases fl with
    | nx t => exact fun ps2 S2 ρ2 r2 f2 => WSK.forget (Fg.den ps2 f2) (hr t ps2 s2 S2 D r2 w2)
    | bk l => exact w2
    | ct l => exact w2
    | rt v => exact w2
  cases t with
  | true => exact h1 ps s' S' { D with nx := fun ρ S => WSK C.X C.B K rest D ρ S } r' ((sat_bind w').mono flow fun _ _ h => h)
  | false => exact h2 ps s' S' { D with nx := fun ρ S => WSK C.X C.B K rest D ρ S } r' ((sat_bind w').mono flow fun _ _ h => h)
variable {α : Type} {pt : PyData → Option α} {g : ZG} {asg : α → List (Nat × PyData)} {own : List Nat}
theorem s_asg {k : α → M (Fl L T)} (he : FE C e ρ me) (zg : ZGt C.X C.B tg own g) (hg : GOk g pt asg) (hr : ∀ t, FS C rm K rest (setl ρ (asg t)) emb embL (k t)) (hs : swapsWithSole [tg] e pos.line C.X.env = pure false := by rfl) (hw : swappedStores [tg] e C.X.env = pure none := by rfl)
    (h1 : (assignEach [tg] C.X.env).map (·.2) = [assign tg C.X.env] := by rfl) : FS C rm K (.Assign [tg] e pos :: rest) ρ emb embL (me >>= fun v => ofO (pt v) >>= k) := by
  intro ps s S D r w
  refine wsk_cons (zs_asg we_ze zg hs hw h1) ?_
  refine he ps s S _ r ((sat_bind w).mono (fun v s' w' S' r' => ?_) fun _ _ h => h)
  obtain ⟨t, e, w2⟩ := sat_ofO (sat_bind w')
  refine hg v t _ S' _ e ?_
  have := hr t ps s' S' D r' w2
  rw [den_setl] at this
  exact this
theorem sat_putC {j : Nat} {i d : PyData} {s : Cells} {Q : Unit → Cells → Prop} {E : Exn → Cells → Prop} (h : sat (putC j i d s) Q E) : ∃ xs k n, s[j]? = some (some (.lst xs)) ∧ i = .int k ∧ ixN xs.length k = some n ∧ Q () (s.set j (some (.lst (xs.set n d)))) := by
  unfold putC at h
  split at h
  · rename_i xs k e
    split at h
    · rename_i n en; exact ⟨xs, k, n, e, rfl, en, h⟩
    · exact h.elim
  · exact h.elim
theorem s_sub (i0 j : Nat) {x : Str} {px pt' : Pos} {ix : Expr} {k : Unit → M (Fl L T)} (he : FE C e ρ me) (hi : FE C ix ρ mi) (hr : FS C rm K rest ρ emb embL (k ())) (hρ : ρ[i0]? = some (some (.c j)) := by rfl) (hN : C.X.N[i0]? = some x := by rfl) (hv : Vis C.X.env.scope x := by first | exact Or.inl rfl | exact Or.inr (Or.inl rfl) | exact Or.inr (Or.inr rfl)) (hd : (x == ("__debug__" : Str)) = false := by decide)
    (hcd : (x == ("__classdict__" : Str)) = false := by decide) (hs : swapsWithSole [.Subscript (.Name x px) ix pt'] e pos.line C.X.env = pure false := by rfl) (hw : swappedStores [.Subscript (.Name x px) ix pt'] e C.X.env = pure none := by rfl)
    (h1 : (assignEach [.Subscript (.Name x px) ix pt'] C.X.env).map (·.2) = [assign (.Subscript (.Name x px) ix pt') C.X.env] := by rfl)
    (has : ∀ v, assign (.Subscript (.Name x px) ix pt') C.X.env v = (do
      let ov ← holding [v] (eval (.Name x px) C.X.env)
      let iv ← holding [v, ov] (eval ix C.X.env)
      standAt pt'
      holding [v, ov, iv] (setItem ov iv v)
      release [v, ov, iv] []) := by intro _; rfl) :
    FS C rm K (.Assign [.Subscript (.Name x px) ix pt'] e pos :: rest) ρ emb embL (me >>= fun v => mi >>= fun i => putC j i v >>= k) := by
  intro ps s S D r w
  refine wsk_cons (zs_asg we_ze (zg_sub (zv i0 hN hv hd hcd) we_ze has) hs hw h1) ?_
  refine he ps s S _ r ((sat_bind w).mono (fun v s' w' S' r' => ?_) fun _ _ h => h)
  show zgSub _ _ _ _ _ _
  unfold zgSub
  show zVar i0 _ _ _
  unfold zVar
  rw [den_get ps ρ i0 hρ]
  refine hi ps s' S' _ r' ((sat_bind w').mono (fun i s2 w2 S2 r2 => ?_) fun _ _ h => h)
  obtain ⟨xs, kk, n, ex, rfl, en, w3⟩ := sat_putC (sat_bind w2)
  have o := (r2.at ex).2
  show (match S2 (ps.getD j 0) with
    | some (.lst xs) => match ixN xs.length kk with
      | some n => WSK C.X C.B K rest D (VEnv.den ps ρ) (S2.put (ps.getD j 0) (.lst (xs.set n v)))
      | none => False
    | _ => False)
  rw [o]
  show (match ixN xs.length kk with
      | some n => WSK C.X C.B K rest D (VEnv.den ps ρ) (S2.put (ps.getD j 0) (.lst (xs.set n v)))
      | none => False)
  rw [en]
  exact hr ps _ _ D (r2.upd ex) w3
theorem f_app (i0 j : Nat) {x : Str} {px apos : Pos} (he : FE C e ρ me) (hρ : ρ[i0]? = some (some (.c j)) := by rfl) (hN : C.X.N[i0]? = some x := by rfl) (hv : Vis C.X.env.scope x := by first | exact Or.inl rfl | exact Or.inr (Or.inl rfl) | exact Or.inr (Or.inr rfl)) (hd : (x == ("__debug__" : Str)) = false := by decide)
    (hcd : (x == ("__classdict__" : Str)) = false := by decide)
    (pe : ∀ {ta : TE} {tb : TE}, PE C.X (.Name x px) ta → PE C.X e tb → PE C.X (.Call (.Attribute (.Name x px) "append" apos) [e] [] pos) (tBM C.X.K "list" rAppend ta (tCons tb tNil)) := by intro ta tb h1 h2; exact pe_bm PySem.F.plainAttrs_list PySem.F.slot_list_append PySem.F.type_list_append mt_append h1 (pa_cons h2 pa_nil)) :
    FE C (.Call (.Attribute (.Name x px) "append" apos) [e] [] pos) ρ (getC j >>= fun _ => me >>= fun d => appC j d) := by
  intro ps s S Q r w
  refine (ze_app (zv i0 hN hv hd hcd) we_ze pe).we ?_
  show zVar i0 _ _ _
  unfold zVar
  rw [den_get ps ρ i0 hρ]
  obtain ⟨xs, ex, w⟩ := sat_getC (sat_bind w)
  refine ⟨⟨xs, (r.at ex).2⟩, he ps s S _ r ((sat_bind w).mono (fun d s' w' S' r' => ?_) fun _ _ h => h)⟩
  unfold appC at w'
  cases e2 : s'[j]? with
  | none => simp only [e2] at w'; exact w'.elim
  | some o =>
    cases o with
    | none => simp only [e2] at w'; exact w'.elim
    | some cl =>
      cases cl with
      | tab _ => simp only [e2] at w'; exact w'.elim
      | own _ _ => simp only [e2] at w'; exact w'.elim
      | tbl _ => simp only [e2] at w'; exact w'.elim
      | lst ys =>
        simp only [e2] at w'
        split at w'
        · rename_i hz
          rw [line_eq] at hz
          show (match S' (ps.getD j 0) with
            | some (.lst xs) => xs.length < sizeLine ∧ Q (.d .none) (S'.put (ps.getD j 0) (.lst (xs ++ [d])))
            | _ => False)
          rw [(r'.at e2).2]
          exact ⟨hz, w' _ (r'.upd e2)⟩
        · exact w'.elim
end
end ZL
namespace V
def fuel : Nat := 1000000000
end V
namespace ZL
open PySem PySem.Spec PyProof.Rows L2 V
section
variable {C : Ct} {rm : Bool} {e a b c tg iter : Expr} {es : List Expr} {ρ : VEnv} {pos p : Pos} {K : List (List Stmt)} {rest body orelse : List Stmt} {L T T1 α : Type} {emb : T → VEnv} {embL : L → VEnv} {emb1 : T1 → VEnv} {m : M (Fl L T)} {me : M PyData} {mi mN : M (List PyData)} {mt : M Bool}
  {pt : PyData → Option α} {g : ZG} {asg : α → List (Nat × PyData)} {own : List Nat}
theorem s_for {bodyM : α → T1 → M (Fl T1 T1)} {t0 : T1} {k : T1 → M (Fl L T)} (hp : PassesOwn (model C.X.prog C.X.w) C.X.A C.X.env C.X.xe) (hi : FI C tg iter ρ mi) (zg : ZGt C.X C.B tg own g) (hg : GOk g pt asg) (hb : ∀ u t, FS C rm [] body (setl (emb1 t) (asg u)) emb1 emb1 (bodyM u t)) (h0 : Fg (emb1 t0) ρ) (hr : ∀ t, FS C rm K rest (emb1 t) emb embL (k t)) (hc : C.X.calm = true := by rfl)
    (hs : ∀ x, foldedSetIterable iter C.X.env x = pure x := by intro _; rfl) : FS C rm K (.For tg iter body [] pos :: rest) ρ emb embL (mi >>= fun xs => V.forM pt bodyM xs t0 >>= flk k) := by
  intro ps s S D r w
  refine wsk_cons (zs_for hp wi_zi zg wss_zss hc hs) ?_
  refine hi ps s S _ r ((sat_bind w).mono (fun xs s' w' S' r' => ?_) fun _ _ h => h)
  have W : ∃ W : Fl L T1 → Cells → Prop, W = FlOk C rm { D with nx := fun ρ S => WSK C.X C.B K rest D ρ S } emb1 embL := ⟨_, rfl⟩
  obtain ⟨W, eW⟩ := W
  have run : sat (V.forM (L := L) pt bodyM xs t0 s') W (XOk C.X.mg C.G C.EZ) := (sat_bind w').mono (fun fl s2 w2 => by
    subst eW
    cases fl with
    | nx t => exact fun ps2 S2 ρ2 r2 f2 => WSK.forget (Fg.den ps2 f2) (hr t ps2 s2 S2 D r2 w2)
    | bk l => exact w2
    | ct l => exact w2
    | rt v => exact w2) fun _ _ h => h
  refine ⟨⟨fun i ρz S' => ∃ t ps' s', Fgz (VEnv.den ps' (emb1 t)) ρz ∧ Rel C.G ps' s' S' ∧ sat (V.forM (L := L) pt bodyM (xs.drop i) t s') W (XOk C.X.mg C.G C.EZ), ⟨t0, ps, s', Fg.den ps h0, r', by rw [List.drop_zero]; exact run⟩, fun _ _ _ _ _ => need_nil, ?_, ?_⟩⟩
  · rintro i x ρz S' ex ⟨t, ps', s', fz, r', run⟩
    have hi : i < xs.length := (List.getElem?_eq_some_iff.mp ex).1
    have ed : xs.drop i = x :: xs.drop (i + 1) := by rw [← (List.getElem?_eq_some_iff.mp ex).2]; exact List.drop_eq_getElem_cons hi
    rw [ed] at run
    unfold V.forM at run
    obtain ⟨u, eu, run1⟩ := sat_ofO (sat_bind run)
    refine hg x u ρz S' _ eu ?_
    have go := hb u t ps' s' S' { D with nx := fun ρz S' => ∃ t ps' s', Fgz (VEnv.den ps' (emb1 t)) ρz ∧ Rel C.G ps' s' S' ∧ sat (V.forM (L := L) pt bodyM (xs.drop (i + 1)) t s') W (XOk C.X.mg C.G C.EZ), ct := fun ρz S' => ∃ t ps' s', Fgz (VEnv.den ps' (emb1 t)) ρz ∧ Rel C.G ps' s' S' ∧ sat (V.forM (L := L) pt bodyM (xs.drop (i + 1)) t s') W (XOk C.X.mg C.G C.EZ), bk := fun ρ S => WSK C.X C.B K rest D ρ S } r' ((sat_bind run1).mono (fun fl s2 w2 => by
      cases fl with
      | nx t' => exact fun ps2 S2 ρ2 r2 f2 => ⟨t', ps2, s2, Fg.den ps2 f2, r2, w2⟩
      | ct t' => exact fun ps2 S2 ρ2 r2 f2 => ⟨t', ps2, s2, Fg.den ps2 f2, r2, w2⟩
      | bk t' => subst eW; exact w2
      | rt v => subst eW; exact w2) fun _ _ h => h)
    rw [den_setl] at go
    exact WSs.forget (fg_setz _ fz) go
  · rintro ρz S' ⟨t, ps', s', fz, r', run⟩
    rw [List.drop_length] at run
    subst eW
    exact WSK.forget fz (run ps' S' _ r' (Fg.refl _))
theorem s_while {cM : T1 → M Bool} {bodyM : T1 → M (Fl T1 T1)} {t0 : T1} {n : Nat} {k : T1 → M (Fl L T)} (hp : PassesOwn (model C.X.prog C.X.w) C.X.A C.X.env C.X.xe) (hc : ∀ t, FT C c (emb1 t) (cM t)) (hb : ∀ t, FS C rm [] body (emb1 t) emb1 emb1 (bodyM t)) (h0 : Fg (emb1 t0) ρ) (hr : ∀ t, FS C rm K rest (emb1 t) emb embL (k t)) : FS C rm K (.While c body [] pos :: rest) ρ emb embL (V.whileM cM bodyM n t0 >>= flk k) := by
  intro ps s S D r w
  refine wsk_cons (zs_while hp wt_zt wss_zss) ?_
  have W : ∃ W : Fl L T1 → Cells → Prop, W = FlOk C rm { D with nx := fun ρ S => WSK C.X C.B K rest D ρ S } emb1 embL := ⟨_, rfl⟩
  obtain ⟨W, eW⟩ := W
  have run : sat (V.whileM (L := L) cM bodyM n t0 s) W (XOk C.X.mg C.G C.EZ) := (sat_bind w).mono (fun fl s2 w2 => by
    subst eW
    cases fl with
    | nx t => exact fun ps2 S2 ρ2 r2 f2 => WSK.forget (Fg.den ps2 f2) (hr t ps2 s2 S2 D r2 w2)
    | bk l => exact w2
    | ct l => exact w2
    | rt v => exact w2) fun _ _ h => h
  refine ⟨⟨fun m ρz S' => ∃ t ps' s', Fgz (VEnv.den ps' (emb1 t)) ρz ∧ Rel C.G ps' s' S' ∧ sat (V.whileM (L := L) cM bodyM m t s') W (XOk C.X.mg C.G C.EZ), ⟨n, t0, ps, s, Fg.den ps h0, r, run⟩, ?_⟩⟩
  rintro m ρz S' ⟨t, ps', s', fz, r', run⟩
  cases m with
  | zero => exact run.elim
  | succ m =>
    rw [V.whileM_succ] at run
    refine WT.forget fz (hc t ps' s' S' _ r' ((sat_bind run).mono (fun b s2 w2 S2 r2 => ?_) fun _ _ h => h))
    cases b with
    | true =>
      have go := hb t ps' s2 S2 { D with nx := fun ρz S' => ∃ m', m' < m + 1 ∧ ∃ t ps' s', Fgz (VEnv.den ps' (emb1 t)) ρz ∧ Rel C.G ps' s' S' ∧ sat (V.whileM (L := L) cM bodyM m' t s') W (XOk C.X.mg C.G C.EZ), ct := fun ρz S' => ∃ m', m' < m + 1 ∧ ∃ t ps' s', Fgz (VEnv.den ps' (emb1 t)) ρz ∧ Rel C.G ps' s' S' ∧ sat (V.whileM (L := L) cM bodyM m' t s') W (XOk C.X.mg C.G C.EZ), bk := fun ρ S => WSK C.X C.B K rest D ρ S } r2 ((sat_bind w2).mono (fun fl s3 w3 => by
        cases fl with
        | nx t' => exact fun ps3 S3 ρ3 r3 f3 => ⟨m, Nat.lt_succ_self _, t', ps3, s3, Fg.den ps3 f3, r3, w3⟩
        | ct t' => exact fun ps3 S3 ρ3 r3 f3 => ⟨m, Nat.lt_succ_self _, t', ps3, s3, Fg.den ps3 f3, r3, w3⟩
        | bk t' => subst eW; exact w3
        | rt v => subst eW; exact w3) fun _ _ h => h)
      exact WSs.forget fz go
    | false =>
      subst eW
      exact WSK.forget fz (w2 ps' S2 _ r2 (Fg.refl _))
variable {iter2 elt : Expr} {ifs : List Expr} {scope : Scope} {own2 : List (Str × Nat)} {o : List Nat} {cnd : α → M Bool} {f : α → M PyData}
theorem s_raise {x : Str} {Ca : Addr} {bmB : List Value} {Bn newId initId : String} {msg : Str} {j : Nat} {p2 pos' : Pos} (hx : Tk C.X C.B (fun _ zx S => C.EZ zx S)) (Fx : ExcBaseFacts Bn newId initId bmB) (q : PySem.W.excIn C.X.K Ca bmB newId = true) (gC : C.X.mg x = some (.ref Ca)) (kC : PySem.W.keepIn C.X.K (.ref Ca) = true) (rr : Raises C.X (.ref Ca)) (hc : C.X.calm = true := by rfl) (hg : Gl C.X x := by rfl)
    (hdb : (x == ("__debug__" : Str)) = false := by decide) : FS C rm K (.Raise (some (.Call (.Name x p) [.Constant (.str msg) j p2] [] pos)) none pos' :: rest) ρ emb embL (V.raise x) := by
  intro ps s S D r w
  exact wsk_cons (zs_raise hx Fx q gC kC rr hc hg hdb) (w ⟨Ca, []⟩ ps S r ⟨gC, rfl⟩)
variable {maN mbN : M (List PyData)} {ma mb : M PyData}
theorem s_parCC {i j ci cj : Nat} {x y : Str} {px py pt' : Pos} {kt k2 pt2} {k : Unit → M (Fl L T)} (hl : C.G.p.length ≤ ci) (hl2 : C.G.p.length ≤ cj) (hN : C.X.N.Nodup) (ha : FN C a ρ maN) (hb : FN C b ρ mbN) (hr : FS C rm K rest ((ρ.set i (some (.c ci))).set j (some (.c cj))) emb embL (k ())) (hno : noC ci ρ = true := by rfl) (hno2 : noC cj ((ρ.set i (some (.c ci))).set j none) = true := by rfl) (hc : C.X.calm = true := by rfl) (hi : C.X.N[i]? = some x := by rfl) (hj : C.X.N[j]? = some y := by rfl) (hij : i ≠ j := by decide)
    (hx : C.X.env.scope.names.lookup x = some .local := by rfl) (hy : C.X.env.scope.names.lookup y = some .local := by rfl)
    (hw : swappedStores [.Tuple [.Name x px, .Name y py] kt pt'] (.Tuple [a, b] k2 pt2) C.X.env = pure (some [x, y]) := by rfl)
    (hs : swapsWithSole [.Tuple [.Name x px, .Name y py] kt pt'] (.Tuple [a, b] k2 pt2) pos.line C.X.env = pure false := by rfl)
    (hs1 : starEach (a :: [b]) C.X.env = (false, eval a C.X.env) :: starEach [b] C.X.env := by rfl) (hs2 : starEach (b :: []) C.X.env = (false, eval b C.X.env) :: starEach [] C.X.env := by rfl) (hnn : noC ci (ρ.set i none) = true := by rfl) :
    FS C rm K (.Assign [.Tuple [.Name x px, .Name y py] kt pt'] (.Tuple [a, b] k2 pt2) pos :: rest) ρ emb embL (maN >>= fun xs => setC ci xs >>= fun _ => mbN >>= fun ys => setC cj ys >>= k) := by
  intro ps s S D r w
  refine wsk_cons (zs_par hN (za_cons we_ze (za_cons we_ze za_nil hs2) hs1) hc hi hj hij hx hy hw hs) ?_
  refine ha ps s S _ r ((sat_bind w).mono (fun xs s1 w1 S1 p1 r1 f1 => ?_) fun _ _ h => h)
  obtain ⟨hj1, w2⟩ := sat_setC (sat_bind w1)
  have r1' := r1.lay f1 ci hj1 hl
  have hb' := hb (ps.set ci p1) _ S1 (fun z S2 => WSK C.X C.B K rest D (((VEnv.den ps ρ).set i (some (.r p1))).set j (some z)) S2) r1' ((sat_bind w2).mono (fun ys s2 w3 S2 p2 r2 f2 => by
    obtain ⟨hj2, w4⟩ := sat_setC (sat_bind w3)
    have go := hr _ _ S2 D (r2.lay f2 cj hj2 hl2) w4
    rw [den_lay (by rw [r2.len]; exact hj2) hno2, den_lay (by rw [r1.len]; exact hj1) hnn] at go
    exact go) fun _ _ h => h)
  rw [fgz_lay hno] at hb'
  exact hb'
end
def startE (N : List Str) (vs : List Vl) : VEnv := vs.map some ++ List.replicate (N.length - vs.length) none
theorem den_start (ps : List Addr) (N : List Str) (vs : List Vl) : VEnv.den ps (startE N vs) = zstart N (vs.map (Vl.den ps)) := by
  unfold startE zstart VEnv.den
  rw [List.map_append, List.map_map, List.map_replicate, List.map_map, List.length_map]
  rfl
theorem enc_den (ps q : List Addr) : ∀ (ms : List Md) (i : Nat) (ds : List PyData), i + nC ms ≤ ps.length → (encode ms i ds).map (Vl.den (ps ++ q)) = (encode ms i ds).map (Vl.den ps)
  | [], _, _, _ => rfl
  | .d :: ms, i, [], h => rfl
  | .d :: ms, i, x :: ds, h => by simp only [encode, List.map_cons]; rw [enc_den ps q ms i ds h]; rfl
  | .k :: ms, i, [], h => rfl
  | .k :: ms, i, x :: ds, h => by simp only [encode, List.map_cons]; rw [enc_den ps q ms i ds h]; rfl
  | .c :: ms, i, ds, h => by
    simp only [nC] at h
    simp only [encode, List.map_cons]
    rw [enc_den ps q ms (i + 1) ds (by omega)]
    congr 1
    show Z.r _ = Z.r _
    congr 1
    rw [List.getD_eq_getElem?_getD, List.getD_eq_getElem?_getD, List.getElem?_append_left (by omega)]
theorem Rel.more {ps0 : List Addr} {s0 : Cells} {S : Sto} (r : Rel ⟨ps0, S⟩ ps0 s0 S) (nl : Nat) : Rel ⟨ps0, S⟩ (ps0 ++ List.replicate nl 0) (s0 ++ List.replicate nl none) S := by
  have get : ∀ {i : Nat} {c : Cell}, (s0 ++ List.replicate nl none)[i]? = some (some c) → s0[i]? = some (some c) ∧ i < s0.length := by
    intro i c e
    by_cases h : i < s0.length
    · rw [List.getElem?_append_left h] at e; exact ⟨e, h⟩
    · rw [List.getElem?_append_right (by omega), List.getElem?_replicate] at e
      split at e <;> cases e
  have gp : ∀ {i : Nat} {a : Addr}, i < s0.length → (ps0 ++ List.replicate nl 0)[i]? = some a → ps0[i]? = some a := fun h e => by
    rw [List.getElem?_append_left (by rw [r.len]; exact h)] at e; exact e
  refine ⟨by simp [r.len], fun i c a e1 e2 => ?_, fun i k ci ck a e1 e2 e3 e4 => ?_, r.fr, fun i c a e1 e2 => ?_, r.gp, by simp, r.owS, r.owG, r.gq, fun i q m e => r.cn i q m (get e).1⟩
  · obtain ⟨h1, h2⟩ := get e1; exact r.own i c a h1 (gp h2 e2)
  · obtain ⟨h1, h2⟩ := get e1; obtain ⟨h3, h4⟩ := get e2; exact r.inj i k ci ck a h1 h3 (gp h2 e3) (gp h4 e4)
  · obtain ⟨h1, h2⟩ := get e1; exact r.loc i c a h1 (gp h2 e2)
theorem Rel.less {G : Gd} {ps : List Addr} {s : Cells} {S : Sto} (r : Rel G ps s S) {n : Nat} (hn : G.p.length = n) : Rel G G.p (s.take n) S := by
  subst hn
  have hl : G.p.length ≤ ps.length := by rw [← r.par, List.length_take]; omega
  have get : ∀ {i : Nat} {c : Cell}, (s.take G.p.length)[i]? = some (some c) → s[i]? = some (some c) := by
    intro i c e
    rw [List.getElem?_take] at e
    split at e
    · exact e
    · cases e
  have gp : ∀ {i : Nat} {a : Addr}, G.p[i]? = some a → ps[i]? = some a := by
    intro i a e
    rw [← r.par, List.getElem?_take] at e
    split at e
    · exact e
    · cases e
  refine ⟨?_, fun i c a e1 e2 => r.own i c a (get e1) (gp e2), fun i k ci ck a e1 e2 e3 e4 => r.inj i k ci ck a (get e1) (get e2) (gp e3) (gp e4), r.fr, fun i c a e1 e2 => r.loc i c a (get e1) (gp e2), r.gp, List.take_length, r.owS, r.owG, r.gq, fun i q m e => r.cn i q m (get e)⟩
  rw [List.length_take, ← r.len]
  omega
section
variable {Ts : Tbs} {P : Program} {w : World} {K : PySem.W.Frag} {mg : Str → Option Value} {base : Heap} {k : Nat} {f : Addr} {fd : FuncData} {x qual : Str} {st : Stmt} {N ps : List Str} {ms : List Md} {rm : Bool} {Fm : List PyData → M PyData}
abbrev EzOf (Ez : ZX → Sto → Prop) : XW := fun zx S' => ∃ S2, Sub S2 S' ∧ Ez zx S2
theorem sat_frame {nl : Nat} {m : M PyData} {s : Cells} {Q : PyData → Cells → Prop} {E : Exn → Cells → Prop} (h : sat (V.frame nl m s) Q E) : sat (m (s ++ List.replicate nl none)) (fun a s' => Q a (s'.take s.length)) fun x s' => E x (s'.take s.length) := by
  unfold V.frame at h
  unfold sat at *
  cases e : m (s ++ List.replicate nl none) with
  | ok a s' => rw [e] at h; exact h
  | ex x s' => rw [e] at h; exact h
  | bad => rw [e] at h; exact h
theorem vbody {X : Cx} {zs : List Z} {S : Sto} {H : Hp} {Qz : ZQ} {Ez : ZX → Sto → Prop} {body : List Stmt} (hmg : X.mg = mg) (hN : X.N = N) (h : VSp Ts mg ms rm Fm zs S Qz Ez)
    (hb : ∀ ps0 : List Addr, Gt Ts ⟨ps0, S⟩ → ps0.length = nC ms → ∀ ds : List PyData, ds.length = nD ms → ∃ nl bodyM, Fm ds = V.frame nl (fin bodyM) ∧ FS ⟨X, ⟨S, H⟩, ⟨ps0, S⟩, EzOf Ez⟩ rm [] body (startE N (encode ms 0 ds)) (fun _ : Unit => List.replicate N.length none) (fun _ : Unit => []) bodyM) :
    ∃ t, ZSs X ⟨S, H⟩ body t ∧ t { nx := fun _ S' => ∃ S2, Sub S2 S' ∧ Qz (.d .none) S2, rt := fun z S' => ∃ S2, Sub S2 S' ∧ Qz z S2 } (zstart N zs) S := by
  subst hmg
  obtain ⟨ht, ds, ps0, s0, hn, e1, e0, e2, e3, r, w⟩ := h
  obtain ⟨nl, bodyM, eF, fs⟩ := hb ps0 ⟨ht, fun x hx z => hn x.1 z x.2 (ht x hx)⟩ e3 ds e2
  refine ⟨_, wss_zss, ?_⟩
  rw [eF] at w
  have w1 := sat_frame w
  have ls : s0.length = ps0.length := r.len.symm
  have go := fs (ps0 ++ List.replicate nl 0) (s0 ++ List.replicate nl none) S { nx := fun _ S' => ∃ S2, Sub S2 S' ∧ Qz (.d .none) S2, rt := fun z S' => ∃ S2, Sub S2 S' ∧ Qz z S2 } (r.more nl) ((sat_bind w1).mono (fun fl s' w2 => ?_) fun x s' w2 zx ps S' r' xr => ⟨S', .refl _, w2 zx S' (r'.less (by exact ls.symm)) xr⟩)
  · rw [den_start, enc_den ps0 _ ms 0 ds (by omega), ← e1] at go
    exact go
  · cases fl with
    | nx t =>
      intro ps S' ρ r' _
      rcases w2 with ⟨_, w2⟩ | ⟨_, xs, e, _⟩
      · exact ⟨S', .refl _, w2 S' (r'.less (by exact ls.symm))⟩
      · cases e
    | bk l => exact w2.elim
    | ct l => exact w2.elim
    | rt v =>
      rcases w2 with ⟨hrm, w2⟩ | ⟨hrm, xs, e, w2⟩
      · exact .inl ⟨hrm, fun ps S' r' => ⟨S', .refl _, w2 S' (r'.less (by exact ls.symm))⟩⟩
      · refine .inr ⟨hrm, xs, e, fun ps S' p r' fr => ⟨S', .refl _, w2 S' p (r'.less (by exact ls.symm)) ⟨fr.1, fun j c ea eb => ?_, fr.2.2⟩⟩⟩
        rw [List.getElem?_take] at ea
        split at ea
        · refine fr.2.1 j c ea ?_
          have := r'.par
          have h2 : (ps.take ps0.length)[j]? = some p := by rw [show ps.take ps0.length = ps0 from this]; exact eb
          rw [List.getElem?_take] at h2
          split at h2
          · exact h2
          · cases h2
        · cases ea
theorem vfnD {params : Arguments} {body : List Stmt} {scope : Scope} {dvs : List V} {kws : List (Str × V)} (F : FunD K x qual params body scope dvs kws f fd) (Sc : FnScope N ps scope) (hn : ms.length = ps.length)
    (hb : ∀ (cdv : Value), fd.code = cdv → ∀ (A : Around) (outer : List PySem.Env) (s : Shared) (H : Hp) (E : XK) (S : Sto) (Ez : ZX → Sto → Prop) (ps0 : List Addr), (A.deeper (envOfC qual scope s.heap.objs.size f cdv)).guards = some [] ∧ Gt Ts ⟨ps0, S⟩ → Room k (A.deeper (envOfC qual scope s.heap.objs.size f cdv)) →
      Tk (cxOf (L2N.CX P w) P w K mg base N qual scope f cdv A outer s H E) ⟨S, H⟩ (fun _ x S' => EzOf Ez x S') → ps0.length = nC ms → ∀ ds : List PyData, ds.length = nD ms →
      ∃ nl bodyM, Fm ds = V.frame nl (fin bodyM) ∧ FS ⟨cxOf (L2N.CX P w) P w K mg base N qual scope f cdv A outer s H E, ⟨S, H⟩, ⟨ps0, S⟩, EzOf Ez⟩ rm [] body (startE N (encode ms 0 ds)) (fun _ : Unit => List.replicate N.length none) (fun _ : Unit => []) bodyM) :
    ZFn P w K mg base (k + 1) f fd ps (VSp Ts mg ms rm Fm) :=
  zfnD F Sc (fun zs S Q E h => vsp_len hn zs S Q E h) vsp_mono fun cdv hcd A outer s H E zs S Qz Ez hG hr tk h =>
    vbody (X := cxOf (L2N.CX P w) P w K mg base N qual scope f cdv A outer s H E) rfl rfl h fun ps0 gt h0 ds hd => hb cdv hcd A outer s H E S Ez ps0 ⟨hG, gt⟩ hr tk h0 ds hd
end
end ZL
namespace V
def selL {α : Type} (sel : List Nat) (l : List α) : List α := sel.filterMap fun i => l[i]?
end V
namespace ZL
open PySem PySem.Spec PyProof.Rows L2 V
theorem vals_get : ∀ {vs : List L2.V} {us : List Value} (i : Nat), Vals vs us → (vs[i]? = none ∧ us[i]? = none) ∨ ∃ v u, vs[i]? = some v ∧ us[i]? = some u ∧ RelV v u
  | _, _, i, .nil => .inl ⟨by simp, by simp⟩
  | _, _, 0, .cons h t => .inr ⟨_, _, rfl, rfl, h⟩
  | _, _, i + 1, .cons h t => by simpa using vals_get i t
theorem vals_sel {vs : List L2.V} {us : List Value} (h : Vals vs us) : ∀ sel : List Nat, Vals (selL sel vs) (selL sel us)
  | [] => .nil
  | i :: r => by
    unfold selL
    rw [List.filterMap_cons, List.filterMap_cons]
    rcases vals_get i h with ⟨e1, e2⟩ | ⟨v, u, e1, e2, q⟩
    · rw [e1, e2]; exact vals_sel h r
    · rw [e1, e2]; exact .cons q (vals_sel h r)
theorem rzs_get {K : PySem.W.Frag} {H : Hp} : ∀ {vs : List L2.V} {zs : List Z} (i : Nat), RZs K H vs zs → (vs[i]? = none ∧ zs[i]? = none) ∨ ∃ v u, vs[i]? = some v ∧ zs[i]? = some u ∧ RZ K H v u
  | _, _, i, .nil => .inl ⟨by simp, by simp⟩
  | _, _, 0, .cons h t => .inr ⟨_, _, rfl, rfl, h⟩
  | _, _, i + 1, .cons h t => by simpa using rzs_get i t
theorem rzs_sel {K : PySem.W.Frag} {H : Hp} {vs : List L2.V} {zs : List Z} (h : RZs K H vs zs) : ∀ sel : List Nat, RZs K H (selL sel vs) (selL sel zs)
  | [] => .nil
  | i :: r => by
    unfold selL
    rw [List.filterMap_cons, List.filterMap_cons]
    rcases rzs_get i h with ⟨e1, e2⟩ | ⟨v, u, e1, e2, q⟩
    · rw [e1, e2]; exact rzs_sel h r
    · rw [e1, e2]; exact .cons q (rzs_sel h r)
theorem rzs_app {K : PySem.W.Frag} {H : Hp} : ∀ {vs ws : List L2.V} {zs ys : List Z}, RZs K H vs zs → RZs K H ws ys → RZs K H (vs ++ ws) (zs ++ ys)
  | _, _, _, _, .nil, h => h
  | _, _, _, _, .cons q t, h => .cons q (rzs_app t h)
theorem vals_app : ∀ {vs ws : List L2.V} {zs ys : List Value}, Vals vs zs → Vals ws ys → Vals (vs ++ ws) (zs ++ ys)
  | _, _, _, _, .nil, h => h
  | _, _, _, _, .cons q t, h => .cons q (vals_app t h)
abbrev gSel (sel : List Nat) {α : Type} (ds : List α) : List α → List α → List α := fun xs ys => selL sel (xs ++ (ds ++ ys))
section
variable {K : PySem.W.Frag} {x qual : Str} {params : Arguments} {body : List Stmt} {scope : Scope} {dvs : List L2.V} {kws : List (Str × L2.V)} {f : Addr} {fd : FuncData} {ps : List Str}
theorem FunD.zbn0 (F : FunD K x qual params body scope [] [] f fd) (n : Nat) (ks : List Str) (sel : List Nat)
    (h : ∀ (kV doc pm : Value) (an : Option Addr) (cdv ct : Value) (us ws : List Value), us.length = n → ws.length = ks.length → bindArgs (PySem.W.fnOf x qual params body scope .none kV doc pm an cdv ct) ⟨us, ks.zip ws⟩ = pure (ps.zip (selL sel (us ++ ws)))) : ZBn K fd ps n ks (gSel sel []) := by
  obtain ⟨oc, od, dV, kV, doc, pm, an, cdv, ct, osl, rfl, lk, hcd, hD, hK⟩ := F.ex
  rcases hD with ⟨_, rfl⟩ | ⟨e, _⟩
  · exact ⟨⟨gSel sel [], gSel sel [], ⟨fun s us ws X l1 l2 => .of_eq (h kV doc pm an cdv ct us ws l1 l2), fun r1 r2 => vals_sel (vals_app r1 r2) sel⟩, fun r1 r2 => rzs_sel (rzs_app r1 r2) sel⟩⟩
  · exact absurd rfl e
end
def FKw (C : Ct) (kws : List Keyword) (ρ : VEnv) (acc : List Vl) {β : Type} (m : M β) (k : List Vl → M β) : Prop :=
  ∀ ps s S (Q : List Z → Sto → Prop) (R : β → Cells → Prop), Rel C.G ps s S → sat (m s) R (XOk C.X.mg C.G C.EZ) → (∀ ds s' S', Rel C.G ps s' S' → sat (k (acc ++ ds) s') R (XOk C.X.mg C.G C.EZ) → Q (ds.map (Vl.den ps)) S') → WKw C.X C.B kws (VEnv.den ps ρ) S Q
section
variable {C : Ct} {e a b c : Expr} {es : List Expr} {kws : List Keyword} {ρ : VEnv} {pos p kpos : Pos} {m : M PyData} {nm : Option Str}
theorem kw_nil {β : Type} {acc : List Vl} {m : M β} {k : List Vl → M β} (h : m = k acc := by rfl) : FKw C [] ρ acc m k := by
  subst h
  exact fun ps s S Q R r w q => zk_nil.we (q [] s S r (by rw [List.append_nil]; exact w))
theorem selL_map {α β : Type} (g : α → β) (sel : List Nat) (l : List α) : selL sel (l.map g) = (selL sel l).map g := by
  unfold selL
  induction sel with
  | nil => rfl
  | cons i r ih =>
    rw [List.filterMap_cons, List.filterMap_cons, List.getElem?_map]
    cases l[i]? with
    | none => exact ih
    | some a =>
      show g a :: _ = g a :: _
      rw [ih]
def callKw (ms : List Md) (F : List PyData → M PyData) (sel : List Nat) (dv : List PyData) (n mm : Nat) (vs ys : List Vl) : M PyData := bif (vs.length == n) && (ys.length == mm) then callK ms F (selL sel (vs ++ (dv.map Vl.d ++ ys))) else bad
variable {Ts : Tbs} {k : Nat} {f : Addr} {fd : FuncData} {ps' ks : List Str} {ms : List Md} {F : List PyData → M PyData} {x : Str} {n : Nat} {sel : List Nat} {dv : List PyData}
theorem callKw_low (g : Gt Ts C.G) {ps : List Addr} {s : Cells} {S : Sto} {vs ys : List Vl} {Q : ZQ} (r : Rel C.G ps s S) (w : sat (callKw ms F sel dv n ks.length vs ys s) (fun d s' => ∀ S', Rel C.G ps s' S' → Q (.d d) S') (XOk C.X.mg C.G C.EZ)) :
    (vs.map (Vl.den ps)).length = n ∧ (ys.map (Vl.den ps)).length = ks.length ∧ VSp Ts C.X.mg ms false F (gSel sel (dv.map Z.d) (vs.map (Vl.den ps)) (ys.map (Vl.den ps))) S Q (fun zx S' => C.EZ zx S') := by
  unfold callKw at w
  cases e : (vs.length == n) && (ys.length == ks.length) with
  | false => simp only [e, cond_false] at w; exact w.elim
  | true =>
    simp only [e, cond_true] at w
    simp only [Bool.and_eq_true, beq_iff_eq] at e
    obtain ⟨js, ds, e1, nd, w2⟩ := sat_callK w
    refine ⟨by rw [List.length_map]; exact e.1, by rw [List.length_map]; exact e.2, ?_⟩
    have := call_low (rm := false) g r e1 nd (w2.mono (fun d s2 h => .inl ⟨rfl, h⟩) fun _ _ h => h)
    rw [← selL_map, List.map_append, List.map_append, List.map_map] at this
    exact this
theorem f_callK0 (Fn : ZFn C.X.prog C.X.w C.X.K C.X.mg C.X.base k f fd ps' (VSp Ts C.X.mg ms false F)) (hG : C.X.A.guards = some [] ∧ Gt Ts C.G) (hr : Room k C.X.A) (hm : C.X.mg x = some (.ref f)) (hk : PySem.W.keepIn C.X.K (.ref f) = true) (hb : ZBn C.X.K fd ps' 0 ks (gSel sel (dv.map Z.d))) (hx : Tk C.X C.B (fun _ zx S => C.EZ zx S))
    (ha : FKw C kws ρ [] m (callKw ms F sel dv 0 ks.length [])) (hg : Gl C.X x := by rfl) (hall : (backToKw pos (keywordEach kws C.X.env)).all (·.1.isSome) = true := by rfl) (hks : (backToKw pos (keywordEach kws C.X.env)).filterMap (·.1) = ks := by rfl)
    (hdb : (x == ("__debug__" : Str)) = false := by decide)
    (hpl : ((backTo pos (starEach [] C.X.env)).any (·.1) || (backToKw pos (keywordEach kws C.X.env)).any (·.1.isNone)) = false := by rfl) : FE C (.Call (.Name x p) [] kws pos) ρ m := by
  intro ps s S Q r w
  refine (ze_callK0 Fn hG.1 hr hm hk hb hx wk_zk hg hall hks hdb hpl).we ?_
  exact ha ps s S (fun ys S' => (0 : Nat) = 0 ∧ ys.length = ks.length ∧ VSp Ts C.X.mg ms false F (gSel sel (dv.map Z.d) [] ys) S' Q (fun zx S' => C.EZ zx S')) _ r w fun ys s' S' r' w' => callKw_low (vs := []) hG.2 r' (by rw [List.nil_append] at w'; exact w')
theorem f_dict0 {pos : Pos} : FE C (.Dict [] [] pos) ρ (pure (.dict [])) := fun ps s S Q r w => (ze_dict0 pe_dnewK).we (w S r)
end
end ZL
namespace V
open PySem PySem.Spec ZL L2
def catO : PyData → PyData → Option (List PyData)
  | .list i, .list j => if i.length + j.length ≤ line then some (i ++ j) else none
  | _, _ => none
abbrev catN (x y : PyData) : M (List PyData) := ofO (catO x y)
def catK {β : Type} (g : PyData → PyData → M β) : List Vl → M β
  | [.d x, .d y] => g x y
  | [.c j, .d y] => getC j >>= fun xs => g (.list xs) y
  | [.d x, .c j] => getC j >>= fun ys => g x (.list ys)
  | _ => bad
abbrev catL (x y : PyData) : M PyData := ofO ((catO x y).map .list)
end V
namespace ZL
open PySem PySem.Spec PyProof.Rows L2 V
section
variable {C : Ct} {e a b c : Expr} {es : List Expr} {ρ : VEnv} {pos p : Pos} {m : M PyData} {mN : M (List PyData)}
theorem catO_inv {x y : PyData} {zs : List PyData} (h : catO x y = some zs) : ∃ i j, x = .list i ∧ y = .list j ∧ i.length + j.length ≤ sizeLine ∧ zs = i ++ j := by
  unfold catO at h
  split at h
  · split at h
    · rename_i h1; cases h; rw [line_eq] at h1; exact ⟨_, _, rfl, rfl, h1, rfl⟩
    · cases h
  · cases h
theorem n_cat (h : FL C [a, b] ρ [] mN (catK catN)) : FN C (.BinOp a .Add b pos) ρ mN := by
  intro ps s S Q r w
  refine (ze_op zcatM we_ze we_ze).we ?_
  have := h ps s S (fun zs S' => match zs with | [x, y] => rZCatM x y S' Q | _ => True) _ r w fun ds s' S' r' w' => by
    rw [List.nil_append] at w'
    unfold catK at w'
    split at w'
    · obtain ⟨zs, e, q⟩ := sat_ofO w'
      obtain ⟨i, j, rfl, rfl, hz, rfl⟩ := catO_inv e
      exact ⟨hz, fun p hp => q _ p (r'.new hp) (r'.fresh hp)⟩
    · obtain ⟨xs, ex, w'⟩ := sat_getC (sat_bind w')
      obtain ⟨zs, e, q⟩ := sat_ofO w'
      obtain ⟨i, j, e1, rfl, hz, rfl⟩ := catO_inv e
      cases e1
      have o := (r'.at ex).2
      show rZCatM (.r _) _ _ _
      unfold rZCatM
      simp only [listZ, Vl.den]
      rw [o]
      exact ⟨hz, fun p hp => q _ p (r'.new hp) (r'.fresh hp)⟩
    · obtain ⟨xs, ex, w'⟩ := sat_getC (sat_bind w')
      obtain ⟨zs, e, q⟩ := sat_ofO w'
      obtain ⟨i, j, rfl, e1, hz, rfl⟩ := catO_inv e
      cases e1
      have o := (r'.at ex).2
      show rZCatM _ (.r _) _ _
      unfold rZCatM
      simp only [listZ, Vl.den]
      rw [o]
      exact ⟨hz, fun p hp => q _ p (r'.new hp) (r'.fresh hp)⟩
    · exact w'.elim
  exact this
theorem f_cat (h : FL C [a, b] ρ [] m (catK catL)) : FE C (.BinOp a .Add b pos) ρ m := by
  intro ps s S Q r w
  refine (ze_op zcat we_ze we_ze).we ?_
  have := h ps s S (fun zs S' => match zs with | [x, y] => rZCat x y S' Q | _ => True) _ r w fun ds s' S' r' w' => by
    rw [List.nil_append] at w'
    unfold catK at w'
    split at w'
    · obtain ⟨zs, e, q⟩ := sat_ofO w'
      obtain ⟨ws, e1, rfl⟩ := Option.map_eq_some_iff.mp e
      obtain ⟨i, j, rfl, rfl, hz, rfl⟩ := catO_inv e1
      exact ⟨hz, q S' r'⟩
    · obtain ⟨xs, ex, w'⟩ := sat_getC (sat_bind w')
      obtain ⟨zs, e, q⟩ := sat_ofO w'
      obtain ⟨ws, e1, rfl⟩ := Option.map_eq_some_iff.mp e
      obtain ⟨i, j, e2, rfl, hz, rfl⟩ := catO_inv e1
      cases e2
      have o := (r'.at ex).2
      show rZCat (.r _) _ _ _
      unfold rZCat
      simp only [listZ, Vl.den]
      rw [o]
      exact ⟨hz, q S' r'⟩
    · obtain ⟨xs, ex, w'⟩ := sat_getC (sat_bind w')
      obtain ⟨zs, e, q⟩ := sat_ofO w'
      obtain ⟨ws, e1, rfl⟩ := Option.map_eq_some_iff.mp e
      obtain ⟨i, j, rfl, e2, hz, rfl⟩ := catO_inv e1
      cases e2
      have o := (r'.at ex).2
      show rZCat _ (.r _) _ _
      unfold rZCat
      simp only [listZ, Vl.den]
      rw [o]
      exact ⟨hz, q S' r'⟩
    · exact w'.elim
  exact this
end
end ZL
namespace ZL
open PySem PySem.Spec PyProof.Rows L2 V
mutual
def dataB (K : PySem.W.Frag) : Nat → Value → PyData → Bool
  | _, .none, .none => true
  | _, .bool b, .bool c => b == c
  | _, .int i _, .int j => decide (i = j)
  | _, .str x _, .str y => decide (x = y)
  | n + 1, .ref a, .tuple ds => match K.lookup a with
    | some ⟨.type c, _, .seq its _, _⟩ => decide (c = "tuple") && (decide (its.size ≤ sizeLine) && dataAll K n its.toList ds)
    | _ => false
  | _, _, _ => false
def dataAll (K : PySem.W.Frag) : Nat → List Value → List PyData → Bool
  | _, [], [] => true
  | n + 1, u :: us, d :: ds => dataB K n u d && dataAll K n us ds
  | _, _, _ => false
end
theorem data_ok {K : PySem.W.Frag} : ∀ n : Nat, (∀ (u : Value) (d : PyData), dataB K n u d = true → ∃ v, RelV v u ∧ ∀ H, Fz K H v d) ∧ ∀ (us : List Value) (ds : List PyData), dataAll K n us ds = true → ∃ vs, Vals vs us ∧ ∀ H, FzAll K H vs ds := by
  intro n
  induction n with
  | zero =>
    constructor
    · intro u d h
      unfold dataB at h
      split at h
      · exact ⟨.non, rfl, fun _ => .non⟩
      · obtain rfl := beq_iff_eq.mp h; exact ⟨.bl _, rfl, fun _ => .bl _⟩
      · obtain rfl := of_decide_eq_true h; exact ⟨.int _, ⟨_, rfl⟩, fun _ => .int _⟩
      · obtain rfl := of_decide_eq_true h; exact ⟨.str _, ⟨_, rfl⟩, fun _ => .str _⟩
      · rename_i e; cases e
      · cases h
    · intro us ds h
      unfold dataAll at h
      split at h
      · exact ⟨[], .nil, fun _ => .nil⟩
      · rename_i e; cases e
      · cases h
  | succ n ih =>
    constructor
    · intro u d h
      unfold dataB at h
      split at h
      · exact ⟨.non, rfl, fun _ => .non⟩
      · obtain rfl := beq_iff_eq.mp h; exact ⟨.bl _, rfl, fun _ => .bl _⟩
      · obtain rfl := of_decide_eq_true h; exact ⟨.int _, ⟨_, rfl⟩, fun _ => .int _⟩
      · obtain rfl := of_decide_eq_true h; exact ⟨.str _, ⟨_, rfl⟩, fun _ => .str _⟩
      · rename_i m a ds e
        cases e
        split at h
        · rename_i c od its k osl el
          simp only [Bool.and_eq_true, decide_eq_true_eq] at h
          obtain ⟨vs, rv, f⟩ := ih.2 _ _ h.2.2
          exact ⟨.ref a, rfl, fun H => .tup (.inr ⟨_, its, k, el, congrArg Value.type h.1, rfl, h.2.1, rv⟩) (f H)⟩
        · cases h
      · cases h
    · intro us ds h
      unfold dataAll at h
      split at h
      · exact ⟨[], .nil, fun _ => .nil⟩
      · rename_i m u us d ds e
        cases e
        simp only [Bool.and_eq_true] at h
        obtain ⟨v, r, f⟩ := ih.1 _ _ h.1
        obtain ⟨vs, rv, fs⟩ := ih.2 _ _ h.2
        exact ⟨v :: vs, .cons r rv, fun H => .cons (f H) (fs H)⟩
      · cases h
def constB (x : Str) (d : PyData) (K : PySem.W.Frag) : Bool := match PySem.W.nsIn K mainGlobals x with
  | some (some u) => dataB K 40 u d
  | _ => false
theorem const_ok {K : PySem.W.Frag} {h : Heap} {mg : Str → Option Value} {x : Str} {d : PyData} (X : K.In h) (G : h.Ns mainGlobals mg) (c : constB x d K = true) {X' : Cx} {B : Bs} {p : Pos} (hK : X'.K = K) (hM : X'.mg = mg) (hg : Gl X' x) (hd : (x == ("__debug__" : Str)) = false) : ZE X' B (.Name x p) (zC (.d d)) := by
  unfold constB at c
  split at c
  · rename_i u e
    obtain ⟨v, r, f⟩ := (data_ok 40).1 u d c
    refine ze_glob hg (by rw [hM]; exact PySem.W.mg_of X G e) r (fun H => .d (by rw [hK]; exact f H)) hd
  · cases c
abbrev AlV : Type := He.AlD × Bool
def obsV (fa : List He.Fa) (fn : List He.DefD) (ex : List (PySem.W.Frag → Bool)) (K : PySem.W.Frag) : AlV := (He.obsD fa fn K, ex.all fun b => b K)
def SaysV (fa : List He.Fa) (fn : List He.DefD) (ex : List (PySem.W.Frag → Bool)) (K : PySem.W.Frag) : Prop := obsV fa fn ex K = (He.valD fn, true)
theorem SaysV.d {fa : List He.Fa} {fn : List He.DefD} {ex : List (PySem.W.Frag → Bool)} {K : PySem.W.Frag} (c : SaysV fa fn ex K) : He.SaysD fa fn K := congrArg (fun z : AlV => z.1) c
theorem SaysV.x {fa : List He.Fa} {fn : List He.DefD} {ex : List (PySem.W.Frag → Bool)} {K : PySem.W.Frag} (c : SaysV fa fn ex K) (i : Nat) {f : PySem.W.Frag → Bool} (h : ex[i]? = some f := by rfl) : f K = true := by
  have c1 : (ex.all fun b => b K) = true := congrArg (fun z : AlV => z.2) c
  exact List.all_eq_true.mp c1 f (List.mem_of_getElem? h)
end ZL
namespace V
open PySem PySem.Spec ZL L2
def inO (neg : Bool) : PyData → PyData → Option Bool
  | a, .list ds => if SeqAt.shaped a && SeqAt.shaped (.list ds) then some (inB neg ds a) else none
  | a, .tuple ds => if SeqAt.shaped a && SeqAt.shaped (.tuple ds) then some (inB neg ds a) else none
  | _, _ => none
abbrev inM (neg : Bool) (x y : PyData) : M Bool := ofO (inO neg x y)
def inK (neg : Bool) : List Vl → M Bool
  | [.d x, .d y] => inM neg x y
  | [.d x, .c j] => getC j >>= fun xs => inM neg x (.list xs)
  | _ => bad
def chK (g : PyData → PyData → M Bool) (mc : PyData → M Bool) : List Vl → M Bool := bi2 fun x y => g x y >>= fun k => bif k then mc y else pure false
def dats {β : Type} (k : List PyData → M β) (l : List Vl) : M β := match datV l with
  | some ds => k ds
  | none => bad
def tyM (T : String) (d : PyData) : M Unit := if tyD T d then pure () else bad
end V
namespace ZL
open PySem PySem.Spec PyProof.Rows L2 V
section
variable {C : Ct} {e a b c o : Expr} {es : List Expr} {ρ : VEnv} {pos : Pos}
theorem fl_twoV {β : Type} {m : M β} {k : List Vl → M β} (h : FL C [a, b] ρ [] m k) {ps : List Addr} {s : Cells} {S : Sto} {Q : Z → Z → Sto → Prop} {R : β → Cells → Prop} (r : Rel C.G ps s S) (w : sat (m s) R (XOk C.X.mg C.G C.EZ))
    (q : ∀ u v s' S', Rel C.G ps s' S' → sat (k [u, v] s') R (XOk C.X.mg C.G C.EZ) → Q (u.den ps) (v.den ps) S') : WE C.X C.B a (VEnv.den ps ρ) S fun x S1 => WE C.X C.B b (VEnv.den ps ρ) S1 fun y S2 => Q x y S2 := by
  have := h ps s S (fun zs S' => match zs with | [x, y] => Q x y S' | _ => True) R r w fun ds s' S' r' w' => by
    rw [List.nil_append] at w'
    match ds, w' with
    | [u, v], w' => exact q u v s' S' r' w'
    | [], _ => trivial
    | [_], _ => trivial
    | _ :: _ :: _ :: _, _ => trivial
  exact this
theorem fl_one {β : Type} {m : M β} {g : PyData → M β} (h : FL C [a] ρ [] m (un g)) {ps : List Addr} {s : Cells} {S : Sto} {Q : Z → Sto → Prop} {R : β → Cells → Prop} (r : Rel C.G ps s S) (w : sat (m s) R (XOk C.X.mg C.G C.EZ))
    (q : ∀ x s' S', Rel C.G ps s' S' → sat (g x s') R (XOk C.X.mg C.G C.EZ) → Q (.d x) S') : WE C.X C.B a (VEnv.den ps ρ) S fun x S1 => Q x S1 := by
  have := h ps s S (fun zs S' => match zs with | [x] => Q x S' | _ => True) R r w fun ds s' S' r' w' => by
    rw [List.nil_append] at w'
    unfold un at w'
    split at w'
    · exact q _ s' S' r' w'
    · exact w'.elim
  exact this
def Op2k (r : ZR2) (k : List Vl → M Bool) : Prop := ∀ (C : Ct) ps s S u v (Q : ZQ), Rel C.G ps s S → sat (k [u, v] s) (fun b s' => ∀ S', Rel C.G ps s' S' → Q (zb b) S') (XOk C.X.mg C.G C.EZ) → r (u.den ps) (v.den ps) S Q
theorem t_cmpK {op : CmpOp} {rr : ZR2} {k : List Vl → M Bool} {m : M Bool} (ho : ZOp C.X (compareOp op) rr) (hg : Op2k rr k) (h : FL C [a, b] ρ [] m k) (hm : behindInMarks op b = false := by first | rfl | exact nomark _) : FT C (.Compare a [op] [b] pos) ρ m := by
  intro ps s S Q r w
  refine (zt_cmp ho we_ze we_ze hm).we ?_
  refine fl_twoV h r w fun x y s' S' r' w' => ?_
  exact hg C ps s' S' x y _ r' w'
theorem f_cmpK {op : CmpOp} {rr : ZR2} {k : List Vl → M Bool} {m : M Bool} (ho : ZOp C.X (compareOp op) rr) (hg : Op2k rr k) (h : FL C [a, b] ρ [] m k) (hm : behindInMarks op b = false := by first | rfl | exact nomark _) : FE C (.Compare a [op] [b] pos) ρ (ofB m) := by
  intro ps s S Q r w
  refine (ze_cmp ho we_ze we_ze hm).we ?_
  refine fl_twoV h r (sat_bind w) fun x y s' S' r' w' => ?_
  exact hg C ps s' S' x y _ r' w'
theorem o_in (neg : Bool) : Op2k (rZIn neg) (inK neg) := by
  intro C ps s S u v Q r w
  cases u with
  | c j => exact w.elim
  | k j => exact w.elim
  | ob j => exact w.elim
  | d x =>
    cases v with
    | k j => exact w.elim
    | ob j => exact w.elim
    | d y =>
      obtain ⟨bb, e, q⟩ := sat_ofO (show sat (ofO (inO neg x y) s) _ _ from w)
      cases y with
      | list ds =>
        simp only [inO] at e
        split at e
        · rename_i hc
          cases e
          rw [Bool.and_eq_true] at hc
          exact ⟨hc, q S r⟩
        · cases e
      | tuple ds =>
        simp only [inO] at e
        split at e
        · rename_i hc
          cases e
          rw [Bool.and_eq_true] at hc
          exact ⟨hc, q S r⟩
        · cases e
      | _ => simp [inO] at e
    | c j =>
      obtain ⟨xs, ex, w⟩ := sat_getC (sat_bind (show sat ((getC j >>= fun xs => inM neg x (.list xs)) s) _ _ from w))
      obtain ⟨bb, e, q⟩ := sat_ofO w
      simp only [inO] at e
      split at e
      · rename_i hc
        cases e
        rw [Bool.and_eq_true] at hc
        show rZIn neg (.d x) (.r (ps.getD j 0)) S Q
        unfold rZIn
        simp only
        rw [(r.at ex).2]
        exact ⟨hc, q S r⟩
      · cases e
theorem low_chk {rr rr' : ZR2} {g g' : PyData → PyData → Option Bool} {m : M Bool} {mc : PyData → M Bool} (hg : Op2b rr g) (hg' : Op2b rr' g') (h : FL C [a, b] ρ [] m (chK (fun x y => ofO (g x y)) mc)) (hc : ∀ y, FL C [c] ρ [] (mc y) (un fun w => ofO (g' y w)))
    {ps : List Addr} {s : Cells} {S : Sto} {Q : ZQ} (r : Rel C.G ps s S) (w : sat (m s) (fun b s' => ∀ S', Rel C.G ps s' S' → Q (zb b) S') (XOk C.X.mg C.G C.EZ)) : zChain rr rr' (WE C.X C.B a) (WE C.X C.B b) (WE C.X C.B c) (VEnv.den ps ρ) S Q := by
  refine fl_two h r w fun x y s' S' r' w' => ?_
  obtain ⟨k, e, w2⟩ := sat_ofO (sat_bind w')
  refine hg x y k S' _ e ?_
  cases k with
  | false => exact w2 S' r'
  | true =>
    refine fl_one (hc y) r' w2 fun z s2 S2 r2 w3 => ?_
    obtain ⟨k2, e2, q⟩ := sat_ofO w3
    exact hg' y z k2 S2 Q e2 (q S2 r2)
theorem t_chain {op op' : CmpOp} {rr rr' : ZR2} {g g' : PyData → PyData → Option Bool} {m : M Bool} (mc : PyData → M Bool) (ho : ZOp C.X (compareOp op) rr) (hg : Op2b rr g) (ho' : ZOp C.X (compareOp op') rr') (hg' : Op2b rr' g') (h : FL C [a, b] ρ [] m (chK (fun x y => ofO (g x y)) mc)) (hc : ∀ y, FL C [c] ρ [] (mc y) (un fun w => ofO (g' y w)))
    (hm : lastMarks [op, op'] [b, c] = false := by with_unfolding_all rfl) : FT C (.Compare a [op, op'] [b, c] pos) ρ m := by
  intro ps s S Q r w
  refine (zt_chain ho ho' we_ze we_ze we_ze hm).we ?_
  exact low_chk hg hg' h hc r w
theorem f_chain {op op' : CmpOp} {rr rr' : ZR2} {g g' : PyData → PyData → Option Bool} {m : M Bool} (mc : PyData → M Bool) (ho : ZOp C.X (compareOp op) rr) (hg : Op2b rr g) (ho' : ZOp C.X (compareOp op') rr') (hg' : Op2b rr' g') (h : FL C [a, b] ρ [] m (chK (fun x y => ofO (g x y)) mc)) (hc : ∀ y, FL C [c] ρ [] (mc y) (un fun w => ofO (g' y w)))
    (hm : lastMarks [op, op'] [b, c] = false := by with_unfolding_all rfl) : FE C (.Compare a [op, op'] [b, c] pos) ρ (ofB m) := by
  intro ps s S Q r w
  refine (ze_chain ho ho' we_ze we_ze we_ze hm).we ?_
  exact low_chk hg hg' h hc r (sat_bind w)
variable {name : Str} {apos cpos : Pos} {T id : String} {g : PyData → List PyData → Option PyData} {mo : M PyData} {ma : PyData → M PyData}
theorem f_meth (pa : PlainAttrs T) (slot : Slot T name id) (hty : typeOf (.builtin id) = pure (.type "method_descriptor")) (hm : MtD C.X id g) (ho : FE C o ρ mo) (ha : ∀ d, FA C (e :: es) ρ [] (ma d) (dats fun ds => ofO (g d ds)))
    (hbase : attributeBase o name C.X.env (eval o C.X.env) = eval o C.X.env := by rfl)
    (hfew : ((backTo cpos (starEach (e :: es) C.X.env)).all (fun x => !x.1) && (backToKw cpos (keywordEach [] C.X.env)).all (fun x => x.1.isSome)
      && decide ((e :: es).length + ([] : List Keyword).length + (if ([] : List Keyword).isEmpty then 0 else 1) < 30)) = true := by rfl)
    (hline : (apos.endLine == cpos.line) = true := by rfl) (hs : starEach (e :: es) C.X.env = (false, eval e C.X.env) :: starEach es C.X.env := by rfl) (hplain : (backTo cpos (starEach es C.X.env)).any (·.1) = false := by rfl) :
    FE C (.Call (.Attribute o name apos) (e :: es) [] cpos) ρ (mo >>= fun d => tyM T d >>= fun _ => ma d) := by
  intro ps s S Q r w
  refine (ze_meth pa slot hty hm we_ze wa_za hbase hfew hline hs hplain).we ?_
  refine ho ps s S _ r ((sat_bind w).mono (fun d s' w' S' r' => ?_) fun _ _ h => h)
  unfold tyM at w'
  have w' := sat_bind w'
  split at w'
  · rename_i ht
    refine ⟨ht, ha d ps s' S' _ _ r' w' fun vs s2 S2 r2 w2 => ?_⟩
    rw [List.nil_append] at w2
    unfold dats at w2
    cases ev : datV vs with
    | none => rw [ev] at w2; exact w2.elim
    | some ds =>
      rw [ev] at w2
      obtain ⟨y, ey, q⟩ := sat_ofO w2
      rw [datas_map ev]
      simp only
      rw [ey]
      exact q S2 r2
  · exact w'.elim
variable {L T2 : Type} {rm : Bool} {K : List (List Stmt)} {rest : List Stmt} {emb : T2 → VEnv} {embL : L → VEnv}
def tri {β : Type} (g : PyData → PyData → PyData → M β) : List Vl → M β
  | [.d x, .d y, .d z] => g x y z
  | _ => bad
theorem s_par3 {i j l : Nat} {x y z : Str} {px py pz pt' : Pos} {kt k2 pt2} {mp : M (PyData × PyData × PyData)} {k : PyData × PyData × PyData → M (Fl L T2)} (hN : C.X.N.Nodup) (ha : FA C [a, b, c] ρ [] mp (tri fun u v w => pure (u, v, w))) (hr : ∀ u, FS C rm K rest (((ρ.set i (some (.d u.1))).set j (some (.d u.2.1))).set l (some (.d u.2.2))) emb embL (k u)) (hc : C.X.calm = true := by rfl) (hi : C.X.N[i]? = some x := by rfl) (hj : C.X.N[j]? = some y := by rfl) (hl : C.X.N[l]? = some z := by rfl) (hij : i ≠ j := by decide) (hil : i ≠ l := by decide) (hjl : j ≠ l := by decide)
    (hx : C.X.env.scope.names.lookup x = some .local := by rfl) (hy : C.X.env.scope.names.lookup y = some .local := by rfl) (hz : C.X.env.scope.names.lookup z = some .local := by rfl)
    (hw : swappedStores [.Tuple [.Name x px, .Name y py, .Name z pz] kt pt'] (.Tuple [a, b, c] k2 pt2) C.X.env = pure (some [x, y, z]) := by rfl)
    (hs : swapsWithSole [.Tuple [.Name x px, .Name y py, .Name z pz] kt pt'] (.Tuple [a, b, c] k2 pt2) pos.line C.X.env = pure false := by rfl) :
    FS C rm K (.Assign [.Tuple [.Name x px, .Name y py, .Name z pz] kt pt'] (.Tuple [a, b, c] k2 pt2) pos :: rest) ρ emb embL (mp >>= k) := by
  intro ps s S D r w
  refine wsk_cons (zs_par3 hN wa_za hc hi hj hl hij hil hjl hx hy hz hw hs) ?_
  refine ha ps s S _ _ r (sat_bind w) fun vs s' S' r' w' => ?_
  rw [List.nil_append] at w'
  unfold tri at w'
  split at w'
  · rename_i u v t
    have := hr (u, v, t) ps s' S' D r' w'
    rw [den_set, den_set, den_set] at this
    exact this
  · exact w'.elim
end
end ZL
namespace V
open PySem PySem.Spec ZL L2
def zipO (x y : PyData) : Option (List PyData) := (rowD x).bind fun xs => (rowD y).bind fun ys => some (zipD xs ys)
def enumO (x : PyData) : Option (List PyData) := (rowD x).bind fun xs => some (enumD xs)
abbrev zipM (x y : PyData) : M (List PyData) := ofO (zipO x y)
abbrev enumM (x : PyData) : M (List PyData) := ofO (enumO x)
theorem zipO_inv {x y : PyData} {zs : List PyData} (h : zipO x y = some zs) : ∃ xs ys, rowD x = some xs ∧ rowD y = some ys ∧ zs = zipD xs ys := by
  unfold zipO at h
  cases ex : rowD x with
  | none => rw [ex] at h; cases h
  | some xs =>
    rw [ex] at h
    cases ey : rowD y with
    | none => rw [ey] at h; cases h
    | some ys => rw [ey] at h; cases h; exact ⟨xs, ys, rfl, rfl, rfl⟩
theorem enumO_inv {x : PyData} {zs : List PyData} (h : enumO x = some zs) : ∃ xs, rowD x = some xs ∧ zs = enumD xs := by
  unfold enumO at h
  cases ex : rowD x with
  | none => rw [ex] at h; cases h
  | some xs => rw [ex] at h; cases h; exact ⟨xs, rfl, rfl⟩
end V
namespace ZL
open PySem PySem.Spec PyProof.Rows L2 V
theorem rowZ_d (S : Sto) (x : PyData) : rowZ S (.d x) = rowD x := by cases x <;> rfl
section
variable {C : Ct} {a b tg : Expr} {ρ : VEnv} {pos p tpos : Pos} {mi : M (List PyData)} {elts : List Expr} {kk : Nat}
theorem i_zip (hm : C.X.mg "zip" = none) (h : FA C [a, b] ρ [] mi (bi2 zipM)) (hg : Gl C.X "zip" := by rfl) (hs : starEach [a, b] C.X.env = (false, eval a C.X.env) :: starEach [b] C.X.env := by rfl) (hpl : (backTo pos (starEach [b] C.X.env)).any (·.1) = false := by rfl) : FI C (.Tuple elts kk tpos) (.Call (.Name "zip" p) [a, b] [] pos) ρ mi := by
  intro ps s S Q r w
  refine (zi_zip hg hm wa_za hs hpl).we ?_
  refine h ps s S _ _ r w fun ds s' S' r' w' => ?_
  rw [List.nil_append] at w'
  unfold bi2 at w'
  split at w'
  · obtain ⟨zs, e, q⟩ := sat_ofO w'
    obtain ⟨xs, ys, e1, e2, rfl⟩ := zipO_inv e
    simp only [List.map_cons, List.map_nil, Vl.den, rowZ_d, e1, e2]
    exact q S' r'
  · exact w'.elim
theorem i_enum (hm : C.X.mg "enumerate" = none) (h : FA C [a] ρ [] mi (un enumM)) (hg : Gl C.X "enumerate" := by rfl) (hs : starEach [a] C.X.env = [(false, eval a C.X.env)] := by rfl) : FI C (.Tuple elts kk tpos) (.Call (.Name "enumerate" p) [a] [] pos) ρ mi := by
  intro ps s S Q r w
  refine (zi_enum hg hm wa_za hs).we ?_
  refine h ps s S _ _ r w fun ds s' S' r' w' => ?_
  rw [List.nil_append] at w'
  unfold un at w'
  split at w'
  · obtain ⟨zs, e, q⟩ := sat_ofO w'
    obtain ⟨xs, e1, rfl⟩ := enumO_inv e
    simp only [List.map_cons, List.map_nil, Vl.den, rowZ_d, e1]
    exact q S' r'
  · exact w'.elim
end
end ZL
namespace V
open PySem PySem.Spec ZL L2
def repOk (k : Int) (n : Nat) : Bool := decide (-(2 ^ 62) ≤ k) && decide (k < 2 ^ 62) && decide (n * k.toNat ≤ line)
def repO : PyData → PyData → Option (List PyData)
  | .list xs, .int k => if repOk k xs.length then some (repD k.toNat xs) else none
  | _, _ => none
abbrev repN (x y : PyData) : M (List PyData) := ofO (repO x y)
def rgOk (i j : Int) : Bool := decide (-(2 ^ 62) ≤ i) && decide (i < 2 ^ 62) && decide (-(2 ^ 62) ≤ j) && decide (j < 2 ^ 62) && decide ((j - i).toNat ≤ 16777216)
def rgO : PyData → PyData → Option (List PyData)
  | .int i, .int j => if rgOk i j then some (rangeD i (j - i).toNat) else none
  | _, _ => none
abbrev rgN (x y : PyData) : M (List PyData) := ofO (rgO x y)
abbrev rgL (x y : PyData) : M PyData := ofO ((rgO x y).map PyData.list)
end V
namespace ZL
open PySem PySem.Spec PyProof.Rows L2 V
theorem repO_inv {x y : PyData} {zs : List PyData} (h : repO x y = some zs) : ∃ xs k, x = .list xs ∧ y = .int k ∧ RepOk k xs.length ∧ zs = repD k.toNat xs := by
  unfold repO at h
  split at h
  · split at h
    · rename_i hc
      cases h
      unfold repOk at hc
      simp only [Bool.and_eq_true, decide_eq_true_eq] at hc
      exact ⟨_, _, rfl, rfl, ⟨⟨hc.1.1, hc.1.2⟩, by rw [← line_eq]; exact hc.2⟩, rfl⟩
    · cases h
  · cases h
theorem rgO_inv {x y : PyData} {zs : List PyData} (h : rgO x y = some zs) : ∃ i j, x = .int i ∧ y = .int j ∧ Rg i j ∧ zs = rangeD i (j - i).toNat := by
  unfold rgO at h
  split at h
  · split at h
    · rename_i hc
      cases h
      unfold rgOk at hc
      simp only [Bool.and_eq_true, decide_eq_true_eq] at hc
      exact ⟨_, _, rfl, rfl, ⟨⟨hc.1.1.1.1, hc.1.1.1.2⟩, ⟨hc.1.1.2, hc.1.2⟩, hc.2⟩, rfl⟩
    · cases h
  · cases h
section
variable {C : Ct} {a b : Expr} {ρ : VEnv} {pos p p2 pos2 : Pos} {m : M PyData} {mN : M (List PyData)}
theorem n_rep (h : FL C [a, b] ρ [] mN (bi2 repN)) : FN C (.BinOp a .Mult b pos) ρ mN := by
  intro ps s S Q r w
  refine (ze_op zrepM we_ze we_ze).we ?_
  refine fl_two h r w fun x y s' S' r' w' => ?_
  obtain ⟨zs, e1, q⟩ := sat_ofO w'
  obtain ⟨xs, k, rfl, rfl, ok, rfl⟩ := repO_inv e1
  exact ⟨ok, fun p hp => q _ p (r'.new hp) (r'.fresh hp)⟩
theorem f_listRg1 (hm : C.X.mg "list" = none) (hm2 : C.X.mg "range" = none) (h : FL C [a] ρ [] m (un fun y => rgL (.int 0) y)) (hg : Gl C.X "list" := by rfl) (hg2 : Gl C.X "range" := by rfl) (hc : C.X.calm = true := by rfl)
    (na : starEach [a] C.X.env = (false, eval a C.X.env) :: starEach [] C.X.env := by rfl) (nb : starEach [.Call (.Name "range" p2) [a] [] pos2] C.X.env = (false, eval (.Call (.Name "range" p2) [a] [] pos2) C.X.env) :: starEach [] C.X.env := by rfl) : FE C (.Call (.Name "list" p) [.Call (.Name "range" p2) [a] [] pos2] [] pos) ρ m := by
  intro ps s S Q r w
  refine (ze_listRg1 hg hm hg2 hm2 we_ze hc na nb).we ?_
  refine fl_one h r w fun x s' S' r' w' => ?_
  obtain ⟨d, e, q⟩ := sat_ofO w'
  obtain ⟨zs, e1, rfl⟩ := Option.map_eq_some_iff.mp e
  obtain ⟨i, j, e2, rfl, ok, rfl⟩ := rgO_inv e1
  cases e2
  exact ⟨ok, q S' r'⟩
theorem n_listRg1 (hm : C.X.mg "list" = none) (hm2 : C.X.mg "range" = none) (h : FL C [a] ρ [] mN (un fun y => rgN (.int 0) y)) (hg : Gl C.X "list" := by rfl) (hg2 : Gl C.X "range" := by rfl) (hc : C.X.calm = true := by rfl)
    (na : starEach [a] C.X.env = (false, eval a C.X.env) :: starEach [] C.X.env := by rfl) (nb : starEach [.Call (.Name "range" p2) [a] [] pos2] C.X.env = (false, eval (.Call (.Name "range" p2) [a] [] pos2) C.X.env) :: starEach [] C.X.env := by rfl) : FN C (.Call (.Name "list" p) [.Call (.Name "range" p2) [a] [] pos2] [] pos) ρ mN := by
  intro ps s S Q r w
  refine (ze_listRg1M hg hm hg2 hm2 we_ze hc na nb).we ?_
  refine fl_one h r w fun x s' S' r' w' => ?_
  obtain ⟨zs, e1, q⟩ := sat_ofO w'
  obtain ⟨i, j, e2, rfl, ok, rfl⟩ := rgO_inv e1
  cases e2
  exact ⟨ok, fun p hp => q _ p (r'.new hp) (r'.fresh hp)⟩
end
end ZL
namespace V
open PySem PySem.Spec ZL L2
def pQ2 {α β : Type} (p : PyData → Option α) (q : PyData → Option β) (d : PyData) : Option (α × β) := match rowD d with
  | some [x, y] => (p x).bind fun a => (q y).bind fun b => some (a, b)
  | _ => none
def pQ3 {α β γ : Type} (p : PyData → Option α) (q : PyData → Option β) (r : PyData → Option γ) (d : PyData) : Option (α × β × γ) := match rowD d with
  | some [x, y, z] => (p x).bind fun a => (q y).bind fun b => (r z).bind fun c => some (a, b, c)
  | _ => none
def pQ4 {α β γ δ : Type} (p : PyData → Option α) (q : PyData → Option β) (r : PyData → Option γ) (u : PyData → Option δ) (d : PyData) : Option (α × β × γ × δ) := match rowD d with
  | some [x, y, z, w] => (p x).bind fun a => (q y).bind fun b => (r z).bind fun c => (u w).bind fun d => some (a, b, c, d)
  | _ => none
def eqK (neg : Bool) : List Vl → M Bool
  | [.c j, .d y] => getC j >>= fun xs => bif neg then neM (.list xs) y else eqM (.list xs) y
  | _ => bad
end V
namespace ZL
open PySem PySem.Spec PyProof.Rows L2 V
section
variable {α β γ δ : Type} {p1 : PyData → Option α} {p2 : PyData → Option β} {p3 : PyData → Option γ} {p4 : PyData → Option δ} {g1 g2 g3 g4 : ZG} {a1 : α → List (Nat × PyData)} {a2 : β → List (Nat × PyData)} {a3 : γ → List (Nat × PyData)} {a4 : δ → List (Nat × PyData)}
theorem seq_row {n : Nat} {t : ZGs} {d : PyData} {xs : List PyData} {ρ : ZEnv} {S : Sto} {Q : ZEnv → Sto → Prop} (e : rowD d = some xs) (h : xs.length = n) (w : t xs ρ S Q) : zgSeq n t (.d d) ρ S Q := by
  unfold rowD at e
  split at e <;> cases e
  · exact ⟨h, w⟩
  · exact ⟨h, w⟩
theorem go_q2 (h1 : GOk g1 p1 a1) (h2 : GOk g2 p2 a2) : GOk (zgSeq 2 (zgCons g1 (zgCons g2 zgNil))) (pQ2 p1 p2) (fun t => a1 t.1 ++ a2 t.2) := by
  intro x t ρ S Q e q
  unfold pQ2 at e
  split at e
  · rename_i x y er
    simp only [Option.bind_eq_some_iff] at e
    obtain ⟨a, e1, b, e2, e3⟩ := e
    cases e3
    refine seq_row er rfl (h1 x a ρ S _ e1 (h2 y b _ S _ e2 ?_))
    rw [← setz_app]
    exact q
  · cases e
theorem go_q3 (h1 : GOk g1 p1 a1) (h2 : GOk g2 p2 a2) (h3 : GOk g3 p3 a3) : GOk (zgSeq 3 (zgCons g1 (zgCons g2 (zgCons g3 zgNil)))) (pQ3 p1 p2 p3) (fun t => a1 t.1 ++ (a2 t.2.1 ++ a3 t.2.2)) := by
  intro x t ρ S Q e q
  unfold pQ3 at e
  split at e
  · rename_i x y z er
    simp only [Option.bind_eq_some_iff] at e
    obtain ⟨a, e1, b, e2, c, e3, e4⟩ := e
    cases e4
    refine seq_row er rfl (h1 x a ρ S _ e1 (h2 y b _ S _ e2 (h3 z c _ S _ e3 ?_)))
    rw [← setz_app, ← setz_app]
    exact q
  · cases e
theorem go_q4 (h1 : GOk g1 p1 a1) (h2 : GOk g2 p2 a2) (h3 : GOk g3 p3 a3) (h4 : GOk g4 p4 a4) : GOk (zgSeq 4 (zgCons g1 (zgCons g2 (zgCons g3 (zgCons g4 zgNil))))) (pQ4 p1 p2 p3 p4) (fun t => a1 t.1 ++ (a2 t.2.1 ++ (a3 t.2.2.1 ++ a4 t.2.2.2))) := by
  intro x t ρ S Q e q
  unfold pQ4 at e
  split at e
  · rename_i x y z u er
    simp only [Option.bind_eq_some_iff] at e
    obtain ⟨a, e1, b, e2, c, e3, d, e4, e5⟩ := e
    cases e5
    refine seq_row er rfl (h1 x a ρ S _ e1 (h2 y b _ S _ e2 (h3 z c _ S _ e3 (h4 u d _ S _ e4 ?_))))
    rw [← setz_app, ← setz_app, ← setz_app]
    exact q
  · cases e
theorem eqO_lst {xs : List PyData} {y : PyData} {b : Bool} (h : eqO (.list xs) y = some b) : Sh (.list xs) y ∧ b = PyData.eqv (.list xs) y := by
  have e : eqO (.list xs) y = if SeqAt.shaped (.list xs) && SeqAt.shaped y then some (PyData.eqv (.list xs) y) else none := by cases y <;> rfl
  rw [e] at h
  split at h
  · rename_i hc
    rw [Bool.and_eq_true] at hc
    cases h; exact ⟨hc, rfl⟩
  · cases h
theorem neO_lst {xs : List PyData} {y : PyData} {b : Bool} (h : neO (.list xs) y = some b) : Sh (.list xs) y ∧ b = !PyData.eqv (.list xs) y := by
  have e : neO (.list xs) y = if SeqAt.shaped (.list xs) && SeqAt.shaped y then some (!PyData.eqv (.list xs) y) else none := by cases y <;> rfl
  rw [e] at h
  split at h
  · rename_i hc
    rw [Bool.and_eq_true] at hc
    cases h; exact ⟨hc, rfl⟩
  · cases h
theorem o_eqK (neg : Bool) : Op2k (rZEqR neg) (eqK neg) := by
  intro C ps s S u v Q r w
  cases u with
  | d x => exact w.elim
  | k j => exact w.elim
  | ob j => exact w.elim
  | c j =>
    cases v with
    | k j => exact w.elim
    | ob j => exact w.elim
    | c j => exact w.elim
    | d y =>
      obtain ⟨xs, ex, w⟩ := sat_getC (sat_bind (show sat ((getC j >>= fun xs => bif neg then neM (.list xs) y else eqM (.list xs) y) s) _ _ from w))
      show rZEqR neg (.r (ps.getD j 0)) (.d y) S Q
      unfold rZEqR
      simp only
      rw [(r.at ex).2]
      cases neg with
      | false =>
        obtain ⟨b, e, q⟩ := sat_ofO w
        obtain ⟨h, rfl⟩ := eqO_lst e
        exact ⟨h, q S r⟩
      | true =>
        obtain ⟨b, e, q⟩ := sat_ofO w
        obtain ⟨h, rfl⟩ := neO_lst e
        exact ⟨h, q S r⟩
end
end ZL
namespace V
open PySem PySem.Spec ZL L2
def popC (j : Nat) (i : PyData) : M PyData := fun s => match s[j]?, i with
  | some (some (.lst xs)), .int k => match popD xs k with
    | some (n, d) => .ok d (s.set j (some (.lst (xs.eraseIdx n))))
    | none => .bad
  | _, _ => .bad
end V
namespace ZL
open PySem PySem.Spec PyProof.Rows L2 V
section
variable {C : Ct} {e : Expr} {ρ : VEnv} {pos : Pos} {me : M PyData}
theorem f_pop (i0 j : Nat) {x : Str} {px apos : Pos} (he : FE C e ρ me) (hρ : ρ[i0]? = some (some (.c j)) := by rfl) (hN : C.X.N[i0]? = some x := by rfl) (hv : Vis C.X.env.scope x := by first | exact Or.inl rfl | exact Or.inr (Or.inl rfl) | exact Or.inr (Or.inr rfl)) (hd : (x == ("__debug__" : Str)) = false := by decide)
    (hcd : (x == ("__classdict__" : Str)) = false := by decide)
    (pe : ∀ {ta : TE} {tb : TE}, PE C.X (.Name x px) ta → PE C.X e tb → PE C.X (.Call (.Attribute (.Name x px) "pop" apos) [e] [] pos) (tBM C.X.K "list" rPopAt ta (tCons tb tNil)) := by intro ta tb h1 h2; exact pe_bm PySem.F.plainAttrs_list PySem.F.slot_list_pop PySem.F.type_list_pop mt_popAt h1 (pa_cons h2 pa_nil)) :
    FE C (.Call (.Attribute (.Name x px) "pop" apos) [e] [] pos) ρ (getC j >>= fun _ => me >>= fun d => popC j d) := by
  intro ps s S Q r w
  refine (ze_pop (zv i0 hN hv hd hcd) we_ze pe).we ?_
  show zVar i0 _ _ _
  unfold zVar
  rw [den_get ps ρ i0 hρ]
  obtain ⟨xs, ex, w⟩ := sat_getC (sat_bind w)
  refine ⟨⟨xs, (r.at ex).2⟩, he ps s S _ r ((sat_bind w).mono (fun d s' w' S' r' => ?_) fun _ _ h => h)⟩
  unfold popC at w'
  cases e2 : s'[j]? with
  | none => simp only [e2] at w'; exact w'.elim
  | some o =>
    cases o with
    | none => simp only [e2] at w'; exact w'.elim
    | some cl =>
      cases cl with
      | tab _ => simp only [e2] at w'; exact w'.elim
      | own _ _ => simp only [e2] at w'; exact w'.elim
      | tbl _ => simp only [e2] at w'; exact w'.elim
      | lst ys =>
        cases d with
        | int k =>
          simp only [e2] at w'
          cases ep : popD ys k with
          | none => rw [ep] at w'; exact w'.elim
          | some p =>
            obtain ⟨n, y⟩ := p
            rw [ep] at w'
            show (match S' (ps.getD j 0) with
              | some (.lst xs) => match popD xs k with
                | some (n, d) => Q (.d d) (S'.put (ps.getD j 0) (.lst (xs.eraseIdx n)))
                | none => False
              | _ => False)
            rw [(r'.at e2).2]
            simp only
            rw [ep]
            exact w' _ (r'.upd e2)
        | _ => simp only [e2] at w'; exact w'.elim
end
end ZL
namespace ZL
open PySem PySem.Spec PyProof.Rows L2 V
def vsets (ρ : VEnv) (l : List (Nat × Vl)) : VEnv := l.foldl (fun ρ p => ρ.set p.1 (some p.2)) ρ
theorem vsets_snoc (ρ : VEnv) (l : List (Nat × Vl)) (p : Nat × Vl) : vsets ρ (l ++ [p]) = (vsets ρ l).set p.1 (some p.2) := by simp [vsets, List.foldl_append]
def FP (C : Ct) (rm : Bool) (K : List (List Stmt)) (rest : List Stmt) (es : List Expr) (is : List Nat) (ρ : VEnv) (acc : List (Nat × Vl)) {L T : Type} (emb : T → VEnv) (embL : L → VEnv) (m : M (Fl L T)) : Prop :=
  ∀ ps s S (D : ZEnds), Rel C.G ps s S → sat (m s) (FlOk C rm D emb embL) (XOk C.X.mg C.G C.EZ) → WAs C.X C.B es (VEnv.den ps ρ) S fun zs S' => zs.length = is.length ∧ WSK C.X C.B K rest D (zsets (VEnv.den ps (vsets ρ acc)) (is.zip zs)) S'
section
variable {C : Ct} {rm : Bool} {e : Expr} {es : List Expr} {is : List Nat} {ρ : VEnv} {acc : List (Nat × Vl)} {K : List (List Stmt)} {rest : List Stmt} {L T : Type} {emb : T → VEnv} {embL : L → VEnv} {m : M (Fl L T)} {me : M PyData} {mN : M (List PyData)} {pos : Pos}
theorem fp_nil (h : FS C rm K rest (vsets ρ acc) emb embL m) : FP C rm K rest [] [] ρ acc emb embL m := fun ps s S D r w => za_nil.we ⟨rfl, h ps s S D r w⟩
theorem fp_d {i : Nat} {k : PyData → M (Fl L T)} (he : FE C e ρ me) (hr : ∀ v, FP C rm K rest es is ρ (acc ++ [(i, .d v)]) emb embL (k v)) (hs : starEach (e :: es) C.X.env = (false, eval e C.X.env) :: starEach es C.X.env := by rfl) : FP C rm K rest (e :: es) (i :: is) ρ acc emb embL (me >>= k) := by
  intro ps s S D r w
  refine (za_cons we_ze wa_za hs).we ?_
  refine he ps s S _ r ((sat_bind w).mono (fun v s1 w1 S1 r1 => ?_) fun _ _ h => h)
  have go := hr v ps s1 S1 D r1 w1
  refine wa_za.mono (fun zs S2 h2 => ?_) go
  refine ⟨congrArg (· + 1) h2.1, ?_⟩
  have h3 := h2.2
  rw [vsets_snoc, den_set] at h3
  exact h3
theorem s_parN {st : Stmt} (hz : ∀ {ta : ZA}, ZAs C.X C.B es ta → ZS C.X C.B st (zParN is ta)) (h : FP C rm K rest es is ρ [] emb embL m) : FS C rm K (st :: rest) ρ emb embL m := by
  intro ps s S D r w
  exact wsk_cons (hz wa_za) (h ps s S D r w)
end
end ZL
namespace ZL
open PySem PySem.Spec PyProof.Rows L2 V
section
variable {C : Ct} {rm : Bool} {e ix ix1 ix2 : Expr} {ρ : VEnv} {K : List (List Stmt)} {rest : List Stmt} {L T : Type} {emb : T → VEnv} {embL : L → VEnv} {me mi m1 m2 : M PyData} {pos : Pos}
end
end ZL
namespace V
open PySem PySem.Spec ZL L2
def sortedO : PyData → Option PyData
  | .list ds => (sortD ds).map PyData.list
  | _ => none
abbrev sortedM (x : PyData) : M PyData := ofO (sortedO x)
end V
namespace ZL
open PySem PySem.Spec PyProof.Rows L2 V
theorem v_sorted : VCl rZSort (un sortedM) := v_un (by
  intro x d S Q e q
  unfold sortedO at e
  split at e
  · obtain ⟨es, e1, rfl⟩ := Option.map_eq_some_iff.mp e
    show rZSort [.d (.list _)] S Q
    unfold rZSort
    simp only
    rw [e1]
    exact q
  · cases e)
end ZL
namespace V
open PySem PySem.Spec ZL L2
end V
namespace ZL
open PySem PySem.Spec PyProof.Rows L2 V
end ZL
namespace V
open PySem PySem.Spec ZL L2
def repT (k : Int) (n : Nat) : Bool := decide (1 ≤ n) && decide (1 ≤ k) && decide (k ≤ 1000) && decide (n ≤ 1000)
def repTO : PyData → PyData → Option PyData
  | .tuple xs, .int k => if repT k xs.length then some (.tuple (repD k.toNat xs)) else none
  | _, _ => none
abbrev repTM (x y : PyData) : M PyData := ofO (repTO x y)
end V
namespace ZL
open PySem PySem.Spec PyProof.Rows L2 V
theorem o_repT : Op2 rZRepT repTO := by
  intro x y d S Q h q
  unfold repTO at h
  split at h
  · split at h
    · rename_i hc
      cases h
      unfold repT at hc
      simp only [Bool.and_eq_true, decide_eq_true_eq] at hc
      exact ⟨⟨hc.1.1.1, hc.1.1.2, hc.1.2, hc.2⟩, q⟩
    · cases h
  · cases h
theorem f_repT {C : Ct} {a b : Expr} {ρ : VEnv} {pos : Pos} {m : M PyData} (h : FL C [a, b] ρ [] m (bi2 repTM)) : FE C (.BinOp a .Mult b pos) ρ m := f_bin zrepT o_repT h
end ZL
namespace V
open PySem PySem.Spec ZL L2
end V
namespace ZL
open PySem PySem.Spec PyProof.Rows L2 V
end ZL
namespace V
open PySem PySem.Spec ZL L2
end V
namespace ZL
open PySem PySem.Spec PyProof.Rows L2 V
end ZL
namespace V
open PySem PySem.Spec ZL L2
def compsP {T : Type} (mt : PyData → Option T) (c : T → M Bool) (f : T → M (List PyData)) : List PyData → M (List PyData)
  | [] => pure []
  | x :: r => ofO (mt x) >>= fun t => c t >>= fun b => bif b then (f t >>= fun y => compsP mt c f r >>= fun ys => pure (y ++ ys)) else compsP mt c f r
def comps {T : Type} (mt : PyData → Option T) (c : T → M Bool) (f : T → M (List PyData)) (xs : List PyData) : M (List PyData) := noex (if xs.length ≤ line then compsP mt c f xs else bad)
abbrev one1 (m : M PyData) : M (List PyData) := m >>= fun y => pure [y]
abbrev setSortM (es : List PyData) : M PyData := ofO ((setSortD es).map PyData.list)
abbrev setLenM (es : List PyData) : M PyData := ofO ((setLenD es).map fun (n : Nat) => PyData.int (n : Int))
abbrev setOfM (es : List PyData) : M (List PyData) := ofO (if es.length < 63 then some es else none)
abbrev shortM (es : List PyData) : M PyData := ofO (if es.length ≤ line then some (PyData.list es) else none)
end V
namespace ZL
open PySem PySem.Spec PyProof.Rows L2 V
section
variable {X : Cx} {B : Bs} {pos p p2 q2 : Pos} {x : Str}
def zSortSC (zv : ZV) : ZT := fun ρ S Q => zv ρ S [] fun acc S' => ∃ es, setSortD acc = some es ∧ Q (zl es) S'
theorem ze_sortSC {e tg iter : Expr} {own : List (Str × Nat)} {o : List Nat} {ti : ZTI} {g : ZG} {tt : ZB} {zv1 : ZV} {k : Nat} (hr : Room k X.A) (hc : X.calm = true) (hg : Gl X "sorted") (hm : X.mg "sorted" = none)
    (pc : PE X e (tCore (lowI X.K B ti) (lowG X.K B o g) (lowB X.K B tt) (fun D => lowV X.K B D (SetA X.K X.prog X.w D) zv1) (own.map (·.2)) (EmpO X.w)))
    (hi : ZI X B tg iter ti) (gm : ∀ {z ρ S} {Q Q' : ZEnv → Sto → Prop}, (∀ ρ' S', Q ρ' S' → Q' ρ' S') → g z ρ S Q → g z ρ S Q') (tm : ∀ {ρ S} {Q Q' : Bool → Sto → Prop}, (∀ z S', Q z S' → Q' z S') → tt ρ S Q → tt ρ S Q')
    (vm : ∀ {ρ S acc} {N N' : List PyData → Sto → Prop}, (∀ a s, N a s → N' a s) → zv1 ρ S acc N → zv1 ρ S acc N') (hv : ∀ i ∈ o, i ∈ own.map (·.2))
    (he : starEach [e] X.env = (false, eval e X.env) :: starEach [] X.env) : ZE X B (.Call (.Name "sorted" p) [e] [] pos) (zSortSC (zvGen ti g tt zv1 (own.map (·.2)))) := by
  refine ⟨fun {ρ S Q Q'} q w => hi.mono (fun xs l S1 ⟨⟨I, a, b, c, d⟩⟩ => ⟨⟨I, a, b, c, fun acc S' h => let ⟨es, e1, e2⟩ := d acc S' h; ⟨es, e1, q _ _ e2⟩⟩⟩) w, ?_⟩
  refine PE.imp (pe_callB (callR_rest' (cr_sortS hr hc)) hg hm (by decide +kernel) (pa_cons pc pa_nil he) (by decide) (by decide) he rfl) ?_
  rintro σ H Q ⟨ρ, S, hE, hS, w⟩
  refine low_core (Q := fun v H1 => rSortS X.K X.prog X.w [v] H1 fun v H' => ∃ a ys, v = V.ref a ∧ H' a = some (.lst ys) ∧ ∀ (ob : Obj), Q v (upd H' a (.frz ob (.lst ys)))) (Ac' := fun D => SetA X.K X.prog X.w D) (o0 := EmpO X.w) (g := g) (tt := tt) (zv1 := zv1) (fun D => setA_ok) setA_0 hi gm tm vm hv ⟨ρ, S, hE, hS, hi.mono (fun xs l S1 ⟨⟨I, a, b, c, d⟩⟩ => ⟨⟨I, a, b, c, fun acc S' h => ?_⟩⟩) w⟩
  obtain ⟨es, e1, w1⟩ := d acc S' h
  intro D H' st R nD out sa _
  refine ⟨D, acc, es, rfl, setF_of sa, e1, fun ws p fz hp => ?_⟩
  exact rest_end R fz (fun v H2 st2 rz R2 => w1 v H2 (st.trans st2) rz R2) p hp
def zLenSet (te : ZT) : ZT := fun ρ S Q => te ρ S fun z S1 => match rowZ S1 z with
  | some xs => xs.length < 63 ∧ ∃ n : Nat, setLenD xs = some n ∧ Q (zi n) S1
  | none => False
theorem ze_lenSet {e : Expr} {te : ZT} {k : Nat} (hr : Room k X.A) (hg : Gl X "len") (hm : X.mg "len" = none) (hg2 : Gl X "set") (hm2 : X.mg "set" = none) (ha : ZE X B e te) (he : starEach [e] X.env = (false, eval e X.env) :: starEach [] X.env := by rfl)
    (he2 : starEach [.Call (.Name "set" p2) [e] [] q2] X.env = (false, eval (.Call (.Name "set" p2) [e] [] q2) X.env) :: starEach [] X.env := by rfl) : ZE X B (.Call (.Name "len" p) [.Call (.Name "set" p2) [e] [] q2] [] pos) (zLenSet te) := by
  refine ⟨fun {ρ S Q Q'} q w => ha.mono (fun z S1 h => ?_) w, ?_⟩
  · split at h
    · obtain ⟨h1, es, h2, h3⟩ := h
      exact ⟨h1, es, h2, q _ _ h3⟩
    · exact h
  · refine PE.imp (pe_callB cr_lenS hg hm (by decide +kernel) (pa_cons (pe_callTy (cr_mkS hr) hg2 hm2 (by decide +kernel) (pa_cons ha.pe pa_nil he) (by decide) (by decide) he rfl) pa_nil he2) (by decide) (by decide) he2 rfl) ?_
    rintro σ H Q ⟨ρ, S, hE, hS, w⟩
    refine ha.go hE hS w fun z S1 v H1 h1 st E1 R1 rz => ?_
    split at h1
    · rename_i xs e1
      obtain ⟨few, n, se, h1⟩ := h1
      obtain ⟨a, rfl, q⟩ := src_of R1.1 rz e1
      have src : ∃ vs, (SqL X.K H1 a vs ∨ SqT X.K H1 a vs) ∧ FzAll X.K H1 vs xs := by
        rcases q with q | q
        · obtain ⟨vs, sq, f⟩ := q H1 S1 (.refl _) R1.1 (need_now e1); exact ⟨vs, .inl sq, f⟩
        · obtain ⟨vs, sq, f⟩ := q H1 S1 (.refl _) R1.1 (need_now e1); exact ⟨vs, .inr sq, f⟩
      obtain ⟨vs, sq, f⟩ := src
      refine ⟨a, vs, xs, rfl, sq, f, setLen_ok se, few, fun D φ hD sf => ⟨D, xs, n, rfl, sf, se, ?_⟩⟩
      have sm : Same H1 (upd H1 D (.ext φ)) := same_fresh hD
      exact h1 _ _ (st.trans (step_same sm)) (.d (.int _)) (R1.step (R1.1.same sm) (step_same sm))
    · exact h1.elim
end
section
variable {X : Cx} {B : Bs} {elt t0 i0 t1 i1 : Expr} {ifs0 ifs1 : List Expr} {scope : Scope} {own : List (Str × Nat)} {o o1 vs1 : List Nat} {ti ti1 : ZTI} {g g1 : ZG} {tt tt1 : ZB} {te : ZT} {pos : Pos}
abbrev okSet (es : List PyData) : Prop := okS es = true
theorem obS (P : Program) (w : World) (H : Hp) (h : Heap) : ObjOk P w (upd H h.objs.size (EmpO w h.objs.size)) (h.push (emptyS w)) h.objs.size (EmpO w h.objs.size) := empO_new (Heap.get?_push_size _ rfl)
theorem pe_sc2 {k : Nat} (hr : Room k X.A) (hc : X.calm = true) (hN : X.N.Nodup) (hi : ZI X B t0 i0 ti) (ok : BlkOk X.N X.env.scope scope own) (hg : Blk X scope fun X => ZGt X B t0 o g) (ht : Blk X scope fun X => ZTs X B ifs0 tt)
    (hi1 : Blk X scope fun X => ZI X B t1 i1 ti1) (hg1 : Blk X scope fun X => ZGt X B t1 o1 g1) (ht1 : Blk X scope fun X => ZTs X B ifs1 tt1) (he : Blk X scope fun X => ZE X B elt te) (hv : ∀ i ∈ vs1, i ∈ own.map (·.2)) (hv1 : ∀ i ∈ o1, i ∈ vs1) (hs : ∀ x, foldedSetIterable i0 X.env x = pure x) (hs1 : ∀ env x, foldedSetIterable i1 env x = pure x) :
    PE X (.SetComp elt [⟨t0, i0, ifs0, 0⟩, ⟨t1, i1, ifs1, 0⟩] scope pos) (tCore (lowI X.K B ti) (lowG X.K B o g) (lowB X.K B tt) (fun D => lowV X.K B D (SetA X.K X.prog X.w D) (zvGen ti1 g1 tt1 (zvElt okSet te) vs1)) (own.map (·.2)) (EmpO X.w)) :=
  pe_core (vs1 := vs1) (ob := emptyS X.w) (body := fun acc env => stepIn (.SetComp elt [⟨t0, i0, ifs0, 0⟩, ⟨t1, i1, ifs1, 0⟩] scope pos) 1 i1 acc env (pure ())) (PpSet.eval_SetComp ..) rfl (fun E s Q h => PpSet.newSet_ok h) (obS _ _) hc hN hi.pi ok hv (fun acc env => startS (g := ⟨t0, i0, ifs0, 0⟩) rfl rfl) (fun s H C cl fp acc => loopS2o (hs1 _))
    (fun s H C cl fp => (hg s H C cl fp).pg) (fun s H C cl fp => (ht s H C cl fp).pts) (fun s H C cl fp D => (zlv_gen (X := X.blk s H scope (compEnvC scope cl C X.env) fp) (vs := vs1) rfl setA_ok (hi1 s H C cl fp) (startS (g := ⟨t1, i1, ifs1, 0⟩) rfl rfl) loopS2 (hg1 s H C cl fp) (ht1 s H C cl fp) (zlv_eltS (X := X.blk s H scope (compEnvC scope cl C X.env) fp) rfl setA_ok (puts_set hr.units) (he s H C cl fp)) hc hv1 (fun i h => by cases h) (hs1 _)).lv) hs
def LstA (K : PySem.W.Frag) (D : Addr) : AcT := fun H acc => ∃ us, H D = some (.lst us) ∧ FzAll K H us acc
abbrev okLst (es : List PyData) : Prop := es.length ≤ sizeLine
theorem lstA_ok {K : PySem.W.Frag} {D : Addr} : AcOk D (LstA K D) := by
  refine ⟨fun {H H' acc} ⟨us, h1, h2⟩ e le => ⟨us, e.trans h1, h2.le le⟩, fun {H acc} ⟨us, h1, h2⟩ => ⟨_, h1, (fun _ z => nomatch z), (fun _ _ z => nomatch z), (fun _ z => nomatch z), fun q z => by unfold LamX.CodeO at z; cases z⟩⟩
theorem lstA_0 {K : PySem.W.Frag} (D : Addr) (H : Hp) : LstA K D (upd H D (.lst [])) [] := ⟨[], upd_same, .nil⟩
theorem puts_lst {D : Addr} : Puts X D (LstA X.K D) okLst "list.append" := by
  intro pins σ H s acc d v u I ⟨us, h1, h2⟩ r fz ok
  have hl : (acc ++ [d]).length ≤ sizeLine := ok
  rw [List.length_append] at hl
  refine app_ok I h1 (by rw [h2.length]; simp only [List.length_cons, List.length_nil] at hl; omega) r fun s' I' => ⟨_, I', us ++ [v], upd_same, ?_⟩
  exact (h2.append (.one fz)).le (le_set h1)
def zLc2 (zv : ZV) : ZT := fun ρ S Q => zv ρ S [] fun acc S' => Q (zl acc) S'
theorem mkL (P : Program) (w : World) (A : Around) (E : Value → Shared → Prop) (s : Shared) (Q : Value → Shared → Prop) (h : Q (.ref s.heap.objs.size) { s with heap := s.heap.push { cls := .type "list", data := .seq ([] : List Value).toArray } }) : wpAny (model P w) A (newList []) Q E s :=
  wpAny_newObj_type h (by show 0 ≤ sizeLine; decide)
theorem obL (P : Program) (w : World) (H : Hp) (h : Heap) : ObjOk P w (upd H h.objs.size (.lst [])) (h.push { cls := .type "list", data := .seq ([] : List Value).toArray }) h.objs.size (.lst []) := ⟨Nat.zero_le _, [], 0, .nil, Heap.get?_push_size _ rfl⟩
theorem ze_lc2 (hN : X.N.Nodup) (hi : ZI X B t0 i0 ti) (ok : BlkOk X.N X.env.scope scope own) (hg : Blk X scope fun X => ZGt X B t0 o g) (ht : Blk X scope fun X => ZTs X B ifs0 tt)
    (hi1 : Blk X scope fun X => ZI X B t1 i1 ti1) (hg1 : Blk X scope fun X => ZGt X B t1 o1 g1) (ht1 : Blk X scope fun X => ZTs X B ifs1 tt1) (he : Blk X scope fun X => ZE X B elt te) (hc : X.calm = true := by rfl) (hv0 : ∀ i ∈ o, i ∈ own.map (·.2) := by decide) (hv : ∀ i ∈ vs1, i ∈ own.map (·.2) := by decide) (hv1 : ∀ i ∈ o1, i ∈ vs1 := by decide)
    (hs : ∀ x, foldedSetIterable i0 X.env x = pure x := by intro _; rfl) (hs1 : ∀ env x, foldedSetIterable i1 env x = pure x := by intro _ _; rfl) :
    ZE X B (.ListComp elt [⟨t0, i0, ifs0, 0⟩, ⟨t1, i1, ifs1, 0⟩] scope pos) (zLc2 (zvGen ti g tt (zvGen ti1 g1 tt1 (zvElt okLst te) vs1) (own.map (·.2)))) := by
  have lv : Blk X scope fun X => ∀ D, ZLv X B (stepIn (.ListComp elt [⟨t0, i0, ifs0, 0⟩, ⟨t1, i1, ifs1, 0⟩] scope pos) 1 i1 (.ref D) X.env (pure ())) D (LstA X.K D) vs1 (zvGen ti1 g1 tt1 (zvElt okLst te) vs1) := fun s H C cl fp D =>
    zlv_gen (X := X.blk s H scope (compEnvC scope cl C X.env) fp) (vs := vs1) rfl lstA_ok (hi1 s H C cl fp) (startL (g := ⟨t1, i1, ifs1, 0⟩) rfl rfl) loopL2 (hg1 s H C cl fp) (ht1 s H C cl fp) (zlv_eltL (X := X.blk s H scope (compEnvC scope cl C X.env) fp) rfl lstA_ok puts_lst (he s H C cl fp)) hc hv1 (fun i h => by cases h) (hs1 _)
  have vm := fun {ρ S acc} {N N' : List PyData → Sto → Prop} => @(lv X.s_0 X.H_0 0 [] [] 0).mono ρ S acc N N'
  refine ⟨fun {ρ S Q Q'} q w => hi.mono (fun xs l S1 ⟨⟨I, a, b, c, d⟩⟩ => ⟨⟨I, a, b, c, fun acc S' h => q _ _ (d acc S' h)⟩⟩) w, ?_⟩
  refine PE.imp (pe_rest (pe_core (wi := lowI X.K B ti) (g := lowG X.K B o g) (tt := lowB X.K B tt) (vs1 := vs1) (t1 := fun D => lowV X.K B D (LstA X.K D) (zvGen ti1 g1 tt1 (zvElt okLst te) vs1)) (o0 := fun _ => .lst []) (body := fun acc env => stepIn (.ListComp elt [⟨t0, i0, ifs0, 0⟩, ⟨t1, i1, ifs1, 0⟩] scope pos) 1 i1 acc env (pure ())) (eval_ListComp ..) rfl (fun E s Q h => mkL _ _ _ E s Q h) (obL _ _) hc hN hi.pi ok hv (fun acc env => startL (g := ⟨t0, i0, ifs0, 0⟩) rfl rfl) (fun s H C cl fp acc => loopL2o (hs1 _))
    (fun s H C cl fp => (hg s H C cl fp).pg) (fun s H C cl fp => (ht s H C cl fp).pts) (fun s H C cl fp D => (lv s H C cl fp D).lv) hs)) ?_
  rintro σ H Q ⟨ρ, S, hE, hS, w⟩
  refine low_core (Ac' := fun D => LstA X.K D) (o0 := fun _ => .lst []) (g := g) (tt := tt) (zv1 := zvGen ti1 g1 tt1 (zvElt okLst te) vs1) (fun D => lstA_ok) lstA_0 hi (hg X.s_0 X.H_0 0 [] []).mono (ht X.s_0 X.H_0 0 [] []).mono vm hv0 ⟨ρ, S, hE, hS, hi.mono (fun xs l S1 ⟨⟨I, a, b, c, d⟩⟩ => ⟨⟨I, a, b, c, fun acc S' h => ?_⟩⟩) w⟩
  have w1 := d acc S' h
  intro D H' st R nD out ⟨us, e1, f⟩ new
  refine ⟨D, us, rfl, e1, fun ob => ?_⟩
  obtain ⟨R2, le⟩ := poke_rs lstA_ok ⟨us, e1, f⟩ R nD out (.frz ob (.lst us))
  refine w1 _ _ (fun b u hb nb => ?_) (.d (.lst ⟨ob, upd_same⟩ (f.le le))) R2
  obtain ⟨h1, h2⟩ := st b u hb nb
  refine ⟨?_, h2⟩
  rw [upd_ne fun z => by subst z; exact new u hb nb]
  exact h1
end
end ZL
namespace ZL
open PySem PySem.Spec PyProof.Rows L2 V
section
variable {C : Ct} {e tg iter elt : Expr} {ifs : List Expr} {ρ : VEnv} {scope : Scope} {pos p p2 q2 : Pos}
def WIb (C : Ct) (scope : Scope) (tg e : Expr) : ZTI := fun ρ S Q => FBlk C scope fun C => WI C.X C.B tg e ρ S Q
theorem wib : Blk C.X scope fun X => ZI X C.B tg e (WIb C scope tg e) := fun s H A cl fp => ⟨fun q w s H A cl fp => wi_zi.mono q (w s H A cl fp), PI.imp wi_zi.pi fun σ H' Q ⟨ρ, S, hE, hS, w⟩ => ⟨ρ, S, hE, hS, w s H A cl fp⟩⟩
def FV (C : Ct) (zv : ZV) (ok : List PyData → Prop) (ρ : VEnv) (m : M (List PyData)) : Prop := ∀ ps s S acc (N : List PyData → Sto → Prop) ys s', Rel C.G ps s S → m s = .ok ys s' → ok (acc ++ ys) → (∀ S', Rel C.G ps s' S' → N (acc ++ ys) S') → zv (VEnv.den ps ρ) S acc N
theorem fv_elt {ok : List PyData → Prop} {f : M PyData} (he : FBlk C scope fun C => FE C elt ρ f) : FV C (zvElt ok (WEb C scope elt)) ok ρ (one1 f) := by
  intro ps s S acc N ys s' r run hk q
  obtain ⟨y, s1, e1, e2⟩ := bind_inv run
  cases e2
  show WEb C scope elt _ _ _
  intro sh H A cl fp
  exact he sh H A cl fp ps s S _ r (sat_of e1 fun S1 r1 => ⟨hk, q S1 r1⟩)
variable {T : Type} {mt : PyData → Option T} {asg : T → List (Nat × PyData)} {cnd : T → M Bool} {f : T → M (List PyData)} {g : ZG} {zv1 : ZV} {vs o : List Nat} {ok : List PyData → Prop} {mi : M (List PyData)}
theorem comps_turns {ps : List Addr} {xs acc0 : List PyData} {s s' : Cells} {S1 : Sto} {ys : List PyData} {N : List PyData → Sto → Prop} (hg : GOk g mt asg) (ht : FTs C scope ifs (fun t => setl (vwipe ρ vs) (asg t)) cnd) (hl : ∀ t, FV C zv1 ok (setl (vwipe ρ vs) (asg t)) (f t)) (okp : ∀ a b, ok (a ++ b) → ok a)
    (r : Rel C.G ps s S1) (hrun : compsP mt cnd f xs s = .ok ys s') (hk : ok (acc0 ++ ys)) (fin : ∀ S', Rel C.G ps s' S' → N (acc0 ++ ys) S') : GenR g (tsR C scope ifs) zv1 vs (VEnv.den ps ρ) acc0 N xs [] S1 := by
  refine ⟨fun i acc S' => ∃ s1, Rel C.G ps s1 S' ∧ ∃ zs, compsP mt cnd f (xs.drop i) s1 = .ok zs s' ∧ acc0 ++ ys = acc ++ zs, ⟨s, r, ys, by rw [List.drop_zero]; exact hrun, rfl⟩, fun _ _ _ _ _ => need_nil, ?_, ?_⟩
  · rintro i x acc S' ex ⟨s1, r1, zs, run, ey⟩
    have ed : xs.drop i = x :: xs.drop (i + 1) := by rw [← (List.getElem?_eq_some_iff.mp ex).2]; exact List.drop_eq_getElem_cons (List.getElem?_eq_some_iff.mp ex).1
    rw [ed] at run
    unfold compsP at run
    obtain ⟨t, s2, e1, run1⟩ := bind_inv run
    obtain ⟨e0, e00⟩ := ofO_ok e1
    subst e00
    refine hg x t _ S' _ e0 ?_
    obtain ⟨b, s3, e2, run2⟩ := bind_inv run1
    have test : ∀ (Q : Bool → Sto → Prop), (∀ S3, Rel C.G ps s3 S3 → Q b S3) → tsR C scope ifs (setz (zwipe (VEnv.den ps ρ) vs) (asg t)) S' Q := by
      intro Q q
      rcases ht with ⟨rfl, ec⟩ | ⟨e, rfl, hc⟩
      · subst ec
        cases e2
        exact q S' r1
      · intro sh H A cl fp
        have := hc sh H A cl fp t ps s2 S' Q r1 (sat_of e2 q)
        rw [den_setl, den_wipe] at this
        exact this
    refine test _ fun S3 r3 => ?_
    cases b with
    | true =>
      obtain ⟨y, s4, e3, run3⟩ := bind_inv run2
      obtain ⟨zs', s5, e4, run4⟩ := bind_inv run3
      cases run4
      show zv1 _ _ _ _
      have e5 : acc0 ++ ys = acc ++ y ++ zs' := by rw [ey, List.append_assoc]
      have := hl t ps s3 S3 acc (fun acc S' => ∃ s1, Rel C.G ps s1 S' ∧ ∃ zs, compsP mt cnd f (xs.drop (i + 1)) s1 = .ok zs s' ∧ acc0 ++ ys = acc ++ zs) y s4 r3 e3 (okp _ zs' (by rw [← e5]; exact hk)) fun S4 r4 => ⟨s4, r4, zs', e4, e5⟩
      rw [den_setl, den_wipe] at this
      exact this
    | false => exact ⟨s3, r3, zs, run2, ey⟩
  · rintro acc S' ⟨s1, r1, zs, run, ey⟩
    rw [List.drop_length] at run
    cases run
    rw [List.append_nil] at ey
    subst ey
    exact fin S' r1
theorem comps_inv {xs ys : List PyData} {s s' : Cells} (h : comps mt cnd f xs s = .ok ys s') : xs.length ≤ sizeLine ∧ compsP mt cnd f xs s = .ok ys s' := by
  unfold comps at h
  have e := noex_ok h
  split at e
  · rename_i hz
    rw [line_eq] at hz
    exact ⟨hz, e⟩
  · cases e
theorem fv_gen (hi : FBlk C scope fun C => FI C tg iter ρ mi) (hg : GOk g mt asg) (ht : FTs C scope ifs (fun t => setl (vwipe ρ vs) (asg t)) cnd) (hl : ∀ t, FV C zv1 ok (setl (vwipe ρ vs) (asg t)) (f t)) (okp : ∀ a b, ok (a ++ b) → ok a) : FV C (zvGen (WIb C scope tg iter) g (tsR C scope ifs) zv1 vs) ok ρ (mi >>= fun xs => comps mt cnd f xs) := by
  intro ps s S acc N ys s' r run hk q
  obtain ⟨xs, s1, e1, e2⟩ := bind_inv run
  show WIb C scope tg iter _ _ _
  intro sh H A cl fp
  exact hi sh H A cl fp ps s S _ r (sat_of e1 fun S1 r1 => comps_turns hg ht hl okp r1 (comps_inv e2).2 hk q)
theorem okSet_pre : ∀ a b, okSet (a ++ b) → okSet a := fun _ _ h => okS_pre h
theorem okLst_pre : ∀ a b, okLst (a ++ b) → okLst a := fun a b h => by
  have : (a ++ b).length ≤ sizeLine := h
  rw [List.length_append] at this
  show a.length ≤ sizeLine
  omega
theorem fv_out {own : List (Str × Nat)} {ps : List Addr} {s : Cells} {S : Sto} {N : List PyData → Sto → Prop} {β : Type} {k : List PyData → M β} {R : β → Cells → Prop} (hi : FI C tg iter ρ mi) (hg : GOk g mt asg) (ht : FTs C scope ifs (fun t => setl (vwipe ρ (own.map (·.2))) (asg t)) cnd) (hl : ∀ t, FV C zv1 ok (setl (vwipe ρ (own.map (·.2))) (asg t)) (f t)) (okp : ∀ a b, ok (a ++ b) → ok a)
    (r : Rel C.G ps s S) (w : sat ((mi >>= fun xs => comps mt cnd f xs >>= k) s) R (XOk C.X.mg C.G C.EZ)) (hk : ∀ ys s', sat (k ys s') R (XOk C.X.mg C.G C.EZ) → ok ys ∧ ∀ S', Rel C.G ps s' S' → N ys S') : zvGen (WI C.X C.B tg iter) g (tsR C scope ifs) zv1 (own.map (·.2)) (VEnv.den ps ρ) S [] N := by
  show WI C.X C.B tg iter _ _ _
  refine hi ps s S _ r ((sat_bind w).mono (fun xs s1 w1 S1 r1 => ?_) fun _ _ h => h)
  have w2 := sat_bind w1
  unfold comps at w2
  obtain ⟨ys, s', e, q⟩ := sat_noex w2
  split at e
  · obtain ⟨h1, h2⟩ := hk ys s' q
    exact comps_turns (acc0 := []) hg ht hl okp r1 e h1 h2
  · cases e
end
section
variable {C : Ct} {elt t0 i0 t1 i1 e : Expr} {ifs0 ifs1 : List Expr} {ρ : VEnv} {scope : Scope} {own : List (Str × Nat)} {o o1 vs1 : List Nat} {pos p spos p2 q2 : Pos} {g g1 : ZG} {T T1 : Type} {mt : PyData → Option T} {mt1 : PyData → Option T1} {asg : T → List (Nat × PyData)} {asg1 : T1 → List (Nat × PyData)} {cnd : T → M Bool} {cnd1 : T → T1 → M Bool} {mi : M (List PyData)} {mi1 : T → M (List PyData)} {k : Nat}
theorem sat_ofI {α : Type} {x : Option α} {s : Cells} {Q : α → Cells → Prop} {E : Exn → Cells → Prop} (h : sat ((ofO x : M α) s) Q E) : ∃ a, x = some a ∧ Q a s := by
  cases x with
  | none => exact h.elim
  | some a => exact ⟨a, rfl, h⟩
theorem f_sortSC2 {f : T → T1 → M PyData} (hr : Room k C.X.A) (hm : C.X.mg "sorted" = none) (hN : C.X.N.Nodup) (hi : FI C t0 i0 ρ mi) (ok : BlkOk C.X.N C.X.env.scope scope own) (zg : Blk C.X scope fun X => ZGt X C.B t0 o g) (hg : GOk g mt asg) (ht : FTs C scope ifs0 (fun t => setl (vwipe ρ (own.map (·.2))) (asg t)) cnd)
    (vs1 : List Nat) (hi1 : FBlk C scope fun C => ∀ t, FI C t1 i1 (setl (vwipe ρ (own.map (·.2))) (asg t)) (mi1 t)) (zg1 : Blk C.X scope fun X => ZGt X C.B t1 o1 g1) (hg1 : GOk g1 mt1 asg1) (ht1 : ∀ t, FTs C scope ifs1 (fun u => setl (vwipe (setl (vwipe ρ (own.map (·.2))) (asg t)) vs1) (asg1 u)) (cnd1 t))
    (he : FBlk C scope fun C => ∀ t u, FE C elt (setl (vwipe (setl (vwipe ρ (own.map (·.2))) (asg t)) vs1) (asg1 u)) (f t u)) (hc : C.X.calm = true := by rfl) (hv : ∀ i ∈ o, i ∈ own.map (·.2) := by decide) (hv1 : ∀ i ∈ vs1, i ∈ own.map (·.2) := by decide) (hv2 : ∀ i ∈ o1, i ∈ vs1 := by decide) (hgl : Gl C.X "sorted" := by rfl)
    (hz : Blk C.X scope fun X => ZTs X C.B ifs1 (tsR C scope ifs1)) (hs : ∀ x, foldedSetIterable i0 C.X.env x = pure x := by intro _; rfl) (hs1 : ∀ env x, foldedSetIterable i1 env x = pure x := by intro _ _; rfl)
    (hst : starEach [.SetComp elt [⟨t0, i0, ifs0, 0⟩, ⟨t1, i1, ifs1, 0⟩] scope spos] C.X.env = (false, eval (.SetComp elt [⟨t0, i0, ifs0, 0⟩, ⟨t1, i1, ifs1, 0⟩] scope spos) C.X.env) :: starEach [] C.X.env := by rfl) :
    FE C (.Call (.Name "sorted" p) [.SetComp elt [⟨t0, i0, ifs0, 0⟩, ⟨t1, i1, ifs1, 0⟩] scope spos] [] pos) ρ (mi >>= fun xs => comps mt cnd (fun t => mi1 t >>= fun ys => comps mt1 (cnd1 t) (fun u => one1 (f t u)) ys) xs >>= fun es => setSortM es) := by
  intro ps s S Q r w
  refine (ze_sortSC hr hc hgl hm (pe_sc2 hr hc hN wi_zi ok zg (ts_zts ht) wib zg1 hz web hv1 hv2 hs hs1) wi_zi (zg C.X.s_0 C.X.H_0 0 [] []).mono ((ts_zts ht) C.X.s_0 C.X.H_0 0 [] []).mono (fun {ρ S acc N N'} q w => (wib C.X.s_0 C.X.H_0 0 [] []).mono (fun xs l S1 ⟨⟨I, a, b, c, d⟩⟩ => ⟨⟨I, a, b, c, fun acc S' h => q _ _ (d acc S' h)⟩⟩) w) hv hst).we ?_
  refine fv_out hi hg ht (fun t => fv_gen (fun sh H A cl fp => hi1 sh H A cl fp t) hg1 (ht1 t) (fun u => fv_elt fun sh H A cl fp => he sh H A cl fp t u) okSet_pre) okSet_pre r w fun ys s' h => ?_
  obtain ⟨a, e1, e2⟩ := sat_ofI h
  obtain ⟨es, e3, rfl⟩ := Option.map_eq_some_iff.mp e1
  exact ⟨setSort_ok e3, fun S' r' => ⟨es, e3, e2 S' r'⟩⟩
theorem f_lc2 {f : T → T1 → M PyData} (hN : C.X.N.Nodup) (hi : FI C t0 i0 ρ mi) (ok : BlkOk C.X.N C.X.env.scope scope own) (zg : Blk C.X scope fun X => ZGt X C.B t0 o g) (hg : GOk g mt asg) (ht : FTs C scope ifs0 (fun t => setl (vwipe ρ (own.map (·.2))) (asg t)) cnd)
    (vs1 : List Nat) (hi1 : FBlk C scope fun C => ∀ t, FI C t1 i1 (setl (vwipe ρ (own.map (·.2))) (asg t)) (mi1 t)) (zg1 : Blk C.X scope fun X => ZGt X C.B t1 o1 g1) (hg1 : GOk g1 mt1 asg1) (ht1 : ∀ t, FTs C scope ifs1 (fun u => setl (vwipe (setl (vwipe ρ (own.map (·.2))) (asg t)) vs1) (asg1 u)) (cnd1 t))
    (he : FBlk C scope fun C => ∀ t u, FE C elt (setl (vwipe (setl (vwipe ρ (own.map (·.2))) (asg t)) vs1) (asg1 u)) (f t u)) (hc : C.X.calm = true := by rfl) (hv : ∀ i ∈ o, i ∈ own.map (·.2) := by decide) (hv1 : ∀ i ∈ vs1, i ∈ own.map (·.2) := by decide) (hv2 : ∀ i ∈ o1, i ∈ vs1 := by decide)
    (hz : Blk C.X scope fun X => ZTs X C.B ifs1 (tsR C scope ifs1)) (hs : ∀ x, foldedSetIterable i0 C.X.env x = pure x := by intro _; rfl) (hs1 : ∀ env x, foldedSetIterable i1 env x = pure x := by intro _ _; rfl) :
    FE C (.ListComp elt [⟨t0, i0, ifs0, 0⟩, ⟨t1, i1, ifs1, 0⟩] scope pos) ρ (mi >>= fun xs => comps mt cnd (fun t => mi1 t >>= fun ys => comps mt1 (cnd1 t) (fun u => one1 (f t u)) ys) xs >>= fun es => shortM es) := by
  intro ps s S Q r w
  refine (ze_lc2 (vs1 := vs1) hN wi_zi ok zg (ts_zts ht) wib zg1 hz web hc hv hv1 hv2 hs hs1).we ?_
  refine fv_out hi hg ht (fun t => fv_gen (fun sh H A cl fp => hi1 sh H A cl fp t) hg1 (ht1 t) (fun u => fv_elt fun sh H A cl fp => he sh H A cl fp t u) okLst_pre) okLst_pre r w fun ys s' h => ?_
  obtain ⟨a, e1, e2⟩ := sat_ofI h
  split at e1
  · rename_i hl
    cases e1
    rw [line_eq] at hl
    exact ⟨hl, fun S' r' => e2 S' r'⟩
  · cases e1
theorem rowZ_row {S : Sto} {x : PyData} {xs : List PyData} (h : rowD x = some xs) : rowZ S (.d x) = some xs := by
  cases x <;> first | exact h | (simp [rowD] at h)
theorem f_lenSet {m : M PyData} (hr : Room k C.X.A) (hm : C.X.mg "len" = none) (hm2 : C.X.mg "set" = none) (ha : FE C e ρ m) (hgl : Gl C.X "len" := by rfl) (hgl2 : Gl C.X "set" := by rfl) (he : starEach [e] C.X.env = (false, eval e C.X.env) :: starEach [] C.X.env := by rfl)
    (he2 : starEach [.Call (.Name "set" p2) [e] [] q2] C.X.env = (false, eval (.Call (.Name "set" p2) [e] [] q2) C.X.env) :: starEach [] C.X.env := by rfl) : FE C (.Call (.Name "len" p) [.Call (.Name "set" p2) [e] [] q2] [] pos) ρ (m >>= rowM >>= fun xs => setOfM xs >>= fun es => setLenM es) := by
  intro ps s S Q r w
  refine (ze_lenSet hr hgl hm hgl2 hm2 we_ze he he2).we ?_
  refine ha ps s S _ r ?_
  rw [bind_assoc'] at w
  refine (sat_bind w).mono (fun x s1 w1 S1 r1 => ?_) fun _ _ h => h
  obtain ⟨xs, e1, w2⟩ := sat_ofI (sat_bind w1)
  obtain ⟨es, e3, w3⟩ := sat_ofI (sat_bind w2)
  obtain ⟨fs, e4, w4⟩ := sat_ofI w3
  obtain ⟨gs, e5, rfl⟩ := Option.map_eq_some_iff.mp e4
  show match rowZ S1 (.d x) with
    | some xs => _
    | none => _
  rw [rowZ_row e1]
  split at e3
  · rename_i few
    cases e3
    exact ⟨few, gs, e5, w4 S1 r1⟩
  · cases e3
end
end ZL
namespace V
open PySem PySem.Spec ZL L2
def ltO2 : PyData → PyData → Option Bool
  | .int i, .int j => some (decide (i < j))
  | .tuple a, .tuple b => (intsD a).bind fun ns => (intsD b).map fun ms => HT.lexLt ns ms
  | _, _ => none
abbrev ltM2 (x y : PyData) : M Bool := ofO (ltO2 x y)
end V
namespace ZL
open PySem PySem.Spec PyProof.Rows L2 V
def rZLtT : ZR2 := fun x y S Q => match x, y with
  | .d x, .d y => ∃ b, ltO2 x y = some b ∧ Q (zb b) S
  | _, _ => False
theorem zltT {X : Cx} {k : Nat} (hr : Room k X.A) : ZOp X (compareOp .Lt) rZLtT := by
  constructor
  · intro x y S Q Q' q w
    unfold rZLtT at *
    split at w
    · obtain ⟨b, e, w⟩ := w; exact ⟨b, e, q _ _ w⟩
    · exact w.elim
  · rintro B pins s σ H x y v u Q I rx ry ⟨z1, z2, S, h1, h2, hS, w⟩
    unfold rZLtT at w
    split at w
    · rename_i d1 d2
      obtain ⟨b, e, w⟩ := w
      unfold ltO2 at e
      split at e
      · cases e
        cases h1 with | d h1 => cases h1; cases h2 with | d h2 => cases h2; exact op_lt pins s σ H _ _ v u Q I rx ry ⟨_, _, rfl, rfl, w _ H (.refl _ _) (.d (.bl _)) hS⟩
      · obtain ⟨ns, e1, e2⟩ := Option.bind_eq_some_iff.mp e
        obtain ⟨ms, e3, rfl⟩ := Option.map_eq_some_iff.mp e2
        rw [intsD_eq e1] at h1
        rw [intsD_eq e3] at h2
        cases h1 with
        | d h1 =>
          cases h2 with
          | d h2 =>
            obtain ⟨a, rfl, sa⟩ := fz_tup (ns := ns) h1
            obtain ⟨b, rfl, sb⟩ := fz_tup (ns := ms) h2
            exact op_ltT hr.units0 pins s σ H _ _ v u Q I rx ry ⟨a, b, ns, ms, rfl, rfl, sa, sb, w _ H (.refl _ _) (.d (.bl _)) hS⟩
      · cases e
    · exact w.elim
theorem o_ltT : Op2b rZLtT ltO2 := by
  intro x y d S Q h q
  exact ⟨d, h, q⟩
end ZL
namespace V
open PySem PySem.Spec ZL L2
end V
namespace ZL
open PySem PySem.Spec PyProof.Rows L2 V
section
variable {X : Cx}
end
end ZL
namespace ZL
open PySem PySem.Spec PyProof.Rows L2 V
section
variable {C : Ct} {rm : Bool} {e ix ix1 ix2 : Expr} {ρ : VEnv} {K : List (List Stmt)} {rest : List Stmt} {L T : Type} {emb : T → VEnv} {embL : L → VEnv} {me mi m1 m2 : M PyData} {pos : Pos}
end
end ZL
namespace ZL
open PySem PySem.Spec PyProof.Rows L2 V
section
variable {K : PySem.W.Frag} {S S' : Sto} {H H' : Hp} {B : Bs}
end
section
variable {X : Cx} {B : Bs} {pos : Pos}
def Grow (S S' : Sto) : Prop := ∀ a c, S a = some c → S' a = some c
theorem Grow.refl (S : Sto) : Grow S S := fun _ _ h => h
theorem Grow.trans {S S1 S2 : Sto} (a : Grow S S1) (b : Grow S1 S2) : Grow S S2 := fun x c e => b x c (a x c e)
end
end ZL
namespace ZL
open PySem PySem.Spec PyProof.Rows L2 V
def Sto.mkT (S : Sto) (p : Addr) (as : List Addr) (dss : List (List PyData)) : Sto := fun b => if b = p then some (.tab dss) else if b ∈ as then some (.own p (as.idxOf b)) else S b
structure Made (S1 S' : Sto) (as : List Addr) (acc : List (List PyData)) : Prop where
  len : as.length = acc.length
  nd : as.Nodup
  row : ∀ (m : Nat) b ds, as[m]? = some b → acc[m]? = some ds → S' b = some (.lst ds)
  new : ∀ b ∈ as, S1 b = none
  grow : Grow S1 S'
theorem Made.some {S1 S' : Sto} {as : List Addr} {acc : List (List PyData)} (h : Made S1 S' as acc) {b : Addr} (hb : b ∈ as) : ∃ ds, S' b = Option.some (.lst ds) := by
  obtain ⟨m, hm, em⟩ := List.getElem_of_mem hb
  have e1 : as[m]? = Option.some b := by rw [List.getElem?_eq_getElem hm, em]
  have hm2 : m < acc.length := by have := h.len; omega
  exact ⟨_, h.row m b acc[m] e1 (List.getElem?_eq_getElem hm2)⟩
section
variable {X : Cx} {B : Bs} {pos : Pos} {tg iter elt : Expr} {scope : Scope} {own : List (Str × Nat)} {o : List Nat} {ti : ZTI} {g : ZG} {te : ZT}
structure LcRT (g : ZG) (te : ZT) (vs : List Nat) (ρ : ZEnv) (Q : ZQ) (xs : List PyData) (l : List (Addr × List PyData)) (S1 : Sto) : Prop where
  ex : ∃ I : Nat → List (List PyData) → Sto → Prop, I 0 [] S1 ∧ (∀ i acc S', i ≤ xs.length → I i acc S' → Need S' l) ∧
    (∀ (i : Nat) (x : PyData) acc S', xs[i]? = some x → I i acc S' → g (.d x) (zwipe ρ vs) S' fun ρ2 S2 => te ρ2 S2 fun y S4 => ∃ b row, y = .r b ∧ Grow S' S4 ∧ S' b = none ∧ S4 b = some (.lst row) ∧ acc.length < sizeLine ∧ I (i + 1) (acc ++ [row]) S4) ∧
    ∀ acc S', I xs.length acc S' → ∀ p as, S' p = none → Made S1 S' as acc → Q (.r p) (S'.mkT p as acc)
end
end ZL
namespace V
open PySem PySem.Spec ZL L2
def calm {α : Type} (m : M α) : M α := fun s => match m [] with
  | .ok a _ => .ok a s
  | _ => .bad
@[simp] theorem calm_pure {α : Type} (a : α) : calm (pure a : M α) = pure a := rfl
def getT (j : Nat) : M (List (List PyData)) := fun s => match s[j]? with
  | some (some (.tab x)) => .ok x s
  | _ => .bad
end V
namespace ZL
open PySem PySem.Spec PyProof.Rows L2 V
theorem Rel.grow {G : Gd} {ps : List Addr} {s : Cells} {S S' : Sto} (r : Rel G ps s S) (g : Grow S S') (o : OwnOk S') : Rel G ps s S' := by
  refine ⟨r.len, fun j c a e1 e2 => g _ _ (r.own j c a e1 e2), r.inj, fun a c n e => g _ _ (r.fr a c n e), r.loc, fun a ha => ?_, r.par, o, r.owG, fun a ha p m e => ?_, r.cn⟩
  · cases q : S a with
    | none => exact absurd q (r.gp a ha)
    | some c => rw [g a c q]; exact fun z => nomatch z
  · cases q : S a with
    | none => exact absurd q (r.gp a ha)
    | some c =>
      rw [g a c q] at e
      cases e
      exact r.gq a ha p m q
def VEnv.dat : VEnv → VEnv := List.map fun o => match o with
  | some (.c _) => none
  | o => o
theorem dat_fg (ps : List Addr) : ∀ ρ : VEnv, Fgz (VEnv.den [] (VEnv.dat ρ)) (VEnv.den ps ρ)
  | [] => .nil
  | none :: r => .n (dat_fg ps r)
  | some (.d x) :: r => .s (dat_fg ps r)
  | some (.c j) :: r => .n (dat_fg ps r)
  | some (.k x) :: r => .s (dat_fg ps r)
  | some (.ob x) :: r => .s (dat_fg ps r)
abbrev Ct.at0 (C : Ct) (S : Sto) : Ct := { C with G := ⟨[], S⟩ }
theorem rel0 {S : Sto} (o : OwnOk S) : Rel ⟨[], S⟩ [] [] S := ⟨rfl, fun j c a e => by simp at e, fun i j ci cj a e => by simp at e, fun a c _ e => e, fun j c a e => by simp at e, fun a h => by simp at h, rfl, o, o, fun a h => by simp at h, fun j q m => by simp⟩
theorem rel0_grow {S S' : Sto} {s : Cells} (r : Rel ⟨[], S⟩ [] s S') : Grow S S' := fun a c e => r.fr a c (by simp) e
def TbOf (C : Ct) (S : Sto) : Prop := ∀ Ts, Gt Ts C.G → TbIn Ts S
theorem TbOf.now {C : Ct} {ps : List Addr} {s : Cells} {S : Sto} (r : Rel C.G ps s S) : TbOf C S := fun _ g => g.now r
theorem TbOf.hG {C : Ct} {S : Sto} {p : Prop} {Ts : Tbs} (t : TbOf C S) (h : p ∧ Gt Ts C.G) : p ∧ Gt Ts (C.at0 S).G := ⟨h.1, t _ h.2, fun _ _ z => by cases z⟩
section
variable {C : Ct} {rm : Bool} {e ix kx elt iter tg : Expr} {ρ : VEnv} {K : List (List Stmt)} {rest : List Stmt} {L T : Type} {emb : T → VEnv} {embL : L → VEnv} {me mi mk : M PyData} {pos : Pos}
variable {U : Type} {pt : PyData → Option U} {asg : U → List (Nat × PyData)} {f : U → M (List PyData)} {g : ZG} {scope : Scope} {own2 : List (Str × Nat)} {o : List Nat} {mxs : M (List PyData)}
end
end ZL
namespace V
open PySem PySem.Spec ZL L2
end V
namespace ZL
open PySem PySem.Spec PyProof.Rows L2 V
section
variable {X : Cx} {B : Bs} {pos : Pos}
end
section
variable {C : Ct} {rm : Bool} {e a : Expr} {es : List Expr} {kws : List Keyword} {ρ : VEnv} {K : List (List Stmt)} {rest : List Stmt} {L T : Type} {emb : T → VEnv} {embL : L → VEnv} {me m : M PyData} {mN : M (List PyData)} {pos p p2 pos2 : Pos}
variable {Ts : Tbs} {k : Nat} {f : Addr} {fd : FuncData} {ps' ks : List Str} {ms : List Md} {F : List PyData → M PyData} {x : Str} {n : Nat} {sel : List Nat} {dv : List PyData}
end
end ZL
namespace V
open PySem PySem.Spec ZL L2
end V
namespace ZL
open PySem PySem.Spec PyProof.Rows L2 V
section
variable {X : Cx}
end
end ZL
namespace ZL
open PySem PySem.Spec PyProof.Rows L2 V
end ZL
namespace ZL
open PySem PySem.Spec PyProof.Rows L2
section
variable {K : PySem.W.Frag} {H : Hp}
end
section
variable {X : Cx} {B : Bs}
end
end ZL
namespace V
open PySem PySem.Spec ZL L2
end V
namespace ZL
open PySem PySem.Spec PyProof.Rows L2 V
section
variable {C : Ct} {e a b : Expr} {ρ : VEnv} {pos : Pos}
end
end ZL
namespace V
open PySem PySem.Spec
def isxM (n m : Str) : M PyData := pure (.bool (decide (n = m)))
end V
namespace ZL
open PySem PySem.Spec PyProof.Rows L2 V L2H
structure ExTab (K : PySem.W.Frag) (mg : Str → Option Value) (XS : List Str) : Prop where
  cls : ∀ n ∈ XS, ∃ D, mg n = some (.ref D) ∧ ExcC K D ∧ PySem.W.kitOne K (.ref D) (.type "ValueError") = some true
  two : ∀ n ∈ XS, ∀ m ∈ XS, ∀ D C, mg n = some (.ref D) → mg m = some (.ref C) → PySem.W.kitOne K (.ref D) (.ref C) = some (decide (n = m))
def ExAt (mg : Str → Option Value) (p : Addr × Obj) (n : Str) : Prop := ∃ D, mg n = some (.ref D) ∧ p.2.cls = .ref D ∧ p.2.dict = none ∧ ∃ vs, p.2.data = .fields vs
def ExIn (X : Cx) (a : Addr) (n : Str) : Prop := ∃ oe, (a, oe) ∈ X.pn ∧ ExAt X.mg (a, oe) n
theorem call_isX {X : Cx} {a D : Addr} {oe : Obj} (k : ExcC X.K D) (held : (a, oe) ∈ X.pn) (h1 : oe.cls = .ref D) (h2 : oe.dict = none) (h3 : ∃ vs, oe.data = .fields vs) : CallR X (.builtin "isinstance") (rIsE X.K D a) := by
  rintro pins s σ H xs us Q I r ⟨c, cv, b, rfl, hcv, e, q⟩
  obtain ⟨u1, u2, rfl, r1, r2⟩ := vals2 r
  obtain rfl : u1 = Value.ref a := r1
  obtain rfl := hcv _ r2
  have there := (I.pin (a, oe) (List.mem_append_left _ held)).1
  have inst : PySem.W.InstAt s.heap a oe D none := by
    obtain ⟨vs, h3⟩ := h3
    cases oe
    cases h1; cases h2; cases h3
    exact ⟨there, rfl, rfl, trivial⟩
  exact PySem.W.kia_one (PySem.W.handS_kitx_exc k.hg k.hk k.hs k.hd k.ha k.hn k.ht k.hm) I.kIn inst e (fun z => nomatch z) fun tk => ⟨.bl b, H, I.tok tk, rfl, q⟩
def zIsX (i : Nat) (a : Addr) (b : Bool) : ZT := fun ρ S Q => ρ[i]? = some (some (.r a)) ∧ Q (zb b) S
theorem ze_isX {X : Cx} {B : Bs} {a D : Addr} {oe : Obj} {v : L2.V} {cv : Value} {b : Bool} (i : Nat) {x : Str} {c : Expr} {p px pos : Pos} (hm : X.mg "isinstance" = none) (k : ExcC X.K D) (held : (a, oe) ∈ X.pn) (h1 : oe.cls = .ref D) (h2 : oe.dict = none) (h3 : ∃ vs, oe.data = .fields vs)
    (hc : PE X c (tC v)) (hv : ∀ u, RelV v u → u = cv) (hb : PySem.W.kitOne X.K (.ref D) cv = some b) (hN : X.N[i]? = some x) (hvis : Vis X.env.scope x) (hd : (x == ("__debug__" : Str)) = false) (hcd : (x == ("__classdict__" : Str)) = false)
    (hg : Gl X "isinstance" := by rfl) (hs : starEach (.Name x px :: [c]) X.env = (false, eval (.Name x px) X.env) :: starEach [c] X.env := by rfl) (hs2 : starEach [c] X.env = (false, eval c X.env) :: starEach [] X.env := by rfl) (hpl : (backTo pos (starEach [c] X.env)).any (·.1) = false := by rfl) :
    ZE X B (.Call (.Name "isinstance" p) [.Name x px, c] [] pos) (zIsX i a b) := by
  refine ⟨fun q w => ⟨w.1, q _ _ w.2⟩, PE.imp (pe_callB (call_isX k held h1 h2 h3) hg hm PyProof.Rows.boot_isinstance (pa_cons (pe_var hN hvis hd hcd) (pa_cons hc pa_nil hs2) hs) (by decide) (by decide) hs hpl) ?_⟩
  rintro σ H Q ⟨ρ, S, hE, hS, e, w⟩
  obtain ⟨u, e1, rz⟩ := hE.get e
  cases rz
  exact ⟨_, e1, v, cv, b, rfl, hv, hb, w _ H (.refl _ _) (.d (.bl _)) hS⟩
section
variable {C : Ct} {ρ : VEnv} {XS : List Str} {a : Addr} {n : Str}
theorem f_isX (i : Nat) {x m : Str} {p px pm pos : Pos} (T : ExTab C.X.K C.X.mg XS) (hx : ExIn C.X a n) (hn : n ∈ XS) (hi : C.X.mg "isinstance" = none) {e : Addr} (hm : C.X.mg m = some (.ref e)) (hxs : m ∈ XS := by decide) (hρ : ρ[i]? = some (some (.ob a)) := by rfl) (hN : C.X.N[i]? = some x := by rfl)
    (hv : Vis C.X.env.scope x := by first | exact Or.inl rfl | exact Or.inr (Or.inl rfl) | exact Or.inr (Or.inr rfl)) (hd : (x == ("__debug__" : Str)) = false := by decide) (hcd : (x == ("__classdict__" : Str)) = false := by decide) (hgm : Gl C.X m := by rfl) (hdm : (m == ("__debug__" : Str)) = false := by decide) (hg : Gl C.X "isinstance" := by rfl)
    (hs : starEach (.Name x px :: [.Name m pm]) C.X.env = (false, eval (.Name x px) C.X.env) :: starEach [.Name m pm] C.X.env := by rfl) (hs2 : starEach [.Name m pm] C.X.env = (false, eval (.Name m pm) C.X.env) :: starEach [] C.X.env := by rfl) (hpl : (backTo pos (starEach [.Name m pm] C.X.env)).any (·.1) = false := by rfl) :
    FE C (.Call (.Name "isinstance" p) [.Name x px, .Name m pm] [] pos) ρ (isxM n m) := by
  intro ps s S Q r w
  obtain ⟨oe, held, D, e1, e2, e3, e4⟩ := hx
  obtain ⟨D', e1', k, _⟩ := T.cls n hn
  obtain rfl : D = D' := by rw [e1] at e1'; cases e1'; rfl
  have hb := T.two n hn m hxs D e e1 hm
  refine (ze_isX (v := .ref e) (cv := .ref e) i hi k held e2 e3 e4 (pe_glob hgm hm rfl hdm) (fun u h => h) hb hN hv hd hcd hg hs hs2 hpl).we ⟨?_, w S r⟩
  exact den_get ps ρ i hρ
theorem f_isV (i : Nat) {x : Str} {p px pm pos : Pos} (T : ExTab C.X.K C.X.mg XS) (hx : ExIn C.X a n) (hn : n ∈ XS) (hi : C.X.mg "isinstance" = none) (hm : C.X.mg "ValueError" = none) (hρ : ρ[i]? = some (some (.ob a)) := by rfl) (hN : C.X.N[i]? = some x := by rfl)
    (hv : Vis C.X.env.scope x := by first | exact Or.inl rfl | exact Or.inr (Or.inl rfl) | exact Or.inr (Or.inr rfl)) (hd : (x == ("__debug__" : Str)) = false := by decide) (hcd : (x == ("__classdict__" : Str)) = false := by decide) (hgm : Gl C.X "ValueError" := by rfl) (hg : Gl C.X "isinstance" := by rfl)
    (hs : starEach (.Name x px :: [.Name "ValueError" pm]) C.X.env = (false, eval (.Name x px) C.X.env) :: starEach [.Name "ValueError" pm] C.X.env := by rfl) (hs2 : starEach [.Name "ValueError" pm] C.X.env = (false, eval (.Name "ValueError" pm) C.X.env) :: starEach [] C.X.env := by rfl) (hpl : (backTo pos (starEach [.Name "ValueError" pm] C.X.env)).any (·.1) = false := by rfl) :
    FE C (.Call (.Name "isinstance" p) [.Name x px, .Name "ValueError" pm] [] pos) ρ (pure (.bool true)) := by
  intro ps s S Q r w
  obtain ⟨oe, held, D, e1, e2, e3, e4⟩ := hx
  obtain ⟨D', e1', k, hb⟩ := T.cls n hn
  obtain rfl : D = D' := by rw [e1] at e1'; cases e1'; rfl
  refine (ze_isX (v := .ty "ValueError") (cv := .type "ValueError") i hi k held e2 e3 e4 (pe_bltn hgm hm (by decide +kernel) rfl) (fun u h => h) hb hN hv hd hcd hg hs hs2 hpl).we ⟨?_, w S r⟩
  exact den_get ps ρ i hρ
end
structure FnX (P : Program) (w : World) (K : PySem.W.Frag) (mg : Str → Option Value) (base : Heap) (k : Nat) (f : Addr) (fd : FuncData) (y : Str) (XS : List Str) (Fm : Str → M PyData) : Prop where
  run : ∀ (A : Around) (outer : List PySem.Env) (s : Shared) (H : Hp) (args : Args) (p : Addr × Obj) (n : Str) (S : Sto) (d : PyData) (s' : Cells) (Q : VK), RoomH k A → PinOk outer H s p → Env0 P w K mg base A outer s H → BindsTo s fd args [(y, .ref p.1)] → n ∈ XS → ExAt mg p n → RS0 K S H → OwnOk S →
    Fm n [] = .ok d s' → (∀ S' v H', Rel ⟨[], S⟩ [] [] S' → Step S S' H H' → RZ K H' v (.d d) → RS0 K S' H' → Q v H') → codeAny (model P w) A (.call (.ref f) args) (CR (L2N.CX P w) outer P w H s Q fun _ _ _ => False) s
abbrev cxX (P : Program) (w : World) (K : PySem.W.Frag) (mg : Str → Option Value) (base : Heap) (N : List Str) (qual : Str) (scope : Scope) (f : Addr) (cd : Value) (A : Around) (outer : List PySem.Env) (s : Shared) (H : Hp) (p : Addr × Obj) : Cx := cxH (L2N.CX P w) P w K mg base N qual scope f cd A outer s H (fun _ _ _ => False) p
section
variable {P : Program} {w : World} {K : PySem.W.Frag} {mg : Str → Option Value} {base : Heap} {k : Nat} {f : Addr} {fd : FuncData} {x qual y : Str} {N : List Str} {XS : List Str} {Fm : Str → M PyData} {params : Arguments} {body : List Stmt} {scope : Scope}
theorem vfnX (F : FunD K x qual params body scope [] [] f fd) (Sc : FnScope N [y] scope)
    (hb : ∀ (cdv : Value) (A : Around) (outer : List PySem.Env) (s : Shared) (H : Hp) (p : Addr × Obj) (n : Str) (S : Sto), RoomH k (A.deeper (envOfC qual scope s.heap.objs.size f cdv)) → n ∈ XS → ExIn (cxX P w K mg base N qual scope f cdv A outer s H p) p.1 n →
      ∃ nl bodyM, Fm n = V.frame nl (fin bodyM) ∧ FS ⟨cxX P w K mg base N qual scope f cdv A outer s H p, ⟨S, H⟩, ⟨[], S⟩, noW⟩ false [] body (startE N [.ob p.1]) (fun _ : Unit => List.replicate N.length none) (fun _ : Unit => []) bodyM) :
    FnX P w K mg base (k + 1) f fd y XS Fm := by
  obtain ⟨oc, od, dV, kV, doc, pm, an, cdv, ct, osl, rfl, lk, hcd, _, _⟩ := F.ex
  constructor
  intro A outer s H args p n S d s' Q room pin ground bound hn hp hS hO hF hQ
  have inHeap : K.In s.heap := ground.mod.kin.keeps fun b o e => And.left (ground.bs b o e)
  have noLim : s.heap.NoLimit := ground.mod.nolimit.keeps fun b o e => And.left (ground.bs b o e)
  have kinds : ∀ z ∈ [y].zip [Value.ref p.1], scope.names.lookup z.1 = some .local ∨ (scope.names.lookup z.1 = some .cell ∧ ((cellsFrom (s.heap.objs.size + 1) scope.names []).lookup z.1).isSome = true) := by
    rintro ⟨m, v⟩ hz
    cases Sc.par m (List.of_mem_zip hz).1 with
    | inl q => exact .inl q
    | inr q => exact .inr ⟨q, PySem.W.cellsFrom_some _ _ _ (.inl q)⟩
  refine codeAny_call_function room.depth (inHeap f _ lk) rfl Sc.co Sc.gen rfl (PySem.W.codeRec_of inHeap hcd) (bound _ A.in1 _ _ ?_)
  refine wpAny_newFunctionEnv_cells (binds := [y].zip [Value.ref p.1]) Sc.kind kinds ?_
  intro env he s1 entered
  subst he
  refine ⟨noLim.keeps entered.toInCall.keep, codeAny_func ?_⟩
  have begun := inv_startH (CX := L2N.CX P w) (E := fun _ _ _ => False) (qual := qual) (f := f) (cd := cdv) (vs := [V.ref p.1]) (us := [.ref p.1]) Sc pin ground rfl (.cons rfl .nil) entered
  obtain ⟨nl, bodyM, eF, fs⟩ := hb cdv A outer s H p n S (room.deeper _) hn ⟨p.2, List.mem_singleton.mpr rfl, hp⟩
  rw [eF] at hF
  have w1 := sat_frame (Q := fun d' _ => d' = d) (E := fun _ _ => False) (show sat (V.frame nl (fin bodyM) []) _ _ by rw [hF]; rfl)
  have go := fs ([] ++ List.replicate nl 0) ([] ++ List.replicate nl none) S { nx := fun _ S' => d = .none ∧ Rel ⟨[], S⟩ [] [] S', rt := fun z S' => z = .d d ∧ Rel ⟨[], S⟩ [] [] S' } ((rel0 hO).more nl) ((sat_bind w1).mono (fun fl s2 w2 => ?_) fun _ _ h => h.elim)
  · rw [den_start] at go
    have el : ELe K ⟨S, H⟩ S H { nx := fun _ S' => d = .none ∧ Rel ⟨[], S⟩ [] [] S', rt := fun z S' => z = .d d ∧ Rel ⟨[], S⟩ [] [] S' } { nx := fun _ H' => Q .non H', rt := Q } := by
      refine ⟨?_, ?_, fun _ _ _ _ h => h.elim, fun _ _ _ _ h => h.elim⟩
      · rintro ρ' S' σ' H' ⟨rfl, hR⟩ st _ rS
        exact hQ S' .non H' hR st (.d .non) rS.1
      · rintro z S' v H' ⟨rfl, hR⟩ st rz rS
        exact hQ S' v H' hR st rz rS.1
    refine wpAny_mono ((wss_zss.pss).run [] s1 (start N [V.ref p.1]) H _ begun ⟨zstart N [.r p.1], S, _, RE.start (.cons (.r _) .nil), ⟨hS, .refl _ _⟩, el, go⟩) ?_ (fun _ _ left => left)
    · intro fl s3 ended
      cases fl with
      | ret u => obtain ⟨v, σ', H', J, r, q⟩ := ended; exact ⟨v, H', J.os, J.bare, J.base, J.hok, r, q⟩
      | next => obtain ⟨σ', H', J, q⟩ := ended; exact ⟨.non, H', J.os, J.bare, J.base, J.hok, rfl, q⟩
      | brk => obtain ⟨_, _, _, q⟩ := ended; exact q.elim
      | cont => obtain ⟨_, _, _, q⟩ := ended; exact q.elim
  · cases fl with
    | nx t =>
      intro ps S' ρ r' _
      exact ⟨Eq.symm w2, r'.less rfl⟩
    | bk l => exact w2.elim
    | ct l => exact w2.elim
    | rt v => exact .inl ⟨rfl, fun ps S' r' => ⟨congrArg Z.d w2, r'.less rfl⟩⟩
end
def zCallX (i : Nat) (a : Addr) (m : M PyData) : ZT := fun ρ S Q => ρ[i]? = some (some (.r a)) ∧ OwnOk S ∧ ∃ d s', m [] = .ok d s' ∧ ∀ S', Rel ⟨[], S⟩ [] [] S' → Q (.d d) S'
section
variable {X : Cx} {B : Bs} {k : Nat} {f : Addr} {fd : FuncData} {x y z : Str} {XS : List Str} {Fm : Str → M PyData} {a : Addr} {n : Str} {p pz pos : Pos}
theorem ze_callX (F : FnX X.prog X.w X.K X.mg X.base k f fd y XS Fm) (hr : RoomH k X.A) (hm : X.mg x = some (.ref f)) (hk : PySem.W.keepIn X.K (.ref f) = true) (hb : Binds X.K fd [y] []) (hn : n ∈ XS) (hx : ExIn X a n) (i : Nat) (hN : X.N[i]? = some z) (hv : Vis X.env.scope z) (hd : (z == ("__debug__" : Str)) = false) (hcd : (z == ("__classdict__" : Str)) = false)
    (hg : Gl X x := by rfl) (hdb : (x == ("__debug__" : Str)) = false := by decide) (he : starEach (.Name z pz :: []) X.env = (false, eval (.Name z pz) X.env) :: starEach [] X.env := by rfl) (hpl : (backTo pos (starEach [] X.env)).any (·.1) = false := by rfl) :
    ZE X B (.Call (.Name x p) [.Name z pz] [] pos) (zCallX i a (Fm n)) := by
  refine ⟨fun q ⟨w1, w2, d, s', w3, w4⟩ => ⟨w1, w2, d, s', w3, fun S' r => q _ _ (w4 S' r)⟩, ⟨fun pins s σ H Q I h => ?_⟩⟩
  obtain ⟨ρ, S, hE, hS, e, hO, d, s', hF, w⟩ := h
  obtain ⟨oe, held, hp⟩ := hx
  obtain ⟨u, e1, rz⟩ := hE.get e
  cases rz
  refine wpAny_Call_Name_kw (ld_glob I hg hm ?_ hdb)
  refine PySem.W.callWith_K (h₀ := X.base) I.mod.kin hk (thn ((pa_cons (pe_var (i := i) hN hv hd hcd) pa_nil he).run pos pins s σ H (fun vs H' => vs = [V.ref a] ∧ H' = H) I ⟨_, e1, rfl, rfl⟩) ?_) he hpl
  rintro us s1 ⟨vs, H1, I1, rv, rfl, rfl⟩
  obtain ⟨u1, rfl, r1⟩ : ∃ u1, us = [u1] ∧ RelV (V.ref a) u1 := by cases rv with | cons h t => cases t; exact ⟨_, rfl, h⟩
  obtain rfl : u1 = Value.ref a := r1
  obtain ⟨q1, q2, q3, q4, q5⟩ := I1.pin (a, oe) (List.mem_append_left _ held)
  have pin : PinOk X.stack H1 s1 (a, oe) := ⟨q1, q2, fun hm => (List.mem_cons.mp (I1.stkSub a hm)).elim q3 q4, q5⟩
  have b := hb s1 [.ref a] I1.kIn rfl
  rw [List.append_nil] at b
  refine ⟨I1.kIn, wpAny_call (codeAny_mono (F.run X.A X.stack s1 H1 ⟨[.ref a], []⟩ (a, oe) n S d s' Q hr pin I1.env0 b hn hp hS.1 hO hF fun S' v H' hR st rz rs => w S' hR v H' st rz (hS.step rs st)) ?_)⟩
  intro r s2 ended
  cases r with
  | error e => obtain ⟨_, _, _, _, _, _, _, _, _, _, _, _, z⟩ := ended; exact z.elim
  | ok fl =>
    cases fl with
    | ret u => exact I1.after ended
    | next => exact ended.elim
    | brk => exact ended.elim
    | cont => exact ended.elim
end
end ZL
namespace ZL
open PySem PySem.Spec PyProof.Rows L2 V L2H LamX
abbrev envG (qg : Str) (sg : Scope) (s : Shared) (g : Addr) (cdg : Value) : PySem.Env := envOfC qg sg s.heap.objs.size g cdg
abbrev cxG (X : Cx) (CXg : CXT) (Eg : XK) (Ng : List Str) (qg : Str) (sg : Scope) (g : Addr) (cdg : Value) (s : Shared) (H : Hp) : Cx := cxOf CXg X.prog X.w X.K X.mg X.base Ng qg sg g cdg X.A X.stack s H Eg
abbrev xeL (X : Cx) (A : Around) (outer : List PySem.Env) (s : Shared) (H : Hp) (E : XK) (scope : Scope) (f c' : Addr) : Value → Shared → Prop := fun e s' => wpAny (model X.prog X.w) (A.deeper (lamEnv X scope s.heap.objs.size f c')) (leaving (lamEnv X scope s.heap.objs.size f c') e) (fun _ s'' => L2N.CX X.prog X.w outer H s E e s'') (fun e' s'' => L2N.CX X.prog X.w outer H s E e' s'') s'
abbrev cxL (X : Cx) (qg : Str) (sg : Scope) (s : Shared) (g : Addr) (cdg : Value) (scope : Scope) (f c' : Addr) (E : XK) (sZ : Shared) (HZ : Hp) : Cx := (lamCx X (X.A.deeper (envG qg sg s g cdg)) (envG qg sg s g cdg :: X.stack) sZ HZ E scope f c').tr [] (xeL X (X.A.deeper (envG qg sg s g cdg)) (envG qg sg s g cdg :: X.stack) sZ HZ E scope f c')
abbrev lamO (X : Cx) (params : Arguments) (body : Expr) (scope : Scope) (pm : Value) (c' : Addr) (ctv : Value) : Obj := PySem.W.kla_obj "<lambda>" (X.env.qual ++ "<lambda>") params body scope (cloFrom X.env.cells scope.names []) pm c' ctv
section
variable {X : Cx} {pins : List (Addr × Obj)} {σ : L2.St} {H : Hp} {s : Shared} {CXg : CXT} {Eg : XK} {Ng : List Str} {qg a : Str} {sg scope : Scope} {g f c' : Addr} {cdg pm ctv : Value} {params : Arguments} {body : Expr} {k i : Nat} {pn : List (Addr × Obj)} {xe : Value → Shared → Prop} {W : WX} {E : XK} {tb : TE} {p1 p2 : Pos}
theorem lam_call (I : Inv X pins σ H s) (Ls : LamS X.env.scope scope) (there : s.heap.get? f = some (lamO X params body scope pm c' ctv)) (fresh : H f = none) (apart : f ∉ frs X.stack)
    (binds : bindArgs (PySem.W.kla_fn "<lambda>" (X.env.qual ++ "<lambda>") params body scope (cloFrom X.env.cells scope.names []) pm (.ref c') ctv) ⟨[], []⟩ = pure [])
    (tk : L2N.Takes ((cxG X CXg Eg Ng qg sg g cdg s H).tr pn xe) W) (hW : ∀ σ' : L2.St, σ'.length = Ng.length → ∀ cls d H', E cls d H' → W cls d σ' H') (room : Room (k + 1) (X.A.deeper (envG qg sg s g cdg)))
    (hbody : ∀ (sZ : Shared) (HZ : Hp), Room k (((X.A.deeper (envG qg sg s g cdg)).deeper (lamEnv X scope sZ.heap.objs.size f c'))) → PE (cxL X qg sg s g cdg scope f c' E sZ HZ) body tb)
    (hN : Ng[i]? = some a) (hv : Vis sg a) (hd : (a == ("__debug__" : Str)) = false) (hcd : (a == ("__classdict__" : Str)) = false) :
    PE ((cxG X CXg Eg Ng qg sg g cdg s H).tr pn xe) (.Call (.Name a p1) [] [] p2) (fun σZ HZ Q => σZ[i]? = some (some (.ref f)) ∧ HZ c' = some (CodeO c' (X.env.qual ++ "<lambda>")) ∧ tb σ HZ Q) := by
  constructor
  rintro pinsZ sZ σZ HZ Q IZ ⟨at_i, code, wish⟩
  have name := (pe_var (X := (cxG X CXg Eg Ng qg sg g cdg s H).tr pn xe) (pos := p1) (i := i) hN hv hd hcd).run pinsZ sZ σZ HZ (fun v H1 => v = V.ref f ∧ H1 = HZ) IZ ⟨V.ref f, at_i, rfl, rfl⟩
  refine wpAny_Call_Name_kw (thn name ?_)
  rintro u s1 ⟨_, H1, I1, rv, rfl, rfl⟩
  obtain rfl : u = Value.ref f := rv
  have still : s1.heap.get? f = some (lamO X params body scope pm c' ctv) := I1.base.keep f _ there fresh apart fun z => nomatch z
  have grew : Un (frs X.stack) [] H H1 s.heap s1.heap := I1.base
  obtain ⟨⟨oc, vs, t, c1, c2, c3⟩, _, _⟩ := I1.hok c' _ code
  refine PySem.W.callWith_F0 ⟨_, _, _, _, still⟩ ?_
  refine wpAny_call (codeAny_mono (R := CR (L2N.CX X.prog X.w) (envG qg sg s g cdg :: X.stack) X.prog X.w H1 s1 Q E) ?_ ?_)
  · refine PySem.W.kla_callFunE room.depth still rfl Ls.co Ls.gen rfl ⟨c', oc, vs, t, rfl, c1, c2, c3⟩ ?_
    show wpAny _ _ (bindArgs _ ⟨[], []⟩) _ _ _
    rw [binds]
    refine wpAny_pure (wpAny_newFunctionEnv (fun y hy => (Ls.own y hy).2) (fun y hy => absurd hy (by simp)) ?_ Ls.kind)
    intro h₁ hns hsb
    refine ⟨I1.nolimit.fresh _ hsb, ?_⟩
    have kept : ∀ b o, s1.heap.get? b = some o → h₁.get? b = some o := by
      intro b o e
      exact hsb.extBut b o (Nat.ne_of_lt (Heap.lt_size e)) (Heap.get?_push_of_some _ e)
    have begun : Inv (cxL X qg sg s g cdg scope f c' E s1 H1) [] σ H1 { s1 with heap := h₁, toks := s1.toks + ([] : List (Str × Value)).length } := (lam_start2 (E := E) I Ls I1.env0 room.hd grew hns kept).toTry _
    show codeAny _ _ (.expr body (lamEnv X scope s1.heap.objs.size f c')) _ _
    refine PySem.W.kla_codeExpr (wpAny_mono ((hbody s1 H1 (room.deeper _)).run [] _ _ H1 Q begun wish) ?_ fun _ _ left => left)
    rintro v s' ⟨w', H', J, r, q⟩
    exact ⟨w', H', J.os, J.bare, J.base, J.hok, r, q⟩
  · intro r s' ended
    cases r with
    | error e => exact tk e s' (L2N.XE.of_call I1 (fun cls d H' h => hW _ I1.len cls d H' h) ended)
    | ok fl => cases fl with
      | ret u => exact I1.after ended
      | next => exact ended.elim
      | brk => exact ended.elim
      | cont => exact ended.elim
end
section
variable {X : Cx} {pins : List (Addr × Obj)} {σ : L2.St} {H : Hp} {s : Shared}
theorem lam_new {c P : Addr} {params : Arguments} {body : Expr} {scope : Scope} {pos : Pos} {E Q : Value → Shared → Prop} (I : Inv X pins σ H s) (TB : TabB X.base X.mg c P) (code : X.env.code = .ref c) (tab : TabS H P (X.env.qual ++ "<lambda>"))
    (nodef : defaultsOf params X.env = ([], [])) (held : ∀ y ∈ scope.names, y.2 = .free → ∃ c, X.env.cells.lookup y.1 = some c)
    (h : ∀ (f c' : Addr) (pm ctv : Value) (H1 : Hp) (s' : Shared), Inv X pins σ H1 s' → (∀ b o, b ≠ P → H b = some o → H1 b = some o) → TabS H1 P (X.env.qual ++ "<lambda>") → s'.heap.get? f = some (lamO X params body scope pm c' ctv) → H1 f = none → f ∉ frs X.stack → H1 c' = some (CodeO c' (X.env.qual ++ "<lambda>")) → Q (.ref f) s') :
    wpAny (model X.prog X.w) X.A (eval (.Lambda params body scope pos) X.env) Q E s := by
  obtain ⟨ps, hP, trip, among⟩ := tab
  refine PySem.W.kla_eval nodef ?_
  have inB : s.heap.BuiltinsAt X.mg P := TB.bm.keeps I.bk
  have atP : s.heap.get? P = some { cls := .none, data := .fields ps } := I.hok P _ hP
  have noFrame : ∀ f, s.heap.objs.size ≤ f → f ∉ frs X.stack := by
    intro f hf z
    cases List.mem_cons.mp (I.stkSub _ z) with
    | inl e =>
      have lt := I.lt
      rw [← e] at lt
      exact absurd (Nat.lt_of_lt_of_le lt hf) (Nat.lt_irrefl _)
    | inr e => exact I.nofs hf e
  cases hc : codeAmong pos ps.toList with
  | some cv =>
    obtain ⟨c', rfl, known⟩ := among pos cv hc
    refine PySem.W.kla_makeFunctionHit (c := c) (P := P) (ps := ps) (mg := X.mg) (closure_ok held) I.ok.glob (I.mod.glob.keeps I.bk) code (TB.code.keeps I.bk) atP trip hc inB ?_
    intro ctv h' tk hx hsz
    exact h h'.objs.size c' ((X.mg "__name__").getD .none) ctv H _ (I.kept fun b o e => Heap.get?_push_of_some _ (hx b o e)) (fun b o _ e => e) ⟨ps, hP, trip, among⟩ (Heap.get?_push_size _ rfl) (I.hok.fresh hsz) (noFrame _ hsz) known
  | none =>
    refine PySem.W.kla_makeFunction (c := c) (P := P) (ps := ps) (mg := X.mg) (closure_ok held) I.ok.glob (I.mod.glob.keeps I.bk) code (TB.code.keeps I.bk) atP trip hc TB.gP inB ?_
    rintro c' ctv h' tk hx hge hlt ⟨c2, oc, vs, t, e2, hoc, hd, hv⟩ htb
    cases e2
    have big : s.heap.objs.size ≤ h'.objs.size := Nat.le_trans hge (Nat.le_of_lt hlt)
    have newC : H c' = none := I.hok.fresh hge
    have J := inv_table (t' := tk) (more := #[rawInt pos.line, rawInt pos.col, .ref c']) (h' := h'.push (lamO X params body scope ((X.mg "__name__").getD .none) c' ctv)) I hP (fun b o hb e => Heap.get?_push_of_some _ (hx b o hb e)) (Heap.get?_push_of_some _ htb) hge ⟨oc, vs, t, Heap.get?_push_of_some _ hoc, hd, hv⟩
    have rest : ∀ b o, b ≠ P → H b = some o → upd (upd H P (.tbl (ps ++ #[rawInt pos.line, rawInt pos.col, .ref c']))) c' (CodeO c' (X.env.qual ++ "<lambda>")) b = some o := by
      intro b o hb e
      rw [upd_ne (ne_of_none e newC), upd_ne hb]
      exact e
    refine h h'.objs.size c' ((X.mg "__name__").getD .none) ctv _ _ J rest ⟨_, by rw [upd_ne (ne_of_none hP newC), upd_same], ?_, ?_⟩ (Heap.get?_push_size _ rfl) ?_ (noFrame _ big) upd_same
    · rw [Array.toList_append]
      exact PySem.TriplesOk_snoc _ _ _ _ trip
    · intro p' cv hcv
      rw [Array.toList_append] at hcv
      cases among_app _ trip hcv with
      | inl z =>
        obtain ⟨c0, e1, e2⟩ := among p' cv z
        refine ⟨c0, e1, rest _ _ (fun y => ?_) e2⟩
        rw [y, hP] at e2
        exact codeO_ne ps (Option.some.inj e2).symm
      | inr z => exact ⟨c', z, upd_same⟩
    · have n1 : h'.objs.size ≠ c' := Nat.ne_of_gt hlt
      have n2 : h'.objs.size ≠ P := Nat.ne_of_gt (Nat.lt_of_lt_of_le (Heap.lt_size atP) big)
      rw [upd_ne n1, upd_ne n2]
      exact I.hok.fresh big
end
theorem RS0.table {K : PySem.W.Frag} {S : Sto} {H H1 : Hp} {P : Addr} {q : Str} (r : RS0 K S H) (e : S P = some (.tbl q)) (k : ∀ b o, b ≠ P → H b = some o → H1 b = some o) (t : TabS H1 P q) : RS0 K S H1 := by
  obtain ⟨ps, hP, _, _⟩ := r P _ e
  have keep : ∀ b o, H b = some o → (∀ ps, o ≠ .tbl ps) → H1 b = some o := fun b o hb n => k b o (fun z => by rw [z, hP] at hb; exact n ps (Option.some.inj hb).symm) hb
  have le : Le H H1 := ⟨fun b xs h => keep b _ h (fun _ z => nomatch z), fun b o u h => keep b _ h (fun _ z => nomatch z)⟩
  intro a c ea
  have ok := r a c ea
  cases c with
  | lst ds => obtain ⟨xs, h1, f⟩ := ok; exact ⟨xs, keep _ _ h1 (fun _ z => nomatch z), f.le le⟩
  | tab dss =>
    obtain ⟨as, h1, h2, h3⟩ := ok
    refine ⟨as, keep _ _ h1 (fun _ z => nomatch z), h2, fun m b ds e1 e2 => ?_⟩
    obtain ⟨e3, xs, e4, f⟩ := h3 m b ds e1 e2
    exact ⟨e3, xs, keep _ _ e4 (fun _ z => nomatch z), f.le le⟩
  | own p m =>
    obtain ⟨⟨xs, h1⟩, h2, as, h3, h4⟩ := ok
    exact ⟨⟨xs, keep _ _ h1 (fun _ z => nomatch z)⟩, h2, as, keep _ _ h3 (fun _ z => nomatch z), h4⟩
  | tbl q' =>
    by_cases z : a = P
    · subst z
      rw [e] at ea
      cases ea
      exact t
    · obtain ⟨ps', h1, h2, h3⟩ := ok
      refine ⟨ps', k _ _ z h1, h2, fun pos cv hcv => ?_⟩
      obtain ⟨c, e1, e2⟩ := h3 pos cv hcv
      exact ⟨c, e1, keep _ _ e2 codeO_ne⟩
theorem step_table {S : Sto} {H H1 : Hp} {P : Addr} {q : Str} (e : S P = some (.tbl q)) (k : ∀ b o, b ≠ P → H b = some o → H1 b = some o) : Step S S H H1 := fun b o hb n => ⟨k b o (fun z => by rw [z, e] at n; cases n) hb, n⟩
end ZL
namespace V
open PySem PySem.Spec
def saidM (XS : List Str) (post : PyData → M PyData) (W : Str → M PyData) (m : M PyData) : M PyData := fun s => match m [] with
  | .ok d _ => (match post d [] with | .ok d' _ => .ok d' s | _ => .bad)
  | .ex x _ => bif x.fs.isEmpty && XS.contains x.name then (match W x.name [] with | .ok d' _ => .ok d' s | _ => .bad) else .bad
  | .bad => .bad
end V
namespace ZL
open PySem PySem.Spec PyProof.Rows L2 V L2H LamX
def SaidR (XS : List Str) (post : PyData → M PyData) (W : Str → M PyData) (m : M PyData) (d' : PyData) : Prop := (∃ d s1 s2, m [] = .ok d s1 ∧ post d [] = .ok d' s2) ∨ ∃ n s1 s2, m [] = .ex ⟨n, []⟩ s1 ∧ n ∈ XS ∧ W n [] = .ok d' s2
theorem said_inv {XS : List Str} {post : PyData → M PyData} {W : Str → M PyData} {m : M PyData} {s : Cells} {Q : PyData → Cells → Prop} {E : Exn → Cells → Prop} (h : sat (saidM XS post W m s) Q E) : ∃ d', SaidR XS post W m d' ∧ Q d' s := by
  unfold saidM at h
  cases e : m [] with
  | bad => rw [e] at h; exact h.elim
  | ok d s1 =>
    rw [e] at h
    cases e2 : post d [] with
    | ok d' s2 => simp only [e2] at h; exact ⟨d', .inl ⟨d, s1, s2, e, e2⟩, h⟩
    | ex x s2 => simp only [e2] at h; exact h.elim
    | bad => simp only [e2] at h; exact h.elim
  | ex x s1 =>
    rw [e] at h
    cases b : x.fs.isEmpty && XS.contains x.name with
    | false => simp only [b, cond_false] at h; exact h.elim
    | true =>
      simp only [b, cond_true] at h
      rw [Bool.and_eq_true, List.isEmpty_iff, List.contains_iff_mem] at b
      cases e2 : W x.name [] with
      | ok d' s2 =>
        simp only [e2] at h
        obtain ⟨n, fs⟩ := x
        obtain ⟨rfl, hn⟩ := b
        exact ⟨d', .inr ⟨n, s1, s2, e, hn, e2⟩, h⟩
      | ex _ _ => simp only [e2] at h; exact h.elim
      | bad => simp only [e2] at h; exact h.elim
def FLam (C : Ct) (Ts : Tbs) (kl : Nat) (scope : Scope) (body : Expr) (ρ : VEnv) (m : M PyData) : Prop :=
  ∀ (qg : Str) (sg : Scope) (s : Shared) (g : Addr) (cdg : Value) (f c' : Addr) (E : XK) (sZ : Shared) (HZ : Hp) (B : Bs) (S : Sto) (EZ : XW),
    ((cxL C.X qg sg s g cdg scope f c' E sZ HZ).A.guards = some [] ∧ Gt Ts ⟨[], S⟩) → Room kl (cxL C.X qg sg s g cdg scope f c' E sZ HZ).A → Tk (cxL C.X qg sg s g cdg scope f c' E sZ HZ) B (fun _ x S => EZ x S) →
    FE ⟨cxL C.X qg sg s g cdg scope f c' E sZ HZ, B, ⟨[], S⟩, EZ⟩ body (VEnv.dat ρ) m
structure SaidD (P : Program) (w : World) (K : PySem.W.Frag) (mg : Str → Option Value) (base : Heap) (Ts : Tbs) (kl : Nat) (x : Str) (XS : List Str) (post : PyData → M PyData) (W : Str → M PyData) where
  (a fo e word y : Str) (ret : Expr) (pf pa pc pas pE pw pe pcw pr ph pt pr2 : Pos) (pg : Arguments) (sg : Scope) (g gw PE : Addr) (fdg fdw : FuncData) (kw : Nat)
  F : FunD K x x pg [.Try [.Assign [.Name fo pf] (.Call (.Name a pa) [] [] pc) pas] [.ExceptHandler (some (.Name "PlateError" pE)) (some e) [.Return (some (.Call (.Name word pw) [.Name e pe] [] pcw)) pr] ph] [] [] pt, .Return (some ret) pr2] sg [] [] g fdg
  Sc : FnScope [a, fo, e] [a] sg
  hm : mg x = some (.ref g)
  hb : Binds K fdg [a] []
  hW : FnX P w K mg base kw gw fdw y XS W
  hkl : kw ≤ kl + 1
  hmw : mg word = some (.ref gw)
  hkw : PySem.W.keepIn K (.ref gw) = true
  hbw : Binds K fdw [y] []
  hPE : mg "PlateError" = some (.ref PE)
  exm : ∀ n ∈ XS, ∀ D, mg n = some (.ref D) → PySem.W.exmOne K (.ref D) (.ref PE) = some true
  la : sg.names.lookup a = some .local
  lf : sg.names.lookup fo = some .local
  le : sg.names.lookup e = some .local
  lP : sg.names.lookup ("PlateError" : Str) = some .globalImplicit
  lw : sg.names.lookup word = some .globalImplicit
  da : (a == ("__debug__" : Str)) = false
  ca : (a == ("__classdict__" : Str)) = false
  de : (e == ("__debug__" : Str)) = false
  ce : (e == ("__classdict__" : Str)) = false
  dw : (word == ("__debug__" : Str)) = false
  hret : ∀ (cdv : Value) (A : Around) (outer : List PySem.Env) (s : Shared) (H : Hp) (E : XK) (B : Bs) (S : Sto), ((A.deeper (envOfC x sg s.heap.objs.size g cdv)).guards = some [] ∧ Gt Ts ⟨[], S⟩) → Room (kl + 1) (A.deeper (envOfC x sg s.heap.objs.size g cdv)) →
    ∀ d, FE ⟨cxOf (L2N.CX P w) P w K mg base [a, fo, e] x sg g cdv A outer s H E, B, ⟨[], S⟩, noW⟩ ret [none, some (.d d), none] (post d)
section
variable {C : Ct} {ρ : VEnv} {Ts : Tbs} {kl : Nat} {x : Str} {XS : List Str} {post : PyData → M PyData} {Wm : Str → M PyData} {m : M PyData} {c P : Addr} {params : Arguments} {body : Expr} {scope : Scope} {p lpos pos : Pos} {d' : PyData} {ps : List Addr} {sc : Cells}
theorem ze_said (G : SaidD C.X.prog C.X.w C.X.K C.X.mg C.X.base Ts kl x XS post Wm) (TB : TabB C.X.base C.X.mg c P) (code : C.X.env.code = .ref c) (inT : (P, C.X.env.qual ++ "<lambda>") ∈ Ts) (hG : C.X.A.guards = some [] ∧ Gt Ts C.G) (hr : Room (kl + 2) C.X.A) (Ls : LamS C.X.env.scope scope)
    (nodef : defaultsOf params C.X.env = ([], [])) (binds : ∀ (q : Str) (cl : List (Str × Addr)) (pm cv ctv : Value), bindArgs (PySem.W.kla_fn "<lambda>" q params body scope cl pm cv ctv) ⟨[], []⟩ = pure []) (hbody : FLam C Ts kl scope body ρ m) (hres : SaidR XS post Wm m d') (hg : Gl C.X x) (hdb : (x == ("__debug__" : Str)) = false) :
    ZE C.X C.B (.Call (.Name x p) [.Lambda params body scope lpos] [] pos) (fun ρ0 S0 Q0 => ρ0 = VEnv.den ps ρ ∧ Rel C.G ps sc S0 ∧ ∀ S', Rel C.G ps sc S' → Q0 (.d d') S') := by
  refine ⟨fun q w => ⟨w.1, w.2.1, fun S' r => q _ _ (w.2.2 S' r)⟩, ⟨?_⟩⟩
  rintro pins s0 σ H Q I ⟨ρ0, S, hE, hS, rfl, r, q⟩
  obtain ⟨a, fo, e, word, y, ret, pf, pa, pc, pas, pE, pw, pe, pcw, pr, ph, pt, pr2, pg, sg, g, gw, pE2, fdg, fdw, kw, F, Sg, hm, hb, hW, hkl, hmw, hkw, hbw, hPE, exm, la, lf, le, lP, lw, da, ca, de, ce, dw, hret⟩ := G
  have isT : S P = some (.tbl (C.X.env.qual ++ "<lambda>")) := hG.2.now r _ inT
  refine wpAny_Call_Name_kw (ld_glob I hg hm ?_ hdb)
  refine PySem.W.callWith_K (h₀ := C.X.base) I.ok.mod.kin F.kp ?_ (by rfl) (by rfl)
  show wpAny _ _ (spliced ((false, eval (.Lambda params body scope lpos) C.X.env) :: backTo pos (starEach [] C.X.env))) _ _ s0
  refine Calls.spliced_cons (lam_new I TB code (hS.1 P _ isT) nodef (Ls.has I.ok) ?_)
  intro f c' pm ctv H1 s1 I1 keep tab1 there fresh apart code1
  refine Calls.spliced_nil ⟨I1.kIn, ?_⟩
  have rs1 : RS0 C.X.K S H1 := hS.1.table isT keep tab1
  have st1 : Step S S H H1 := step_table isT keep
  have E1 : RE C.X.K H1 (VEnv.den ps ρ) σ := hE.le (st1.le hS.1)
  obtain ⟨oc, od, dV, kV, doc, pm2, an, cdv, ct, osl, rfl, lk, hcd, _, _⟩ := F.ex
  have bind1 := hb s1 [.ref f] I1.kIn rfl
  rw [List.append_nil] at bind1
  refine wpAny_call (codeAny_mono (R := CR (L2N.CX C.X.prog C.X.w) C.X.stack C.X.prog C.X.w H1 s1 Q fun _ _ _ => False) (run_ofS (E := fun _ _ _ => False) (N := [a, fo, e]) (ps := [a]) (us := [.ref f]) (vs := [V.ref f]) lk hcd Sg hr I1.env0 bind1 (.cons rfl .nil) rfl ?_) ?_)
  · intro room
    have done : ∀ S2 S' H2 H' (v : L2.V), Grow S S2 → OwnOk S2 → Step S S2 H1 H2 → Rel ⟨[], S2⟩ [] [] S' → Step S2 S' H2 H' → RZ C.X.K H' v (.d d') → RS0 C.X.K S' H' → Q v H' := by
      intro S2 S' H2 H' v g o st hR st' rz rs
      have step := (st1.trans st).trans st'
      exact q S' ((r.grow g o).grow (rel0_grow hR) hR.owS) v H' step rz (hS.step rs step)
    have EZ : ∃ EZ : XW, EZ = fun zx S2 => (∃ y s2, m [] = .ex y s2 ∧ XR C.X.mg y zx) ∧ Grow S S2 ∧ OwnOk S2 := ⟨_, rfl⟩
    obtain ⟨EZ, eEZ⟩ := EZ
    have Ech : ∃ Ech : XK, Ech = fun cls d H2 => ∃ n D S2 s2 s3, cls = Value.ref D ∧ d = none ∧ n ∈ XS ∧ C.X.mg n = some (.ref D) ∧ Wm n [] = .ok d' s3 ∧ m [] = .ex ⟨n, []⟩ s2 ∧ RS C.X.K ⟨S, H1⟩ S2 H2 ∧ Grow S S2 ∧ OwnOk S2 := ⟨_, rfl⟩
    obtain ⟨Ech, eEch⟩ := Ech
    let D0 : Ends := { nx := fun _ H' => Q .non H', rt := Q }
    let Z0 : Cx := cxG C.X (L2N.CX C.X.prog C.X.w) (fun _ _ _ => False) [a, fo, e] x sg g cdv s1 H1
    let B1 : Bs := ⟨S, H1⟩
    let tR : TE := low C.X.K B1 (WE Z0 B1 ret)
    let tbL : TE := low C.X.K B1 fun ρ0 S0 Q0 => ∀ (sZ : Shared) (HZ : Hp), Room kl (cxL C.X x sg s1 g cdv scope f c' Ech sZ HZ).A → WE (cxL C.X x sg s1 g cdv scope f c' Ech sZ HZ) B1 body ρ0 S0 Q0
    let TB1 : WX → TS := fun W D σ2 H2 => (∀ σ', σ'.length = 3 → ∀ cls d H3, Ech cls d H3 → W cls d σ' H3) ∧ σ2[0]? = some (some (V.ref f)) ∧ H2 c' = some (CodeO c' (C.X.env.qual ++ "<lambda>")) ∧ tbL σ H2 fun v H3 => D.nx (σ2.set 1 (some v)) H3
    let TS1 : Addr → Value → Option Addr → TS := fun ae cls d D σ2 H2 => ∃ n D', n ∈ XS ∧ C.X.mg n = some (.ref D') ∧ cls = .ref D' ∧ d = none ∧ low C.X.K B1 (zCallX 2 ae (Wm n)) σ2 H2 D.rt
    refine ⟨_, pss_cons (L2N.ps_try_as (X := Z0) (c := .ref pE2) (i := 2) (tb := TB1) (ts := TS1) (Wout := fun _ _ _ _ => False) rfl rfl Sg.nd rfl le ⟨lP, by decide, .inl hPE⟩ takes0N ?_ ?_) (pss_one (ps_ret (we_ze (X := Z0) (B := B1) (e := ret)).pe)), ?_⟩
    · intro W pn xe tk _
      refine ⟨fun pinsZ sZ σZ HZ D IZ hZ => ?_⟩
      obtain ⟨hW2, h0, h1, h2⟩ := hZ
      have call := lam_call (CXg := L2N.CX C.X.prog C.X.w) (Eg := fun _ _ _ => False) (Ng := [a, fo, e]) (i := 0) (p1 := pa) (p2 := pc) (E := Ech) (tb := tbL) I1 Ls there fresh apart (binds _ _ _ _ _) tk hW2 room (fun sZ HZ room2 => PE.imp (we_ze (B := B1)).pe fun σ H Q ⟨ρ0, S0, a1, a2, a3⟩ => ⟨ρ0, S0, a1, a2, a3 sZ HZ room2⟩) rfl (.inl la) da ca
      exact (pss_one (ps_set (i := 1) (pos' := pf) (pos := pas) Sg.nd rfl (.inl lf) call rfl (.inl rfl))).run pinsZ sZ σZ HZ D IZ ⟨h0, h1, h2⟩
    · intro ae oe cls d pn hz hv
      refine ⟨fun pinsZ sZ σZ HZ D IZ hZ => ?_⟩
      obtain ⟨n, D', hn, e1, rfl, rfl, w⟩ := hZ
      have roomW : RoomH kw (Z0.suite ae ((ae, oe) :: pn)).A := by
        have h := (roomH_of room).mono hkl
        exact ⟨h.dp, h.un⟩
      exact (pss_one (ps_ret (ze_callX (X := Z0.suite ae ((ae, oe) :: pn)) (B := B1) (a := ae) (n := n) hW roomW hmw hkw hbw hn ⟨oe, List.mem_cons_self, D', e1, hz.1, hz.2.1, hv⟩ 2 rfl (.inl le) de ce lw dw).pe)).run pinsZ sZ σZ HZ D IZ w
    · show TB1 _ _ _ _
      refine ⟨?_, rfl, code1, VEnv.den ps ρ, S, E1, ⟨rs1, .refl _ _⟩, ?_⟩
      · intro σ' hl cls d H3 hch
        subst eEch
        obtain ⟨n, D, S2, s2, s3, rfl, rfl, hn, e1, e2, e3, rS, g1, o1⟩ := hch
        refine ⟨true, exm n hn D e1, fun _ ae na => ⟨n, D, hn, e1, rfl, rfl, ?_⟩, fun z => nomatch z⟩
        obtain ⟨x0, x1, x2, rfl⟩ : ∃ x0 x1 x2, σ' = [x0, x1, x2] := by
          match σ', hl with
          | [x0, x1, x2], _ => exact ⟨x0, x1, x2, rfl⟩
        refine ⟨[none, none, some (.r ae)], S2, .non (.non (.val (.r ae) .nil)), rS, rfl, o1, d', s3, e2, fun S' hR v H' st rz rs => ?_⟩
        exact done S2 S' H3 H' v g1 o1 rS.2 hR st rz rs.1
      · intro sZ HZ room2
        have tkL : Tk (cxL C.X x sg s1 g cdv scope f c' Ech sZ HZ) B1 (fun _ zx S2 => EZ zx S2) := by
          refine (L2N.takes_of (E := Ech) rfl rfl rfl rfl).imp ?_
          rintro cl d σ2 H2 ⟨ρ2, zx, S2, _, rx, rS, hz⟩
          subst eEZ eEch
          obtain ⟨⟨yx, s2, em, xr⟩, g1, o1⟩ := hz
          cases rx
          rcases hres with ⟨dd, t1, t2, e1, _⟩ | ⟨n, t1, t2, e1, hn, e2⟩
          · rw [e1] at em; cases em
          · rw [e1] at em
            cases em
            exact ⟨n, _, S2, _, _, rfl, rfl, hn, xr.1, e2, e1, rS, g1, o1⟩
        have gt0 : Gt Ts ⟨[], S⟩ := ⟨hG.2.now r, fun _ _ z => nomatch z⟩
        refine WE.forget (dat_fg ps ρ) (hbody x sg s1 g cdv f c' Ech sZ HZ B1 S EZ ⟨hG.1, gt0⟩ room2 tkL [] [] S _ (rel0 r.owS) ?_)
        subst eEZ
        cases em : m [] with
        | bad => rcases hres with ⟨dd, t1, t2, e1, _⟩ | ⟨n, t1, t2, e1, hn, e2⟩ <;> (rw [em] at e1; cases e1)
        | ex yx s2 =>
          intro zx ps' S2 r2 xr
          exact ⟨⟨yx, s2, by first | exact em | rfl, xr⟩, fun b cb eb => r2.fr b cb (by simp) eb, r2.owS⟩
        | ok dd s2 =>
          intro S2 r2 v H2 st rz rS
          rcases hres with ⟨dd', t1, t2, e1, e2⟩ | ⟨n, t1, t2, e1, hn, e2⟩
          · rw [em] at e1
            cases e1
            have g1 := rel0_grow r2
            refine ⟨[none, some (.d dd), none], S2, .non (.val rz (.non .nil)), rS, ?_⟩
            have gt2 : Gt Ts ⟨[], S2⟩ := ⟨fun z hz => g1 _ _ (gt0.at_ z hz), fun _ _ z => nomatch z⟩
            refine hret cdv C.X.A C.X.stack s1 H1 (fun _ _ _ => False) B1 S2 ⟨hG.1, gt2⟩ room dd [] [] S2 _ (rel0 r2.owS) ?_
            rw [e2]
            intro S' r3 v2 H' st2 rz2 rs2
            have : t2 = [] := List.eq_nil_of_length_eq_zero r3.len.symm
            subst this
            exact done S2 S' H2 H' v2 g1 r2.owS st r3 st2 rz2 rs2.1
          · rw [em] at e1; cases e1
  · intro r' s' ended
    cases r' with
    | error e' =>
      obtain ⟨_, _, _, _, _, _, _, _, _, _, _, _, z⟩ := ended
      exact z.elim
    | ok fl => cases fl with
      | ret u => exact I1.after ended
      | next => exact ended.elim
      | brk => exact ended.elim
      | cont => exact ended.elim
theorem f_said (G : SaidD C.X.prog C.X.w C.X.K C.X.mg C.X.base Ts kl x XS post Wm) (TB : TabB C.X.base C.X.mg c P) (code : C.X.env.code = .ref c) (inT : (P, C.X.env.qual ++ "<lambda>") ∈ Ts) (hG : C.X.A.guards = some [] ∧ Gt Ts C.G) (hr : Room (kl + 2) C.X.A) (hbody : FLam C Ts kl scope body ρ m) (Ls : lamSB C.X.env.scope scope = true := by first | rfl | decide +kernel)
    (nodef : defaultsOf params C.X.env = ([], []) := by rfl) (binds : ∀ (q : Str) (cl : List (Str × Addr)) (pm cv ctv : Value), bindArgs (PySem.W.kla_fn "<lambda>" q params body scope cl pm cv ctv) ⟨[], []⟩ = pure [] := by intros; rfl) (hg : Gl C.X x := by rfl) (hdb : (x == ("__debug__" : Str)) = false := by decide) :
    FE C (.Call (.Name x p) [.Lambda params body scope lpos] [] pos) ρ (saidM XS post Wm m) := by
  intro ps s S Q r w
  obtain ⟨d', hres, q⟩ := said_inv w
  exact (ze_said (ps := ps) (sc := s) G TB code inT hG hr (lamS_by Ls) nodef binds hbody hres hg hdb).we ⟨rfl, r, q⟩
end
end ZL
namespace ZL
open PySem PySem.Spec PyProof.Rows L2 V LamX
def lamTs (K : PySem.W.Frag) (tf : List He.Defn) : Tbs := tf.map fun p => ((He.cT K p).2, p.1 ++ ".<locals>." ++ "<lambda>")
theorem lamTs_mem {K : PySem.W.Frag} {tf : List He.Defn} {x : Str} (h : (x, none) ∈ tf) : ((He.cT K (x, none)).2, x ++ ".<locals>." ++ "<lambda>") ∈ lamTs K tf := List.mem_map.mpr ⟨_, h, rfl⟩
theorem code_at {K : PySem.W.Frag} {x qual : Str} {params : Arguments} {body : List Stmt} {scope : Scope} {dvs : List L2.V} {kws : List (Str × L2.V)} {f : Addr} {fd : FuncData} {cdv : Value} (F : FunD K x qual params body scope dvs kws f fd) {y : Str} (hf : f = He.ga K y) (hcd : fd.code = cdv) : cdv = .ref (He.cT K (y, none)).1 := by
  obtain ⟨oc, od, dV, kV, doc, pm, an, cdv', ct, osl, rfl, lk, hc, _, _⟩ := F.ex
  obtain ⟨c, rfl⟩ := He.codeIn_ref hc
  subst hcd hf
  exact congrArg Value.ref (He.codeOf_eq (p := (y, none)) lk rfl).symm
def tbS (Ts : Tbs) : Sto := fun b => (Ts.lookup b).map .tbl
theorem look_tbl : ∀ {Ts : Tbs}, (Ts.map (·.1)).Nodup → ∀ x ∈ Ts, Ts.lookup x.1 = some x.2
  | [], _, _, h => by cases h
  | p :: r, nd, x, h => by
    rw [List.map_cons, List.nodup_cons] at nd
    by_cases e : x.1 = p.1
    · rcases List.mem_cons.mp h with rfl | h
      · simp [List.lookup]
      · exact absurd (List.mem_map.mpr ⟨x, h, e⟩) nd.1
    · rcases List.mem_cons.mp h with rfl | h
      · exact absurd rfl e
      · have ne : (x.1 == p.1) = false := by simpa using e
        rw [List.lookup_cons, ne]
        exact look_tbl nd.2 x h
theorem lk_mem {b : Addr} {q : Str} : ∀ {Ts : Tbs}, Ts.lookup b = some q → (b, q) ∈ Ts
  | [], h => by simp at h
  | p :: r, h => by
    rw [List.lookup_cons] at h
    split at h
    · rename_i e
      cases h
      rw [show b = p.1 by simpa using e]
      exact List.mem_cons_self
    · exact List.mem_cons_of_mem _ (lk_mem h)
theorem tbS_in {Ts : Tbs} (nd : (Ts.map (·.1)).Nodup) : TbIn Ts (tbS Ts) := fun x h => by unfold tbS; rw [look_tbl nd x h]; rfl
theorem tbS_some {Ts : Tbs} {b : Addr} {c : Cell} (h : tbS Ts b = some c) : ∃ q, c = .tbl q ∧ b ∈ Ts.map (·.1) := by
  unfold tbS at h
  obtain ⟨q, e, rfl⟩ := Option.map_eq_some_iff.mp h
  exact ⟨q, rfl, List.mem_map.mpr ⟨(b, q), lk_mem e, rfl⟩⟩
theorem vdueT {Ts : Tbs} {mg : Str → Option Value} {F : List PyData → M PyData} {ns : List Int} (nd : (Ts.map (·.1)).Nodup) (h : ∃ s', F [.list (ns.map PyData.int)] [] = .ok (.bool true) s') : VSp Ts mg [.k] false F [.k (ns.map PyData.int)] (tbS Ts) (fun z _ => z = zb true) fun _ _ => False := by
  obtain ⟨s', e⟩ := h
  have own : OwnOk (tbS Ts) := fun b a m h => by
    obtain ⟨q, z, _⟩ := tbS_some h
    cases z
  refine ⟨tbS_in nd, [.list (ns.map PyData.int)], [], [], fun _ h => (by cases h), rfl, rfl, rfl, rfl, rel0 own, ?_⟩
  rw [e]
  exact .inl ⟨rfl, fun _ _ => rfl⟩
section
variable {P : Program} {w : World} {K : PySem.W.Frag} {mg mb : Str → Option Value} {k : Nat} {fa a : Addr} {fd : FuncData} {x : Str} {Fm : List PyData → M PyData} {s₁ : Shared} {vs : List Value} {ns : List Int} {tf : List He.Defn}
theorem law_fromT (KX : K.In s₁.heap) (gl : s₁.heap.Ns mainGlobals mg) (bl : s₁.heap.Ns builtinsNs mb) (blt : ∀ x : Str, x ≠ "__name__" → mb x = bootBuiltins x) (lim : s₁.heap.NoLimit) (nog : s₁.gens = #[])
    (main : ∃ (bm : Addr) (ob : Obj), mg "__builtins__" = some (.ref bm) ∧ bm ≠ builtinsNs ∧ s₁.heap.get? bm = some ob ∧ ob.cls = .type "module" ∧ ob.dict = some builtinsNs ∧ ob.data = .plain)
    (hd : ∀ p ∈ tf, PySem.W.codeHdIn K (He.cT K p).1 (He.cT K p).2 = true) (out : ∀ p ∈ tf, K.lookup (He.cT K p).2 = none) (empty : ∀ p ∈ tf, s₁.heap.get? (He.cT K p).2 = some { cls := .none, data := .fields #[] }) (nd : ((lamTs K tf).map (·.1)).Nodup)
    (ha : s₁.heap.get? a = some { cls := .type "list", data := .seq vs.toArray }) (hI : IntsAre vs ns) (small : ns.length ≤ sizeLine) (room : Room k callerA)
    (F : ∀ base : Heap, K.In base → base.Ns mainGlobals mg → (∀ p ∈ tf, TabB base mg (He.cT K p).1 (He.cT K p).2) → ZFn P w K mg base k fa fd [x] (VSp (lamTs K tf) mg [.k] false Fm)) (bind : ∀ (s : Shared) (u : Value), BindsTo s fd ⟨[u], []⟩ [(x, u)])
    (due : ∃ s', Fm [.list (ns.map PyData.int)] [] = .ok (.bool true) s') :
    codeAny (model P w) callerA (.call (.ref fa) ⟨[.ref a], []⟩) (fun r s' => r = .ok (.ret (.bool true)) ∧ OldK s₁.heap s'.heap ∧ s'.os = s₁.os ∧ AllBare s'.gens) s₁ := by
  have rv := vals_ints hI
  have tabAt : ∀ b, b ∈ (lamTs K tf).map (·.1) → ∃ p ∈ tf, b = (He.cT K p).2 := by
    intro b hb
    obtain ⟨q, hq, rfl⟩ := List.mem_map.mp hb
    obtain ⟨p, hp, rfl⟩ := List.mem_map.mp hq
    exact ⟨p, hp, rfl⟩
  have tabIs : ∀ b, b ∈ (lamTs K tf).map (·.1) → s₁.heap.get? b = some { cls := .none, data := .fields #[] } := by
    intro b hb
    obtain ⟨p, hp, rfl⟩ := tabAt b hb
    exact empty p hp
  have scriptNo : a ∉ (lamTs K tf).map (·.1) := by
    intro z
    have e := tabIs a z
    rw [ha] at e
    cases e
  have core : ∀ H : Hp, (∀ b ∈ (lamTs K tf).map (·.1), H b = some (.tbl #[])) → (∀ b, b ∉ (lamTs K tf).map (·.1) → H b = none ∨ ∃ o xs, H b = some (.frz o (.lst xs))) → RZ K H (.ref a) (.k (ns.map PyData.int)) → HOk P w H s₁.heap → (∀ b, b ∉ (lamTs K tf).map (·.1) → H b ≠ none → b = a) → (H a ≠ none → K.lookup a = none) →
      codeAny (model P w) callerA (.call (.ref fa) ⟨[.ref a], []⟩) (fun r s' => r = .ok (.ret (.bool true)) ∧ OldK s₁.heap s'.heap ∧ s'.os = s₁.os ∧ AllBare s'.gens) s₁ := by
    intro H tabs only rz ok atA noK
    have seen : ∀ {b : Addr} {o : Obj}, s₁.heap.get? b = some o → (∀ us n, o.data ≠ .seq us n) → o.data ≠ .fields #[] → H b = none := by
      intro b o e h1 h2
      by_cases hb : b ∈ (lamTs K tf).map (·.1)
      · rw [tabIs b hb] at e
        cases e
        exact absurd rfl h2
      · cases q : H b with
        | none => rfl
        | some u =>
          obtain rfl := atA b hb (by rw [q]; exact fun z => nomatch z)
          rw [ha] at e
          cases e
          exact absurd rfl (h1 _ _)
    have keepNs : ∀ {b : Addr} {m : Str → Option Value}, s₁.heap.Ns b m → (hidT s₁.heap H).Ns b m := by
      rintro b m ⟨o, es, ep, e, d, r⟩
      exact ⟨o, es, ep, hidT_get e (seen e (fun _ _ z => by rw [d] at z; cases z) (fun z => by rw [d] at z; cases z)), d, r⟩
    have inBase : K.In (hidT s₁.heap H) := by
      intro b o e
      refine hidT_get (KX b o e) ?_
      by_cases hb : b ∈ (lamTs K tf).map (·.1)
      · obtain ⟨p, hp, rfl⟩ := tabAt b hb
        rw [out p hp] at e
        cases e
      · cases q : H b with
        | none => rfl
        | some u =>
          obtain rfl := atA b hb (by rw [q]; exact fun z => nomatch z)
          rw [noK (by rw [q]; exact fun z => nomatch z)] at e
          cases e
    have ground : Env0 P w K mg (hidT s₁.heap H) callerA [] s₁ H := by
      obtain ⟨mc, h1, h2⟩ := lim
      exact ⟨rfl, ⟨inBase, keepNs gl, ⟨mb, keepNs bl, blt⟩, mc, keepNs h1, h2⟩, fun b o e => of_hidT e, Nat.le_of_eq (hidT_size _ _), trivial, fun b hb => absurd (show b ∈ ([] : List Addr) from hb) (by simp), ok, AllBare.of_eq nog⟩
    have tabB : ∀ p ∈ tf, TabB (hidT s₁.heap H) mg (He.cT K p).1 (He.cT K p).2 := by
      intro p hp
      have isP := empty p hp
      refine ⟨PySem.W.codeHd_of_K inBase (hd p hp), ?_, ?_⟩
      · obtain ⟨bm, ob, b1, b2, b3, b4, b5, b6⟩ := main
        refine ⟨bm, ob, b1, b2, ?_, ?_, hidT_get b3 (seen b3 (fun _ _ z => by rw [b6] at z; cases z) (fun z => by rw [b6] at z; cases z)), b4, b5, b6⟩
        · intro z
          obtain ⟨o, es, ep, e, d, _⟩ := gl
          rw [z, e] at b3
          cases b3
          rw [d] at b6
          cases b6
        · intro z
          rw [z, isP] at b3
          cases b3
          cases b6
      · intro z
        obtain ⟨o, es, ep, e, d, _⟩ := gl
        rw [z, isP] at e
        cases e
        cases d
    have Fb := F _ inBase (keepNs gl) tabB
    have rs0 : RS0 K (tbS (lamTs K tf)) H := by
      intro b c e
      obtain ⟨q, rfl, hb⟩ := tbS_some e
      exact TabS.nil (tabs b hb)
    refine codeAny_mono (Fb.fn.run callerA [] s₁ H ⟨[.ref a], []⟩ [.ref a] [.ref a] (fun v _ => v = .bl true) (fun _ _ _ => False) rfl room ground (bind s₁ (.ref a)) (.cons rfl .nil) ⟨_, tbS (lamTs K tf), .cons rz .nil, rs0, Fb.mono (fun z S' ez v H' _ rz _ => ?_) (fun _ _ h => h.elim) (vdueT nd due)⟩) ?_
    · subst ez
      cases rz with | d rz => cases rz; rfl
    · intro r s' ended
      cases r with
      | error e =>
        obtain ⟨_, _, _, _, _, _, _, _, _, _, _, _, z⟩ := ended
        exact z.elim
      | ok fl =>
        cases fl with
        | next => exact ended.elim
        | brk => exact ended.elim
        | cont => exact ended.elim
        | ret u =>
          obtain ⟨v, H', os, bare, un, ok', rv', q⟩ := ended
          obtain rfl : v = .bl true := q
          obtain rfl : u = Value.bool true := rv'
          have same : ∀ b o, b ∉ (lamTs K tf).map (·.1) → s₁.heap.get? b = some o → s'.heap.get? b = some o := by
            intro b o nb e
            rcases only b nb with z | ⟨ob, xs, z⟩
            · exact un.keep b o e z (fun z => nomatch z) (fun z => nomatch z)
            · have after := (ok' b _ (un.frzs b ob _ z)).1
              have before := (ok b _ z).1
              rw [e] at before
              cases before
              exact after
          have grown : ∀ p ∈ tf, ∃ more : Array Value, s'.heap.get? (He.cT K p).2 = some { cls := .none, data := .fields more } := by
            intro p hp
            obtain ⟨more, z⟩ := un.tbls _ #[] (tabs _ (List.mem_map.mpr ⟨_, List.mem_map.mpr ⟨p, hp, rfl⟩, rfl⟩))
            exact ⟨_, ok' _ _ z⟩
          refine ⟨rfl, ⟨fun b o e => ?_, fun b o e => ?_⟩, os, bare⟩
          · by_cases hb : b ∈ (lamTs K tf).map (·.1)
            · obtain ⟨p, hp, rfl⟩ := tabAt b hb
              obtain ⟨more, z⟩ := grown p hp
              rw [empty p hp] at e
              cases e
              exact .inr (.inl ⟨((PySem.W.codeHd_of_K KX (hd p hp)).tab (empty p hp)).isCodeTable, rfl, #[], more, rfl, by rw [Array.empty_append]; exact z⟩)
            · exact .inl (same b o hb e)
          · by_cases hb : b ∈ (lamTs K tf).map (·.1)
            · obtain ⟨p, hp, rfl⟩ := tabAt b hb
              obtain ⟨more, z⟩ := grown p hp
              exact ⟨_, z⟩
            · exact ⟨o, same b o hb e⟩
  have pickT : ∀ (H0 : Hp) (b : Addr), b ∈ (lamTs K tf).map (·.1) → (fun c => if c ∈ (lamTs K tf).map (·.1) then some (HO.tbl #[]) else H0 c : Hp) b = some (.tbl #[]) := fun H0 b hb => if_pos hb
  have pickN : ∀ (H0 : Hp) (b : Addr), b ∉ (lamTs K tf).map (·.1) → (fun c => if c ∈ (lamTs K tf).map (·.1) then some (HO.tbl #[]) else H0 c : Hp) b = H0 b := fun H0 b hb => if_neg hb
  cases hk : K.lookup a with
  | some u =>
    have e := KX a u hk
    rw [ha] at e
    cases e
    refine core (fun c => if c ∈ (lamTs K tf).map (·.1) then some (HO.tbl #[]) else none) (pickT _) (fun b hb => .inl (pickN (fun _ => none) b hb)) (.k (.inr ⟨_, vs.toArray, _, hk, rfl, rfl, rfl, by rw [List.size_toArray, hI.length]; exact small, by simpa using rv⟩) (FzAll.ofInts ns)) (fun b u z => ?_) (fun b hb z => absurd (pickN (fun _ => none) b hb) z) (fun z => absurd (pickN (fun _ => none) a scriptNo) z)
    by_cases hb : b ∈ (lamTs K tf).map (·.1)
    · cases (if_pos hb).symm.trans z
      exact tabIs b hb
    · cases (if_neg hb).symm.trans z
  | none =>
    let H0 : Hp := fun c => if c = a then some (HO.frz { cls := .type "list", data := .seq vs.toArray } (.lst (ns.map V.int))) else none
    have at0 : H0 a = some (HO.frz { cls := .type "list", data := .seq vs.toArray } (.lst (ns.map V.int))) := if_pos rfl
    have not0 : ∀ b, b ≠ a → H0 b = none := fun b hb => if_neg hb
    refine core (fun c => if c ∈ (lamTs K tf).map (·.1) then some (HO.tbl #[]) else H0 c) (pickT H0) (fun b hb => ?_) (.k (.inl ⟨_, (pickN H0 a scriptNo).trans at0⟩) (FzAll.ofInts ns)) (fun b u z => ?_) (fun b hb z => ?_) (fun _ => hk)
    · rw [if_neg hb]
      by_cases e : b = a
      · exact .inr ⟨_, _, by rw [e]; exact at0⟩
      · exact .inl (not0 b e)
    · by_cases hb : b ∈ (lamTs K tf).map (·.1)
      · cases (if_pos hb).symm.trans z
        exact tabIs b hb
      · have z := (if_neg hb).symm.trans z
        by_cases e : b = a
        · subst e
          rw [show H0 b = _ from at0] at z
          cases z
          exact ⟨ha, by rw [List.length_map]; exact small, vs, _, rv, ha⟩
        · rw [not0 b e] at z
          cases z
    · refine Classical.byContradiction fun e => z ?_
      exact (pickN H0 b hb).trans (not0 b e)
end
theorem zwalkL {l : PySem.W.OpenLaw} {n k : Nat} {q : Program} {loose : List Str} {XP : (Str → Option Value) → Heap → Prop} {YP : World → Heap → Prop} {d : DefRec} {x : Str} (tf : List He.Defn)
    (hn : l.most = some n) (hn2 : n ≤ sizeLine) (hdf : d.params.defaults = []) (room : Room k callerA)
    (F : ∀ (w : World) (mg : Str → Option Value) (fa : Addr) (h : Heap), YP w h → h.Ns mainGlobals mg → mg d.name = some (.ref fa) →
      ∃ (K : PySem.W.Frag) (fd : FuncData) (Fm : List PyData → M PyData), K.In h ∧ ((∀ p ∈ tf, PySem.W.codeHdIn K (He.cT K p).1 (He.cT K p).2 = true) ∧ (∀ p ∈ tf, K.lookup (He.cT K p).2 = none) ∧ (∀ p ∈ tf, h.get? (He.cT K p).2 = some { cls := .none, data := .fields #[] }) ∧ ((lamTs K tf).map (·.1)).Nodup) ∧ (∀ (s : Shared) (u : Value), BindsTo s fd ⟨[u], []⟩ [(x, u)]) ∧
        (∀ ns : List Int, ns.length ≤ n → ∃ s', Fm [.list (ns.map PyData.int)] [] = .ok (.bool true) s') ∧ ∀ base : Heap, K.In base → base.Ns mainGlobals mg → (∀ p ∈ tf, TabB base mg (He.cT K p).1 (He.cT K p).2) → ZFn l.prog w K mg base k fa fd [x] (VSp (lamTs K tf) mg [.k] false Fm)) :
    PySem.W.WalkO q loose XP YP l.row.toRowW d [] (fun f vs => PySem.call f vs) := by
  refine Att.attach_call hn hdf ?_
  intro w s₀ s₁ mg mb fa o pm cd doc a vs ns G Y ho hd hcd hmg hobj hints hlen hg
  obtain ⟨K, fd, Fm, KX, ⟨t1, t2, t3, t4⟩, bind, due, FF⟩ := F w mg fa _ Y G.T.g hmg
  exact law_fromT KX G.T.g G.T.b G.T.builtins G.T.nolimit hg G.T.bmain t1 t2 t3 t4 hobj hints (Nat.le_trans hlen hn2) room FF bind (due ns hlen)
def exAll (ex : List (PySem.W.Frag → Bool)) (tf : List He.Defn) (K : PySem.W.Frag) : Bool := (ex.all fun b => b K) && nod (tf.map fun p => (He.cT K p).2)
theorem nod_nd : ∀ {l : List Nat}, nod l = true → l.Nodup
  | [], _ => List.nodup_nil
  | x :: r, h => by
    unfold nod at h
    rw [Bool.and_eq_true, Bool.not_eq_true'] at h
    exact List.nodup_cons.mpr ⟨fun z => by simp [z] at h, nod_nd h.2⟩
def SaysL (fa : List He.Fa) (fn : List He.DefD) (ex : List (PySem.W.Frag → Bool)) (tf : List He.Defn) (w : World) (h : Heap) (K : PySem.W.Frag) : Prop := He.SaysX fa fn [] tf (exAll ex tf) w h K
section
variable {fa : List He.Fa} {fn : List He.DefD} {ex : List (PySem.W.Frag → Bool)} {tf : List He.Defn} {w : World} {h : Heap} {K : PySem.W.Frag}
theorem SaysL.d (c : SaysL fa fn ex tf w h K) : He.SaysD fa fn K := He.SaysT.d (He.SaysX.t c)
theorem SaysL.x (c : SaysL fa fn ex tf w h K) (i : Nat) {f : PySem.W.Frag → Bool} (h : ex[i]? = some f := by rfl) : f K = true := by
  have c1 := (Bool.and_eq_true_iff.mp (He.SaysX.more c)).1
  exact List.all_eq_true.mp c1 f (List.mem_of_getElem? h)
theorem SaysL.tabs (c : SaysL fa fn ex tf w h K) : (∀ p ∈ tf, PySem.W.codeHdIn K (He.cT K p).1 (He.cT K p).2 = true) ∧ (∀ p ∈ tf, K.lookup (He.cT K p).2 = none) ∧ (∀ p ∈ tf, h.get? (He.cT K p).2 = some { cls := .none, data := .fields #[] }) ∧ ((lamTs K tf).map (·.1)).Nodup := by
  refine ⟨He.SaysX.hd c, He.SaysX.out c, He.SaysX.empty c, ?_⟩
  have c2 := (Bool.and_eq_true_iff.mp (He.SaysX.more c)).2
  have := nod_nd c2
  unfold lamTs
  rw [List.map_map]
  exact this
end
def excCB (K : PySem.W.Frag) (D : Addr) : Bool := decide (PySem.W.findIn K (.ref D) "__getattribute__" = some (some (.builtin "BaseException.__getattribute__"))) && (decide (PySem.W.findIn K (.ref D) "__getattr__" = some none) && (decide (PySem.W.subIn K (.ref D) (.type "BaseException") = some true) && (PySem.W.hasDictIn K D && (decide (PySem.W.findIn K (.ref D) "__class__" = some (some (.builtin "object.__class__"))) &&
  (decide (PySem.W.specialIn K (.builtin "object.__class__") "__get__" = some (some (.builtin "getset_descriptor.__get__"))) && (decide (PySem.W.takesIn K (.builtin "object.__class__") = some true) && decide (PySem.W.mroIn K D (.type "object") = some true)))))))
theorem excCB_ok {K : PySem.W.Frag} {D : Addr} (h : excCB K D = true) : ExcC K D := by
  unfold excCB at h
  simp only [Bool.and_eq_true, decide_eq_true_eq] at h
  obtain ⟨h1, h2, h3, h4, h5, h6, h7, h8⟩ := h
  exact ⟨h1, h2, h3, h4, h5, h6, h7, h8⟩
def exTabB (XS : List Str) (PE : Str) (K : PySem.W.Frag) : Bool := XS.all fun n => decide (PySem.W.nsIn K mainGlobals n = some (some (.ref (He.ga K n)))) && (excCB K (He.ga K n) && (decide (PySem.W.kitOne K (.ref (He.ga K n)) (.type "ValueError") = some true) && (decide (PySem.W.exmOne K (.ref (He.ga K n)) (.ref (He.ga K PE)) = some true) &&
  XS.all fun m => decide (PySem.W.kitOne K (.ref (He.ga K n)) (.ref (He.ga K m)) = some (decide (n = m))))))
theorem exTab_ok {K : PySem.W.Frag} {h : Heap} {mg : Str → Option Value} {XS : List Str} {PE : Str} (X : K.In h) (G : h.Ns mainGlobals mg) (c : exTabB XS PE K = true) : ExTab K mg XS ∧ ∀ n ∈ XS, ∀ D, mg n = some (.ref D) → PySem.W.exmOne K (.ref D) (.ref (He.ga K PE)) = some true := by
  unfold exTabB at c
  have c := List.all_eq_true.mp c
  have one : ∀ n ∈ XS, mg n = some (.ref (He.ga K n)) ∧ ExcC K (He.ga K n) ∧ PySem.W.kitOne K (.ref (He.ga K n)) (.type "ValueError") = some true ∧ PySem.W.exmOne K (.ref (He.ga K n)) (.ref (He.ga K PE)) = some true ∧ ∀ m ∈ XS, PySem.W.kitOne K (.ref (He.ga K n)) (.ref (He.ga K m)) = some (decide (n = m)) := by
    intro n hn
    have q := c n hn
    simp only [Bool.and_eq_true, decide_eq_true_eq, List.all_eq_true] at q
    obtain ⟨q1, q2, q3, q4, q5⟩ := q
    exact ⟨PySem.W.mg_of X G q1, excCB_ok q2, q3, q4, q5⟩
  refine ⟨⟨fun n hn => ⟨_, (one n hn).1, (one n hn).2.1, (one n hn).2.2.1⟩, fun n hn m hm D C e1 e2 => ?_⟩, fun n hn D e => ?_⟩
  · rw [(one n hn).1] at e1
    rw [(one m hm).1] at e2
    cases e1; cases e2
    exact (one n hn).2.2.2.2 m hm
  · rw [(one n hn).1] at e
    cases e
    exact (one n hn).2.2.2.1
end ZL
namespace V
open PySem PySem.Spec
def exNames : List Str := ["NoBalance", "NoDeed", "NoDeeds", "NoFirm", "NoFraction", "NoFrame", "NoHolding", "NoInner", "NoLine", "NoLoads", "NoLot", "NoMotions", "NoPiece", "NoPlate", "NoRest", "NoRounds", "NoRows", "NoStresses", "NoText", "NoThick", "NoTurning", "NoWay", "NoWays", "NoWhole", "NotHeld", "TooMany"]
end V
namespace ZL
open PySem PySem.Spec PyProof.Rows L2 V L2H
theorem f_bad {C : Ct} {e : Expr} {ρ : VEnv} : FE C e ρ bad := fun ps s S Q r w => w.elim
theorem room65H {k : Nat} {A : Around} (h : RoomH k A) : A.units + 65 < cLine := by have := h.un; omega
theorem units64H {k : Nat} {A : Around} (h : RoomH k A) : A.units + 64 < cLine := by have := h.un; omega
def indexO : PyData → List PyData → Option PyData
  | .list xs, [y] => if SeqAt.shaped y && SeqAt.shaped (.list xs) then (xs.findIdx? fun z => PyData.eqv z y).map fun (j : Nat) => .int (j : Int) else none
  | _, _ => none
theorem mt_indexO {X : Cx} (hu : X.A.units + 65 < cLine) : MtD X "list.index" indexO := by
  intro pins s σ H x xs v us Q I rx rxs h
  obtain ⟨d, ds, y, f, fs, e, q⟩ := h
  unfold indexO at e
  split at e
  · rename_i zs y
    split at e
    · rename_i hc
      rw [Bool.and_eq_true] at hc
      obtain ⟨j, ej, rfl⟩ := Option.map_eq_some_iff.mp e
      obtain ⟨hj, h1, h2⟩ := List.findIdx?_eq_some_iff_getElem.mp ej
      cases fs with | cons f1 ft =>
      cases ft
      have fd := f.dp (noDict_of_shaped hc.2)
      cases f with | lst sq fa =>
      refine mt_indexD hu pins s σ H _ _ v us Q I rx rxs ⟨_, _, y, zs, j, zs[j], rfl, rfl, fd, f1.dp (noDict_of_shaped hc.1), hc.2, hc.1, List.getElem?_eq_getElem hj, h1, fun m z' hm hz => ?_, q _ (.int _)⟩
      obtain ⟨hm', rfl⟩ := List.getElem?_eq_some_iff.mp hz
      exact Bool.not_eq_true _ ▸ h2 m hm
    · cases e
  · cases e
end ZL
namespace L
open PySem V ZL
def is_whole (a0 : PyData) : M PyData := V.frame 0 (fin ((andV (pure (isO .int a0)) (notV (pure (isO .bool a0)))) >>= fun x1 => pure (.rt x1)))
def divisor (a0 a1 : PyData) : M PyData := V.frame 0 (fin (((absM a0) >>= fun x8 => (absM a1) >>= fun x9 => (pure (x8, x9))) >>= fun u1 => (V.whileM (fun (t2 : PyData × PyData) => (gtM t2.2 (.int 0))) (fun (t2 : PyData × PyData) => (((((fdivM t2.1 t2.2) >>= fun x4 => (mulM x4 t2.2)) >>= fun x5 => (subM t2.1 x5)) >>= fun x6 => (pure (t2.2, x6))) >>= fun u3 => (pure (.nx (u3.1, u3.2))))) fuel (u1.1, u1.2) >>= flk (fun (t2 : PyData × PyData) => ((pure t2.1) >>= fun x7 => pure (.rt x7))))))
def is_fraction (a0 : PyData) : M PyData := V.frame 0 (fin ((tOr (tNot ((pure (isO .tuple a0)) >>= toB)) (tOr ((lenM a0) >>= fun x6 => (neM x6 (.int 2))) (tNot (((((pure a0) >>= rowM) >>= fun xs2 => (comp pN yep (fun t1 => (sub [] (L.is_whole t1))) xs2) >>= fun ys4 => pure (.list ys4)) >>= fun x5 => (allM x5)) >>= toB)))) >>= fun b7 => bif b7 then ((pure (.bool false)) >>= fun x8 => pure (.rt x8)) else ((andV (ofB ((ixM a0 (.int 1)) >>= fun x12 => (gtM x12 (.int 0)))) (ofB (((ixM a0 (.int 0)) >>= fun x9 => (ixM a0 (.int 1)) >>= fun x10 => (sub [] (L.divisor x9 x10))) >>= fun x11 => (eqM x11 (.int 1))))) >>= fun x13 => pure (.rt x13))))
def law_cell_at (a0 a1 : PyData) : M PyData := V.frame 0 (fin (((lenM (.list (unl a0))) >>= fun x1 => (ltM a1 x1)) >>= fun b2 => bif b2 then ((ixM (.list (unl a0)) a1) >>= fun x3 => pure (.rt x3)) else ((pure (.int 0)) >>= fun x4 => pure (.rt x4))))
def law_state (a0 a1 : PyData) : M PyData := V.frame 0 (fin ((sub [] (L.law_cell_at (.list (unl a0)) a1)) >>= fun v1 => (((((powM (.int 10) (.int 18)) >>= fun x2 => (subM v1 x2)) >>= fun x3 => (maxM (.int 0) x3)) >>= fun x4 => ((modM v1 (.int 2147483629)) >>= fun x5 => (addM x5 (.int 1))) >>= fun x6 => (lstN [.d x4, .d x6, .d (.int 0)])) >>= fun xs7 => pure (.rt (.list xs7)))))
def law_choice (a0 : PyData) : M PyData := V.frame 0 (fin (((getC 0 >>= fun xs1 => (ixM (.list xs1) (.int 0))) >>= fun x2 => (gtM x2 (.int 0))) >>= fun b3 => bif b3 then (((getC 0 >>= fun xs5 => (ixM (.list xs5) (.int 0))) >>= fun x6 => (modM x6 a0)) >>= fun v4 => (((getC 0 >>= fun xs7 => (ixM (.list xs7) (.int 0))) >>= fun x8 => (fdivM x8 a0)) >>= fun v10 => (pure (.int 0)) >>= fun x11 => putC 0 x11 v10 >>= fun _ => ((pure v4) >>= fun x9 => pure (.rt x9)))) else (((getC 0 >>= fun xs12 => (ixM (.list xs12) (.int 2))) >>= fun x13 => (addM x13 (.int 1))) >>= fun v40 => (pure (.int 2)) >>= fun x41 => putC 0 x41 v40 >>= fun _ => ((((((getC 0 >>= fun xs14 => (ixM (.list xs14) (.int 1))) >>= fun x15 => (mulM x15 (.int 48271))) >>= fun x16 => (addM x16 (.int 29))) >>= fun x17 => (getC 0 >>= fun xs18 => (ixM (.list xs18) (.int 2))) >>= fun x19 => (addM x17 x19)) >>= fun x20 => (modM x20 (.int 2147483647))) >>= fun v38 => (pure (.int 1)) >>= fun x39 => putC 0 x39 v38 >>= fun _ => ((((((getC 0 >>= fun xs22 => (ixM (.list xs22) (.int 1))) >>= fun x23 => (getC 0 >>= fun xs24 => (ixM (.list xs24) (.int 1))) >>= fun x25 => (mulM x23 x25)) >>= fun x26 => ((getC 0 >>= fun xs27 => (ixM (.list xs27) (.int 1))) >>= fun x28 => (mulM (.int 39373) x28)) >>= fun x29 => (addM x26 x29)) >>= fun x30 => (addM x30 (.int 7))) >>= fun x31 => (modM x31 (.int 2147483629))) >>= fun v21 => ((((mulM v21 v21) >>= fun x33 => (mulM (.int 50021) v21) >>= fun x34 => (addM x33 x34)) >>= fun x35 => (modM x35 (.int 2147483587))) >>= fun v32 => (((fdivM v32 (.int 8)) >>= fun x36 => (modM x36 a0)) >>= fun x37 => pure (.rt x37))))))))
def law_low (a0 a1 : PyData) : M PyData := V.frame 0 (fin (((absM a0) >>= fun x11 => (absM a1) >>= fun x12 => (pure (x11, x12))) >>= fun u1 => (V.whileM (fun (t2 : PyData × PyData) => (gtM t2.2 (.int 0))) (fun (t2 : PyData × PyData) => (((modM t2.1 t2.2) >>= fun x4 => (pure (t2.2, x4))) >>= fun u3 => (pure (.nx (u3.1, u3.2))))) fuel (u1.1, u1.2) >>= flk (fun (t2 : PyData × PyData) => ((((gtM a1 (.int 0)) >>= fun b6 => bif b6 then (fdivM a0 t2.1) else ((fdivM a0 t2.1) >>= fun x5 => (subM (.int 0) x5))) >>= fun x7 => ((absM a1) >>= fun x8 => (fdivM x8 t2.1)) >>= fun x9 => (tupK [.d x7, .d x9])) >>= fun x10 => pure (.rt x10))))))
def law_fraction : M PyData := V.frame 0 (fin (((sub [0] (L.law_choice (.int 19))) >>= fun x2 => (subM x2 (.int 9))) >>= fun v1 => ((sub [0] (L.law_choice (.int 5))) >>= fun v3 => ((ltM v3 (.int 3)) >>= fun b4 => bif b4 then ((((tupK [.d (.int 0), .d (.int 1)]) >>= fun x5 => (tupK [.d (.int 1), .d (.int 1)]) >>= fun x6 => (tupK [.d v1, .d (.int 1)]) >>= fun x7 => (lstK [.d x5, .d x6, .d x7])) >>= fun x8 => (ixM x8 v3)) >>= fun x9 => pure (.rt x9)) else (((((((powM (.int 10) (.int 12)) >>= fun x10 => (addM x10 (.int 7))) >>= fun x11 => (lstK [.d (.int 1), .d x11])) >>= fun x12 => ((ofB ((sub [0] (L.law_choice (.int 9))) >>= fun x13 => (eqM x13 (.int 0)))) >>= fun x14 => (intM x14)) >>= fun x15 => (ixM x12 x15)) >>= fun x16 => (mulM v1 x16)) >>= fun x17 => ((sub [0] (L.law_choice (.int 6))) >>= fun x18 => (addM (.int 1) x18)) >>= fun x19 => (sub [] (L.law_low x17 x19))) >>= fun x20 => pure (.rt x20))))))
def law_same (a0 a1 : PyData) : M PyData := V.frame 0 (fin ((ofB ((reprM a0) >>= fun x1 => (reprM a1) >>= fun x2 => (eqM x1 x2))) >>= fun x3 => pure (.rt x3)))
def law_odd : M PyData := V.frame 0 (fin (((negM (.int 1)) >>= fun x2 => (powM (.int 10) (.int 29)) >>= fun x3 => (tupK []) >>= fun x4 => (lstK []) >>= fun x5 => (pure (.dict [])) >>= fun x6 => (tupK [.d (.int 0), .d (.int 1)]) >>= fun x7 => (tupK [.d (.int 1), .d (.int 1)]) >>= fun x8 => (lstK [.d (.int 0), .d (.int 1)]) >>= fun x9 => (lstK [.d .none, .d (.bool true), .d (.bool false), .d (.int 0), .d (.int 1), .d x2, .d x3, .d (.str ""), .d (.str "a"), .d x4, .d x5, .d x6, .d x7, .d x8, .d x9])) >>= fun v1 => ((((((tupK [.d (.int 0), .d (.int 1)]) >>= fun x10 => (tupK [.d x10])) >>= fun x11 => (tupK [.d (.int 2), .d (.int 4)]) >>= fun x12 => (tupK [.d (.int 1), .d (.int 0)]) >>= fun x13 => (tupK [.d (.int 0), .d (.int 2)]) >>= fun x14 => (tupK [.d (.bool true), .d (.int 1)]) >>= fun x15 => (lstK [.d x11, .d x12, .d x13, .d x14, .d x15])) >>= fun x16 => (addM v1 x16)) >>= fun x17 => (sub [0] (L.law_choice (.int 20))) >>= fun x18 => (ixM x17 x18)) >>= fun x19 => pure (.rt x19))))
def law_whole (a0 : PyData) : M PyData := V.frame 0 (fin ((andV (pure (isO .int a0)) (notV (pure (isO .bool a0)))) >>= fun x1 => pure (.rt x1)))
def need_fraction (a0 : PyData) : M PyData := V.frame 0 (fin ((tNot ((sub [] (L.is_fraction a0)) >>= toB)) >>= fun b1 => bif b1 then (raise "NoFraction") else (pure (.nx ()))))
def less_by (a0 a1 : PyData) : M PyData := V.frame 0 (fin ((ofB (((ixM a0 (.int 0)) >>= fun x1 => (ixM a1 (.int 1)) >>= fun x2 => (mulM x1 x2)) >>= fun x3 => ((ixM a1 (.int 0)) >>= fun x4 => (ixM a0 (.int 1)) >>= fun x5 => (mulM x4 x5)) >>= fun x6 => (ltM x3 x6))) >>= fun x7 => pure (.rt x7)))
def need_two (a0 a1 : PyData) : M PyData := V.frame 0 (fin ((sub [] (L.need_fraction a0)) >>= fun _u2 => ((sub [] (L.need_fraction a1)) >>= fun _u1 => (pure (.nx ())))))
def less (a0 a1 : PyData) : M PyData := V.frame 0 (fin ((sub [] (L.need_two a0 a1)) >>= fun _u2 => ((sub [] (L.less_by a0 a1)) >>= fun x1 => pure (.rt x1))))
def is_within (a0 a1 a2 : PyData) : M PyData := V.frame 0 (fin ((andV (sub [] (L.is_whole a0)) (ofB (leM a1 a0 >>= fun b2 => bif b2 then (fun y1 => (leM y1 a2)) a0 else pure false))) >>= fun x3 => pure (.rt x3)))
def is_corner (a0 : PyData) : M PyData := V.frame 0 (fin ((tOr (tNot ((pure (isO .tuple a0)) >>= toB)) ((lenM a0) >>= fun x1 => (neM x1 (.int 2)))) >>= fun b2 => bif b2 then ((pure (.bool false)) >>= fun x3 => pure (.rt x3)) else (((((pure a0) >>= rowM) >>= fun xs5 => (comp pN yep (fun t4 => ((negM (.int 100)) >>= fun x6 => (sub [] (L.is_within t4 x6 (.int 100))))) xs5) >>= fun ys8 => pure (.list ys8)) >>= fun x9 => (allM x9)) >>= fun x10 => pure (.rt x10))))
def turn_of (a0 a1 a2 : PyData) : M PyData := V.frame 0 (fin (((((ixM a1 (.int 0)) >>= fun x1 => (ixM a0 (.int 0)) >>= fun x2 => (subM x1 x2)) >>= fun x3 => ((ixM a2 (.int 1)) >>= fun x4 => (ixM a0 (.int 1)) >>= fun x5 => (subM x4 x5)) >>= fun x6 => (mulM x3 x6)) >>= fun x7 => (((ixM a2 (.int 0)) >>= fun x8 => (ixM a0 (.int 0)) >>= fun x9 => (subM x8 x9)) >>= fun x10 => ((ixM a1 (.int 1)) >>= fun x11 => (ixM a0 (.int 1)) >>= fun x12 => (subM x11 x12)) >>= fun x13 => (mulM x10 x13)) >>= fun x14 => (subM x7 x14)) >>= fun x15 => pure (.rt x15)))
def sign_of (a0 : PyData) : M PyData := V.frame 0 (fin ((((ofB (gtM a0 (.int 0))) >>= fun x1 => (intM x1)) >>= fun x2 => ((ofB (ltM a0 (.int 0))) >>= fun x3 => (intM x3)) >>= fun x4 => (subM x2 x4)) >>= fun x5 => pure (.rt x5)))
def lies_in (a0 a1 a2 : PyData) : M PyData := V.frame 1 (fin ((((pure a1) >>= rowM) >>= fun xs2 => (comp pN yep (fun t1 => (ixM a0 t1)) xs2) >>= fun ys4 => pure (.list ys4)) >>= fun v6 => ofO ((pQ3 pN pN pN) v6) >>= fun u5 => ((ixM a0 a2) >>= fun v7 => ((((sub [] (L.turn_of u5.1 u5.2.1 v7)) >>= fun x8 => (sub [] (L.sign_of x8))) >>= fun x9 => ((sub [] (L.turn_of u5.2.1 u5.2.2 v7)) >>= fun x10 => (sub [] (L.sign_of x10))) >>= fun x11 => (lstN [.d x9, .d x11])) >>= fun xs20 => setC 0 xs20 >>= fun _ => ((getC 0 >>= fun _ => ((sub [] (L.turn_of u5.2.2 u5.1 v7)) >>= fun x12 => (sub [] (L.sign_of x12))) >>= fun x13 => appC 0 x13) >>= fun _u19 => ((notV (andV (ofB ((negM (.int 1)) >>= fun x16 => (getC 0 >>= fun xs17 => (inM false x16 (.list xs17))))) (ofB (getC 0 >>= fun xs15 => (inM false (.int 1) (.list xs15)))))) >>= fun x18 => pure (.rt x18)))))))
def sides_in (a0 : PyData) : M PyData := V.frame 0 (fin ((pure a0) >>= fun v2 => ofO ((pQ3 pN pN pN) v2) >>= fun u1 => (((tupK [.d u1.1, .d u1.2.1]) >>= fun x3 => (tupK [.d u1.1, .d u1.2.2]) >>= fun x4 => (tupK [.d u1.2.1, .d u1.2.2]) >>= fun x5 => (lstK [.d x3, .d x4, .d x5])) >>= fun x6 => pure (.rt x6))))
def are_crossing (a0 a1 a2 : PyData) : M PyData := V.frame 0 (fin ((((pure a1) >>= rowM) >>= fun xs2 => (comp pN yep (fun t1 => (ixM a0 t1)) xs2) >>= fun ys4 => pure (.list ys4)) >>= fun v6 => ofO ((pQ2 pN pN) v6) >>= fun u5 => ((((pure a2) >>= rowM) >>= fun xs8 => (comp pN yep (fun t7 => (ixM a0 t7)) xs8) >>= fun ys10 => pure (.list ys10)) >>= fun v12 => ofO ((pQ2 pN pN) v12) >>= fun u11 => (((((sub [] (L.turn_of u5.1 u5.2 u11.1)) >>= fun x13 => (sub [] (L.sign_of x13))) >>= fun x14 => ((sub [] (L.turn_of u5.1 u5.2 u11.2)) >>= fun x15 => (sub [] (L.sign_of x15))) >>= fun x16 => (mulM x14 x16)) >>= fun x17 => (negM (.int 1)) >>= fun x18 => (neM x17 x18)) >>= fun b19 => bif b19 then ((pure (.bool false)) >>= fun x20 => pure (.rt x20)) else ((ofB ((((sub [] (L.turn_of u11.1 u11.2 u5.1)) >>= fun x21 => (sub [] (L.sign_of x21))) >>= fun x22 => ((sub [] (L.turn_of u11.1 u11.2 u5.2)) >>= fun x23 => (sub [] (L.sign_of x23))) >>= fun x24 => (mulM x22 x24)) >>= fun x25 => (negM (.int 1)) >>= fun x26 => (eqM x25 x26))) >>= fun x27 => pure (.rt x27))))))
def are_thicks (a0 a1 : PyData) : M PyData := V.frame 0 (fin ((tOr (tNot ((pure (isO .tuple a1)) >>= toB)) ((lenM a1) >>= fun x1 => (neM x1 a0))) >>= fun b2 => bif b2 then ((pure (.bool false)) >>= fun x3 => pure (.rt x3)) else (((((pure a1) >>= rowM) >>= fun xs5 => (comp pN yep (fun t4 => (sub [] (L.is_within t4 (.int 1) (.int 9)))) xs5) >>= fun ys7 => pure (.list ys7)) >>= fun x8 => (allM x8)) >>= fun x9 => pure (.rt x9))))
def is_stuff (a0 : PyData) : M PyData := V.frame 0 (fin ((tOr (tNot ((pure (isO .tuple a0)) >>= toB)) ((lenM a0) >>= fun x1 => (neM x1 (.int 2)))) >>= fun b2 => bif b2 then ((pure (.bool false)) >>= fun x3 => pure (.rt x3)) else ((andV ((ixM a0 (.int 0)) >>= fun x5 => (sub [] (L.is_within x5 (.int 0) (.int 9)))) ((ixM a0 (.int 1)) >>= fun x4 => (sub [] (L.is_within x4 (.int 1) (.int 9))))) >>= fun x6 => pure (.rt x6))))
def need_piece (a0 a1 : PyData) : M PyData := V.frame 0 (fin ((tNot (((((ixM a0 (.int 1)) >>= fun x1 => (lenM x1)) >>= fun x2 => (subM x2 (.int 1))) >>= fun x3 => (sub [] (L.is_within a1 (.int 0) x3))) >>= toB)) >>= fun b4 => bif b4 then (raise "NoPiece") else (pure (.nx ()))))
def law_order (a0 : PyData) : M PyData := V.frame 2 (fin ((rgN (.int 0) a0) >>= fun xs12 => setC 1 xs12 >>= fun _ => (lstN []) >>= fun ys13 => setC 2 ys13 >>= fun _ => (V.whileM (fun (t1 : Unit) => ((lstK []) >>= fun x2 => (getC 1 >>= fun xs3 => (bif true then neM (.list xs3) x2 else eqM (.list xs3) x2)))) (fun (t1 : Unit) => ((getC 2 >>= fun _ => (getC 1 >>= fun _ => ((getC 1 >>= fun xs4 => (lenM (.list xs4))) >>= fun x5 => (sub [0] (L.law_choice x5))) >>= fun x6 => popC 1 x6) >>= fun x7 => appC 2 x7) >>= fun _u9 => (pure (.nx ())))) fuel () >>= flk (fun (t1 : Unit) => (lockC 2 >>= fun xs10 => ((pure (.list xs10)) >>= fun x11 => pure (.rt x11)))))))
def law_shapes : M PyData := V.frame 0 (fin ((((tupK [.d (.int 0), .d (.int 0)]) >>= fun x2 => (tupK [.d (.int 2), .d (.int 0)]) >>= fun x3 => (tupK [.d (.int 0), .d (.int 3)]) >>= fun x4 => (tupK [.d x2, .d x3, .d x4])) >>= fun x5 => ((tupK [.d (.int 0), .d (.int 1), .d (.int 2)]) >>= fun x6 => (tupK [.d x6])) >>= fun x7 => (tupK [.d x5, .d x7])) >>= fun v1 => ((((tupK [.d (.int 0), .d (.int 0)]) >>= fun x9 => (tupK [.d (.int 3), .d (.int 0)]) >>= fun x10 => (tupK [.d (.int 3), .d (.int 2)]) >>= fun x11 => (tupK [.d (.int 0), .d (.int 2)]) >>= fun x12 => (tupK [.d x9, .d x10, .d x11, .d x12])) >>= fun x13 => ((tupK [.d (.int 0), .d (.int 1), .d (.int 2)]) >>= fun x14 => (tupK [.d (.int 0), .d (.int 2), .d (.int 3)]) >>= fun x15 => (tupK [.d x14, .d x15])) >>= fun x16 => (tupK [.d x13, .d x16])) >>= fun v8 => ((((tupK [.d (.int 0), .d (.int 0)]) >>= fun x18 => (tupK [.d (.int 6), .d (.int 0)]) >>= fun x19 => (tupK [.d (.int 0), .d (.int 6)]) >>= fun x20 => (tupK [.d (.int 2), .d (.int 1)]) >>= fun x21 => (tupK [.d x18, .d x19, .d x20, .d x21])) >>= fun x22 => ((tupK [.d (.int 0), .d (.int 1), .d (.int 3)]) >>= fun x23 => (tupK [.d (.int 0), .d (.int 2), .d (.int 3)]) >>= fun x24 => (tupK [.d (.int 1), .d (.int 2), .d (.int 3)]) >>= fun x25 => (tupK [.d x23, .d x24, .d x25])) >>= fun x26 => (tupK [.d x22, .d x26])) >>= fun v17 => ((((tupK [.d (.int 0), .d (.int 0)]) >>= fun x28 => (tupK [.d (.int 2), .d (.int 1)]) >>= fun x29 => ((negM (.int 1)) >>= fun x30 => (tupK [.d (.int 2), .d x30])) >>= fun x31 => ((negM (.int 2)) >>= fun x32 => (tupK [.d x32, .d (.int 1)])) >>= fun x33 => ((negM (.int 3)) >>= fun x34 => (negM (.int 1)) >>= fun x35 => (tupK [.d x34, .d x35])) >>= fun x36 => (tupK [.d x28, .d x29, .d x31, .d x33, .d x36])) >>= fun x37 => ((tupK [.d (.int 0), .d (.int 1), .d (.int 2)]) >>= fun x38 => (tupK [.d (.int 0), .d (.int 3), .d (.int 4)]) >>= fun x39 => (tupK [.d x38, .d x39])) >>= fun x40 => (tupK [.d x37, .d x40])) >>= fun v27 => ((((tupK [.d (.int 0), .d (.int 0)]) >>= fun x42 => (tupK [.d (.int 2), .d (.int 0)]) >>= fun x43 => (tupK [.d (.int 0), .d (.int 2)]) >>= fun x44 => (tupK [.d (.int 4), .d (.int 0)]) >>= fun x45 => (tupK [.d (.int 6), .d (.int 1)]) >>= fun x46 => (tupK [.d (.int 4), .d (.int 3)]) >>= fun x47 => (tupK [.d x42, .d x43, .d x44, .d x45, .d x46, .d x47])) >>= fun x48 => ((tupK [.d (.int 0), .d (.int 1), .d (.int 2)]) >>= fun x49 => (tupK [.d (.int 3), .d (.int 4), .d (.int 5)]) >>= fun x50 => (tupK [.d x49, .d x50])) >>= fun x51 => (tupK [.d x48, .d x51])) >>= fun v41 => ((((tupK [.d (.int 0), .d (.int 0)]) >>= fun x53 => (tupK [.d (.int 0), .d (.int 2)]) >>= fun x54 => (tupK [.d (.int 2), .d (.int 0)]) >>= fun x55 => (tupK [.d (.int 3), .d (.int 2)]) >>= fun x56 => (tupK [.d (.int 5), .d (.int 0)]) >>= fun x57 => (tupK [.d x53, .d x54, .d x55, .d x56, .d x57])) >>= fun x58 => ((tupK [.d (.int 0), .d (.int 1), .d (.int 2)]) >>= fun x59 => (tupK [.d (.int 1), .d (.int 2), .d (.int 3)]) >>= fun x60 => (tupK [.d (.int 2), .d (.int 3), .d (.int 4)]) >>= fun x61 => (tupK [.d x59, .d x60, .d x61])) >>= fun x62 => (tupK [.d x58, .d x62])) >>= fun v52 => ((((tupK [.d (.int 0), .d (.int 0)]) >>= fun x64 => (tupK [.d (.int 2), .d (.int 0)]) >>= fun x65 => (tupK [.d (.int 0), .d (.int 3)]) >>= fun x66 => ((negM (.int 2)) >>= fun x67 => (tupK [.d x67, .d (.int 0)])) >>= fun x68 => ((negM (.int 1)) >>= fun x69 => (tupK [.d (.int 0), .d x69])) >>= fun x70 => (tupK [.d x64, .d x65, .d x66, .d x68, .d x70])) >>= fun x71 => ((tupK [.d (.int 0), .d (.int 1), .d (.int 2)]) >>= fun x72 => (tupK [.d (.int 0), .d (.int 2), .d (.int 3)]) >>= fun x73 => (tupK [.d (.int 0), .d (.int 3), .d (.int 4)]) >>= fun x74 => (tupK [.d (.int 0), .d (.int 1), .d (.int 4)]) >>= fun x75 => (tupK [.d x72, .d x73, .d x74, .d x75])) >>= fun x76 => (tupK [.d x71, .d x76])) >>= fun v63 => ((((tupK [.d (.int 0), .d (.int 0)]) >>= fun x78 => (tupK [.d (.int 1), .d (.int 2)]) >>= fun x79 => (tupK [.d (.int 2), .d (.int 0)]) >>= fun x80 => (tupK [.d (.int 3), .d (.int 2)]) >>= fun x81 => (tupK [.d (.int 4), .d (.int 0)]) >>= fun x82 => (tupK [.d (.int 5), .d (.int 3)]) >>= fun x83 => (tupK [.d x78, .d x79, .d x80, .d x81, .d x82, .d x83])) >>= fun x84 => ((tupK [.d (.int 0), .d (.int 1), .d (.int 2)]) >>= fun x85 => (tupK [.d (.int 2), .d (.int 3), .d (.int 4)]) >>= fun x86 => (tupK [.d (.int 3), .d (.int 4), .d (.int 5)]) >>= fun x87 => (tupK [.d x85, .d x86, .d x87])) >>= fun x88 => (tupK [.d x84, .d x88])) >>= fun v77 => ((lstK [.d v1, .d v8, .d v27, .d v41, .d v17, .d v52, .d v77, .d v63]) >>= fun x89 => pure (.rt x89)))))))))))
def law_row (a0 : PyData) : M PyData := V.frame 0 (fin ((((rangeM (.int 0) a0) >>= fun xs2 => (comp pN yep (fun t1 => (sub [0] (L.law_fraction))) xs2) >>= fun ys4 => pure (.list ys4)) >>= fun x5 => (tupleM x5)) >>= fun x6 => pure (.rt x6)))
def law_plate (a0 : PyData) : M PyData := V.frame 1 (fin ((((sub [] (L.law_shapes))) >>= fun x1 => (sub [0] (L.law_choice a0)) >>= fun x2 => (ixM x1 x2)) >>= fun v4 => ofO ((pQ2 pN pN) v4) >>= fun u3 => ((((sub [0] (L.law_choice (.int 3))) >>= fun x6 => (addM (.int 1) x6)) >>= fun x7 => ((sub [0] (L.law_choice (.int 5))) >>= fun x8 => (subM x8 (.int 2))) >>= fun x9 => ((sub [0] (L.law_choice (.int 5))) >>= fun x10 => (subM x10 (.int 2))) >>= fun x11 => (pure (x7, x9, x11))) >>= fun u5 => ((((sub [0] (L.law_choice (.int 7))) >>= fun x13 => (subM x13 (.int 3))) >>= fun x14 => ((sub [0] (L.law_choice (.int 41))) >>= fun x15 => (subM x15 (.int 20))) >>= fun x16 => ((sub [0] (L.law_choice (.int 9))) >>= fun x17 => (subM x17 (.int 4))) >>= fun x18 => (pure (x14, x16, x18))) >>= fun u12 => (((mulM u5.1 u12.1) >>= fun x19 => (mulM u5.2.1 u5.2.2) >>= fun x20 => (eqM x19 x20)) >>= fun b21 => (bif b21 then ((tupK [.d (.int 1), .d u5.2.1, .d (.int 0), .d (.int 1)]) >>= fun v24 => ofO ((pQ4 pN pN pN pN) v24) >>= fun u23 => (pure (.nx (u23.1, u23.2.1, u23.2.2.1, u23.2.2.2)))) else (pure (.nx (u5.1, u5.2.1, u5.2.2, u12.1)))) >>= flk (fun (t22 : PyData × PyData × PyData × PyData) => (((lenM u3.1) >>= fun x26 => (sub [0] (L.law_order x26))) >>= fun v25 => ((((tupK [.d (.int 0), .d (.int 0)]) >>= fun x27 => (lstK [.d x27])) >>= fun x28 => (lenM u3.1) >>= fun x29 => (repN x28 x29)) >>= fun xs73 => setC 1 xs73 >>= fun _ => ((enumM u3.1) >>= fun xs32 => V.forM (pT2 pN (pT2 pN pN)) (fun u31 (t30 : Unit) => (((((mulM t22.1 u31.2.1) >>= fun x33 => (mulM t22.2.1 u31.2.2) >>= fun x34 => (addM x33 x34)) >>= fun x35 => (addM x35 u12.2.1)) >>= fun x36 => (((mulM t22.2.2.1 u31.2.1) >>= fun x37 => (mulM t22.2.2.2 u31.2.2) >>= fun x38 => (addM x37 x38)) >>= fun x39 => (addM x39 u12.2.2)) >>= fun x40 => (tupK [.d x36, .d x40])) >>= fun v41 => (ixM v25 u31.1) >>= fun x42 => putC 1 x42 v41 >>= fun _ => (pure (.nx ())))) xs32 () >>= flk (fun (t30 : Unit) => (((((pure u3.2) >>= rowM) >>= fun xs45 => (comp pN yep (fun t44 => (((((pure t44) >>= rowM) >>= fun xs47 => (comp pN yep (fun t46 => (ixM v25 t46)) xs47) >>= fun ys49 => pure (.list ys49)) >>= fun x50 => (sortedM x50)) >>= fun x51 => (tupleM x51))) xs45) >>= fun ys53 => pure (.list ys53)) >>= fun x54 => (sortedM x54)) >>= fun v43 => (((((pure v43) >>= rowM) >>= fun xs57 => (comp pN yep (fun t56 => ((((lstK [.d (.int 9), .d (.int 2)]) >>= fun x58 => (sub [0] (L.law_choice (.int 2))) >>= fun x59 => (ixM x58 x59)) >>= fun x60 => (sub [0] (L.law_choice x60))) >>= fun x61 => (addM (.int 1) x61))) xs57) >>= fun ys63 => pure (.list ys63)) >>= fun x64 => (tupleM x64)) >>= fun v55 => (((getC 1 >>= fun xs65 => (tupleM (.list xs65))) >>= fun x66 => (tupleM v43) >>= fun x67 => ((sub [0] (L.law_choice (.int 10))) >>= fun x68 => ((sub [0] (L.law_choice (.int 9))) >>= fun x69 => (addM (.int 1) x69)) >>= fun x70 => (tupK [.d x68, .d x70])) >>= fun x71 => (tupK [.d x66, .d x67, .d v55, .d x71])) >>= fun x72 => pure (.rt x72))))))))))))))
def rises2 (a0 : PyData) : M PyData := V.frame 0 (fin (((((slL a0 (.int 1)) >>= fun x1 => (zipM a0 x1)) >>= fun xs3 => (comp (pT2 pN pN) yep (fun t2 => (ofB (ltM2 t2.1 t2.2))) xs3) >>= fun ys5 => pure (.list ys5)) >>= fun x6 => (allM x6)) >>= fun x7 => pure (.rt x7)))
def is_piece2 (a0 a1 : PyData) : M PyData := V.frame 0 (fin ((tOr (tNot ((pure (isO .tuple a1)) >>= toB)) ((lenM a1) >>= fun x1 => (neM x1 (.int 3)))) >>= fun b2 => bif b2 then ((pure (.bool false)) >>= fun x3 => pure (.rt x3)) else ((tOr (tNot (((((pure a1) >>= rowM) >>= fun xs5 => (comp pN yep (fun t4 => (((lenM a0) >>= fun x6 => (subM x6 (.int 1))) >>= fun x7 => (sub [] (L.is_within t4 (.int 0) x7)))) xs5) >>= fun ys9 => pure (.list ys9)) >>= fun x10 => (allM x10)) >>= toB)) (tNot ((sub [] (L.rises2 a1)) >>= toB))) >>= fun b11 => bif b11 then ((pure (.bool false)) >>= fun x12 => pure (.rt x12)) else ((((pure a1) >>= rowM) >>= fun xs14 => (comp pN yep (fun t13 => (ixM a0 t13)) xs14) >>= fun ys16 => pure (.list ys16)) >>= fun v18 => ofO ((pQ3 pN pN pN) v18) >>= fun u17 => ((ofB ((sub [] (L.turn_of u17.1 u17.2.1 u17.2.2)) >>= fun x19 => (neM x19 (.int 0)))) >>= fun x20 => pure (.rt x20))))))
def are_apart (a0 a1 : PyData) : M PyData := V.frame 0 (fin (((pure a1) >>= rowM) >>= fun xs3 => V.forM pN (fun u2 (t1 : Unit) => ((((((lenM a0) >>= fun x4 => (rangeM (.int 0) x4)) >>= fun xs6 => (comp pN (fun t5 => (inM true t5 u2)) (fun t5 => (sub [] (L.lies_in a0 u2 t5))) xs6) >>= fun ys8 => pure (.list ys8)) >>= fun x9 => (anyM x9)) >>= toB) >>= fun b10 => bif b10 then ((pure (.bool false)) >>= fun x11 => pure (.rt x11)) else (pure (.nx ())))) xs3 () >>= flk (fun (t1 : Unit) => ((((pure a1) >>= rowM) >>= fun xs14 => (comps pN yep (fun t13 => ((sub [] (L.sides_in t13)) >>= rowM) >>= fun xs16 => (comps pN yep (fun t15 => one1 (pure t15)) xs16)) xs14) >>= fun es17 => setSortM es17) >>= fun v12 => ((notV (((enumM v12) >>= fun xs19 => (comps (pT2 pN pN) yep (fun t18 => ((slH v12 t18.1) >>= rowM) >>= fun xs21 => (comps pN yep (fun t20 => one1 (sub [] (L.are_crossing a0 t18.2 t20))) xs21)) xs19) >>= fun es22 => shortM es22) >>= fun x23 => (anyM x23))) >>= fun x24 => pure (.rt x24))))))
def are_corners (a0 : PyData) : M PyData := V.frame 0 (fin ((tOr (tNot ((pure (isO .tuple a0)) >>= toB)) (tNot ((lenM a0) >>= fun x2 => (leM (.int 3) x2 >>= fun b3 => bif b3 then (fun y1 => (leM y1 (.int 30))) x2 else pure false)))) >>= fun b4 => bif b4 then ((pure (.bool false)) >>= fun x5 => pure (.rt x5)) else ((andV ((((pure a0) >>= rowM) >>= fun xs11 => (comp pN yep (fun t10 => (sub [] (L.is_corner t10))) xs11) >>= fun ys13 => pure (.list ys13)) >>= fun x14 => (allM x14)) (ofB (((pure a0) >>= rowM >>= fun es6 => setOfM es6 >>= fun es7 => setLenM es7) >>= fun x8 => (lenM a0) >>= fun x9 => (eqM x8 x9)))) >>= fun x15 => pure (.rt x15))))
def are_pieces2 (a0 a1 : PyData) : M PyData := V.frame 0 (fin ((tOr (tNot ((pure (isO .tuple a1)) >>= toB)) (tNot ((lenM a1) >>= fun x2 => (leM (.int 1) x2 >>= fun b3 => bif b3 then (fun y1 => (leM y1 (.int 40))) x2 else pure false)))) >>= fun b4 => bif b4 then ((pure (.bool false)) >>= fun x5 => pure (.rt x5)) else ((andV ((((pure a1) >>= rowM) >>= fun xs7 => (comp pN yep (fun t6 => (sub [] (L.is_piece2 a0 t6))) xs7) >>= fun ys9 => pure (.list ys9)) >>= fun x10 => (allM x10)) (sub [] (L.rises2 a1))) >>= fun x11 => pure (.rt x11))))
def is_plate (a0 : PyData) : M PyData := V.frame 0 (fin ((tOr (tNot ((pure (isO .tuple a0)) >>= toB)) ((lenM a0) >>= fun x1 => (neM x1 (.int 4)))) >>= fun b2 => bif b2 then ((pure (.bool false)) >>= fun x3 => pure (.rt x3)) else ((pure a0) >>= fun v5 => ofO ((pQ4 pN pN pN pN) v5) >>= fun u4 => ((tOr (tNot ((sub [] (L.are_corners u4.1)) >>= toB)) (tNot ((sub [] (L.are_pieces2 u4.1 u4.2.1)) >>= toB))) >>= fun b6 => bif b6 then ((pure (.bool false)) >>= fun x7 => pure (.rt x7)) else ((tOr (tNot (((lenM u4.2.1) >>= fun x8 => (sub [] (L.are_thicks x8 u4.2.2.1))) >>= toB)) (tNot ((sub [] (L.is_stuff u4.2.2.2)) >>= toB))) >>= fun b9 => bif b9 then ((pure (.bool false)) >>= fun x10 => pure (.rt x10)) else ((((pure u4.2.1) >>= rowM) >>= fun xs13 => (comps pN yep (fun t12 => ((pure t12) >>= rowM) >>= fun xs15 => (comps pN yep (fun t14 => one1 (pure t14)) xs15)) xs13) >>= fun es16 => setSortM es16) >>= fun v11 => ((andV (ofB (((lenM u4.1) >>= fun x17 => (rgL (.int 0) x17)) >>= fun x18 => (eqM v11 x18))) (sub [] (L.are_apart u4.1 u4.2.1))) >>= fun x19 => pure (.rt x19))))))))
def need_plate (a0 : PyData) : M PyData := V.frame 0 (fin ((tNot ((sub [] (L.is_plate a0)) >>= toB)) >>= fun b1 => bif b1 then (raise "NoPlate") else (pure (.nx ()))))
def thickened_by (a0 a1 a2 : PyData) : M PyData := V.frame 0 (fin ((pure a0) >>= fun v2 => ofO ((pQ4 pN pN pN pN) v2) >>= fun u1 => (((((slH u1.2.2.1 a1) >>= fun x3 => (tupK [.d a2]) >>= fun x4 => (addM x3 x4)) >>= fun x5 => ((addM a1 (.int 1)) >>= fun x6 => (slL u1.2.2.1 x6)) >>= fun x7 => (addM x5 x7)) >>= fun x8 => (tupK [.d u1.1, .d u1.2.1, .d x8, .d u1.2.2.2])) >>= fun x9 => pure (.rt x9))))
def need_thick (a0 : PyData) : M PyData := V.frame 0 (fin ((tNot ((sub [] (L.is_within a0 (.int 1) (.int 9))) >>= toB)) >>= fun b1 => bif b1 then (raise "NoThick") else (pure (.nx ()))))
def thickened (a0 a1 a2 : PyData) : M PyData := V.frame 0 (fin ((sub [] (L.need_plate a0)) >>= fun _u4 => ((sub [] (L.need_piece a0 a1)) >>= fun _u3 => ((sub [] (L.need_thick a2)) >>= fun _u2 => ((sub [] (L.thickened_by a0 a1 a2)) >>= fun x1 => pure (.rt x1))))))
def law_kind (n : Str) : M PyData := V.frame 0 (fin (((isxM n "NoWhole") >>= fun x2 => (isxM n "NoFraction") >>= fun x3 => (isxM n "NoRows") >>= fun x4 => (isxM n "NoPlate") >>= fun x5 => (lstK [.d x2, .d x3, .d x4, .d x5])) >>= fun v1 => ((((isxM n "NoMotions") >>= fun x7 => (isxM n "NoLoads") >>= fun x8 => (isxM n "NoHolding") >>= fun x9 => (lstK [.d x7, .d x8, .d x9])) >>= fun x10 => (addM v1 x10)) >>= fun v6 => ((((isxM n "NoWays") >>= fun x12 => (isxM n "NoWay") >>= fun x13 => (isxM n "NoPiece") >>= fun x14 => (isxM n "NoStresses") >>= fun x15 => (lstK [.d x12, .d x13, .d x14, .d x15])) >>= fun x16 => (addM v6 x16)) >>= fun v11 => ((((isxM n "NoBalance") >>= fun x18 => (isxM n "NoRest") >>= fun x19 => (isxM n "NoRounds") >>= fun x20 => (isxM n "NoFrame") >>= fun x21 => (lstK [.d x18, .d x19, .d x20, .d x21])) >>= fun x22 => (addM v11 x22)) >>= fun v17 => ((((isxM n "NoLot") >>= fun x24 => (isxM n "NoInner") >>= fun x25 => (isxM n "NoTurning") >>= fun x26 => (isxM n "NoFirm") >>= fun x27 => (lstK [.d x24, .d x25, .d x26, .d x27])) >>= fun x28 => (addM v17 x28)) >>= fun v23 => ((((isxM n "NoThick") >>= fun x30 => (isxM n "NoDeed") >>= fun x31 => (isxM n "NoDeeds") >>= fun x32 => (isxM n "NotHeld") >>= fun x33 => (lstK [.d x30, .d x31, .d x32, .d x33])) >>= fun x34 => (addM v23 x34)) >>= fun v29 => ((((isxM n "NoLine") >>= fun x36 => (isxM n "TooMany") >>= fun x37 => (isxM n "NoText") >>= fun x38 => (lstK [.d x36, .d x37, .d x38])) >>= fun x39 => (addM v29 x39)) >>= fun v35 => ((lstK [.d (.str "whole"), .d (.str "fraction"), .d (.str "rows"), .d (.str "plate"), .d (.str "motions"), .d (.str "loads"), .d (.str "holding"), .d (.str "ways"), .d (.str "way"), .d (.str "piece"), .d (.str "stresses")]) >>= fun v40 => (((lstK [.d (.str "balance"), .d (.str "rest"), .d (.str "rounds"), .d (.str "frame"), .d (.str "lot"), .d (.str "inner"), .d (.str "turning"), .d (.str "firm"), .d (.str "thick"), .d (.str "deed"), .d (.str "deeds")]) >>= fun x42 => (addM v40 x42)) >>= fun v41 => ((tOr (((pure v35) >>= fun x43 => tyM "list" x43 >>= fun _ => (ofO (countO x43 [(.bool true)]))) >>= fun x44 => (neM x44 (.int 1))) (tNot ((pure (.bool true)) >>= toB))) >>= fun b45 => bif b45 then ((tupK [.d (.str "other")]) >>= fun x46 => pure (.rt x46)) else (((ixM v35 (.int 24)) >>= toB) >>= fun b47 => bif b47 then (bad >>= fun x48 => pure (.rt x48)) else ((((ixM v35 (.int 25)) >>= toB) >>= fun b54 => bif b54 then bad else ((((lstK [.d (.str "held"), .d (.str "line")]) >>= fun x49 => (addM v41 x49)) >>= fun x50 => ((pure v35) >>= fun x51 => tyM "list" x51 >>= fun _ => (ofO (indexO x51 [(.bool true)]))) >>= fun x52 => (ixM x50 x52)) >>= fun x53 => (tupK [.d x53]))) >>= fun x55 => pure (.rt x55))))))))))))))
def law_bad_plates (a0 a1 : PyData) : M PyData := V.frame 1 (fin ((pure a0) >>= fun v2 => ofO ((pQ4 pN pN pN pN) v2) >>= fun u1 => (((tupK []) >>= fun x3 => (listM a0) >>= fun x4 => (slH a0 (.int 3)) >>= fun x5 => ((tupK [.d (.int 1)]) >>= fun x6 => (addM a0 x6)) >>= fun x7 => ((listM u1.1) >>= fun x8 => (tupK [.d x8, .d u1.2.1, .d u1.2.2.1, .d u1.2.2.2])) >>= fun x9 => (lstN [.d .none, .d x3, .d x4, .d x5, .d x7, .d x9, .d a1])) >>= fun xs41 => setC 0 xs41 >>= fun _ => (((((tupK [.d (.int 10), .d (.int 1)]) >>= fun x10 => (tupK [.d u1.1, .d u1.2.1, .d u1.2.2.1, .d x10])) >>= fun x11 => ((tupK [.d (.int 1), .d (.int 0)]) >>= fun x12 => (tupK [.d u1.1, .d u1.2.1, .d u1.2.2.1, .d x12])) >>= fun x13 => (lstK [.d x11, .d x13])) >>= fun x14 => (getC 0 >>= fun xs15 => (catN (.list xs15) x14))) >>= fun xs40 => setC 0 xs40 >>= fun _ => ((getC 0 >>= fun _ => ((tupK []) >>= fun x16 => (tupK []) >>= fun x17 => (tupK [.d u1.1, .d x16, .d x17, .d u1.2.2.2])) >>= fun x18 => appC 0 x18) >>= fun _u39 => (((((slL u1.2.2.1 (.int 1)) >>= fun x20 => (tupK [.d u1.1, .d u1.2.1, .d x20, .d u1.2.2.2])) >>= fun x21 => (((tupK [.d (.int 10)]) >>= fun x22 => (lenM u1.2.1) >>= fun x23 => (repTM x22 x23)) >>= fun x24 => (tupK [.d u1.1, .d u1.2.1, .d x24, .d u1.2.2.2])) >>= fun x25 => (lstK [.d x21, .d x25])) >>= fun x26 => (getC 0 >>= fun xs27 => (catN (.list xs27) x26))) >>= fun xs38 => setC 0 xs38 >>= fun _ => (((((((tupK [.d (.int 99), .d (.int 99)]) >>= fun x28 => (tupK [.d x28])) >>= fun x29 => (addM u1.1 x29)) >>= fun x30 => (tupK [.d x30, .d u1.2.1, .d u1.2.2.1, .d u1.2.2.2])) >>= fun x31 => ((repTM u1.2.1 (.int 2)) >>= fun x32 => (repTM u1.2.2.1 (.int 2)) >>= fun x33 => (tupK [.d u1.1, .d x32, .d x33, .d u1.2.2.2])) >>= fun x34 => (lstK [.d x31, .d x34])) >>= fun x35 => (getC 0 >>= fun xs36 => (catL (.list xs36) x35))) >>= fun x37 => pure (.rt x37))))))))
def law17 (a0 : PyData) : M PyData := V.frame 1 (fin (((((lenM (.list (unl a0))) >>= fun x2 => (minM x2 (.int 4))) >>= fun x3 => (maxM (.int 1) x3)) >>= fun x4 => (rangeM (.int 0) x4)) >>= fun xs6 => V.forM pN (fun u5 (t1 : Unit) => ((callL (sub [] (L.law_state (.list (unl a0)) u5))) >>= fun xs70 => setC 0 xs70 >>= fun _ => ((sub [0] (L.law_plate (.int 8))) >>= fun v7 => (sub [0] (L.law_odd)) >>= fun v8 => ((reprM v7) >>= fun v9 => ((((ixM v7 (.int 1)) >>= fun x11 => (lenM x11)) >>= fun x12 => (rangeM (.int 0) x12)) >>= fun xs14 => V.forM pN (fun u13 (t10 : Unit) => (((((sub [0] (L.law_choice (.int 9))) >>= fun x16 => (addM (.int 1) x16)) >>= fun x17 => ((ixM v7 (.int 2)) >>= fun x18 => (ixM x18 u13)) >>= fun x19 => (lstK [.d (.int 1), .d (.int 9), .d x17, .d x19])) >>= rowM) >>= fun xs21 => V.forM pN (fun u20 (t15 : Unit) => (((((ixM v7 (.int 2)) >>= fun x23 => (slH x23 u13)) >>= fun x24 => (tupK [.d u20]) >>= fun x25 => (addM x24 x25)) >>= fun x26 => ((ixM v7 (.int 2)) >>= fun x27 => (addM u13 (.int 1)) >>= fun x28 => (slL x27 x28)) >>= fun x29 => (addM x26 x29)) >>= fun v22 => ((tNot (((sub [] (L.thickened v7 u13 u20)) >>= fun x30 => ((ixM v7 (.int 0)) >>= fun x31 => (ixM v7 (.int 1)) >>= fun x32 => (ixM v7 (.int 3)) >>= fun x33 => (tupK [.d x31, .d x32, .d v22, .d x33])) >>= fun x34 => (sub [] (L.law_same x30 x34))) >>= toB)) >>= fun b35 => bif b35 then ((pure (.bool false)) >>= fun x36 => pure (.rt x36)) else (pure (.nx ()))))) xs21 () >>= flk (fun (t15 : Unit) => (pure (.nx ()))))) xs14 () >>= flk (fun (t10 : Unit) => ((((negM (.int 1)) >>= fun x38 => ((ixM v7 (.int 1)) >>= fun x39 => (lenM x39)) >>= fun x40 => (tupK [.d (.int 0)]) >>= fun x41 => (lstK [.d x38, .d x40, .d (.bool true), .d .none, .d (.str "0"), .d x41])) >>= rowM) >>= fun xs43 => V.forM pN (fun u42 (t37 : Unit) => (((saidM exNames (fun d => (lstK [.d d])) L.law_kind (sub [] (L.thickened v7 u42 (.int 0)))) >>= fun x44 => (tupK [.d (.str "piece")]) >>= fun x45 => (neM x44 x45)) >>= fun b46 => bif b46 then ((pure (.bool false)) >>= fun x47 => pure (.rt x47)) else (pure (.nx ())))) xs43 () >>= flk (fun (t37 : Unit) => ((((negM (.int 1)) >>= fun x49 => (tupK [.d (.int 1)]) >>= fun x50 => ((tNot ((sub [] (L.law_whole v8)) >>= toB)) >>= fun b51 => bif b51 then (pure v8) else (pure (.int 0))) >>= fun x52 => (lstK [.d (.int 0), .d (.int 10), .d x49, .d (.bool true), .d .none, .d (.str "1"), .d x50, .d x52])) >>= rowM) >>= fun xs54 => V.forM pN (fun u53 (t48 : Unit) => (((saidM exNames (fun d => (lstK [.d d])) L.law_kind (sub [] (L.thickened v7 (.int 0) u53))) >>= fun x55 => (tupK [.d (.str "thick")]) >>= fun x56 => (neM x55 x56)) >>= fun b57 => bif b57 then ((pure (.bool false)) >>= fun x58 => pure (.rt x58)) else (pure (.nx ())))) xs54 () >>= flk (fun (t48 : Unit) => (((sub [] (L.law_bad_plates v7 v8)) >>= rowM) >>= fun xs61 => V.forM pN (fun u60 (t59 : Unit) => (((saidM exNames (fun d => (lstK [.d d])) L.law_kind ((negM (.int 1)) >>= fun x62 => (sub [] (L.thickened u60 x62 (.int 0))))) >>= fun x63 => (tupK [.d (.str "plate")]) >>= fun x64 => (neM x63 x64)) >>= fun b65 => bif b65 then ((pure (.bool false)) >>= fun x66 => pure (.rt x66)) else (pure (.nx ())))) xs61 () >>= flk (fun (t59 : Unit) => (((reprM v7) >>= fun x67 => (neM x67 v9)) >>= fun b68 => bif b68 then ((pure (.bool false)) >>= fun x69 => pure (.rt x69)) else (pure (.nx ()))))))))))))))) xs6 () >>= flk (fun (t1 : Unit) => ((pure (.bool true)) >>= fun x71 => pure (.rt x71)))))
end L
set_option exponentiation.threshold 20000
namespace V
open PySem PySem.Spec ZL L2
section
variable {α β : Type}
@[simp] theorem frame_pure (nl : Nat) (a : PyData) : V.frame nl (pure a) = pure a := by
  funext s; show (match (Res.ok a (s ++ List.replicate nl none) : Res PyData) with | .ok a s' => Res.ok a (s'.take s.length) | .ex x s' => .ex x (s'.take s.length) | .bad => .bad) = _
  simp
@[simp] theorem frame_raise (nl : Nat) (n : Str) : V.frame nl (raise n) = raise n := by
  funext s; show (match (Res.ex ⟨n, []⟩ (s ++ List.replicate nl none) : Res PyData) with | .ok a s' => Res.ok a (s'.take s.length) | .ex x s' => .ex x (s'.take s.length) | .bad => .bad) = _
  simp; rfl
@[simp] theorem frame_cond (nl : Nat) (b : Bool) (x y : M PyData) : V.frame nl (bif b then x else y) = bif b then V.frame nl x else V.frame nl y := by cases b <;> rfl
@[simp] theorem frame_ite (nl : Nat) (c : Prop) [Decidable c] (x y : M PyData) : V.frame nl (if c then x else y) = if c then V.frame nl x else V.frame nl y := by split <;> rfl
@[simp] theorem bind_ite' (c : Prop) [Decidable c] (x y : M α) (k : α → M β) : ((if c then x else y) >>= k) = if c then (x >>= k) else (y >>= k) := by split <;> rfl
@[simp] theorem fin_ite (c : Prop) [Decidable c] (x y : M (Fl Unit Unit)) : fin (if c then x else y) = if c then fin x else fin y := by split <;> rfl
@[simp] theorem sub_raise (n : Str) : sub [] (raise n : M α) = raise n := rfl
@[simp] theorem raise_run (n : Str) (s : Cells) : (raise n : M α) s = .ex ⟨n, []⟩ s := rfl
theorem frame_run {nl : Nat} {m : M PyData} {s s' : Cells} {a : PyData} (h : m (s ++ List.replicate nl none) = .ok a s') : V.frame nl m s = .ok a (s'.take s.length) := by
  unfold V.frame; rw [h]
@[simp] theorem add_int (i j : Int) : addM (.int i) (.int j) = pure (.int (i + j)) := rfl
@[simp] theorem sub_int (i j : Int) : subM (.int i) (.int j) = pure (.int (i - j)) := rfl
@[simp] theorem neg_int (i : Int) : negM (.int i) = pure (.int (-i)) := rfl
@[simp] theorem abs_int (i : Int) : absM (.int i) = pure (.int i.natAbs) := by show (pure (PyData.int (absI i)) : M PyData) = _; rw [absI_eq]
@[simp] theorem max_int (i j : Int) : maxM (.int i) (.int j) = pure (.int (max i j)) := by show (pure (PyData.int (maxI i j)) : M PyData) = _; rw [maxI_eq]
@[simp] theorem min_int (i j : Int) : minM (.int i) (.int j) = pure (.int (min i j)) := by show (pure (PyData.int (minI i j)) : M PyData) = _; rw [minI_eq]
@[simp] theorem lt_int (i j : Int) : ltM (.int i) (.int j) = pure (decide (i < j)) := rfl
@[simp] theorem le_int (i j : Int) : leM (.int i) (.int j) = pure (decide (i ≤ j)) := rfl
@[simp] theorem gt_int (i j : Int) : gtM (.int i) (.int j) = pure (decide (j < i)) := rfl
@[simp] theorem eq_int (i j : Int) : eqM (.int i) (.int j) = pure (decide (i = j)) := rfl
@[simp] theorem ne_int (i j : Int) : neM (.int i) (.int j) = pure (!decide (i = j)) := rfl
theorem mul_int {i j : Int} (h : mulOk i j = true) : mulM (.int i) (.int j) = pure (.int (i * j)) := by show ofO (if mulOk i j then _ else _) = _; rw [if_pos h]; rfl
theorem fdiv_int {i j : Int} (h : divOk j = true) : fdivM (.int i) (.int j) = pure (.int (i.fdiv j)) := by show ofO (if divOk j then _ else _) = _; rw [if_pos h]; rfl
theorem mod_int {i j : Int} (h : 0 < j) : modM (.int i) (.int j) = pure (.int (i % j)) := by show ofO (if 0 < j then _ else _) = _; rw [if_pos h]; rfl
theorem pow_int {i j : Int} (h : powOk i j = true) : powM (.int i) (.int j) = pure (.int (i ^ j.toNat)) := by show ofO (if powOk i j then _ else _) = _; rw [if_pos h]; rfl
@[simp] theorem len_list (xs : List PyData) : lenM (.list xs) = pure (.int xs.length) := rfl
@[simp] theorem len_tuple (xs : List PyData) : lenM (.tuple xs) = pure (.int xs.length) := rfl
@[simp] theorem toB_bool (b : Bool) : toB (.bool b) = pure b := rfl
@[simp] theorem ofB_pure (b : Bool) : ofB (pure b) = pure (.bool b) := rfl
@[simp] theorem tNot_pure (b : Bool) : tNot (pure b) = pure (!b) := rfl
@[simp] theorem tAnd_pure (b : Bool) (m : M Bool) : tAnd (pure b) m = bif b then m else pure false := rfl
@[simp] theorem tOr_pure (b : Bool) (m : M Bool) : tOr (pure b) m = bif b then pure true else m := rfl
@[simp] theorem andV_bool (b : Bool) (m : M PyData) : ZL.andV (pure (.bool b)) m = bif b then m else pure (.bool false) := rfl
@[simp] theorem orV_bool (b : Bool) (m : M PyData) : ZL.orV (pure (.bool b)) m = bif b then pure (.bool true) else m := rfl
@[simp] theorem notV_bool (b : Bool) : ZL.notV (pure (.bool b)) = pure (.bool (!b)) := rfl
@[simp] theorem ofB_bind (m : M α) (k : α → M Bool) : ofB (m >>= k) = (m >>= fun a => ofB (k a)) := by unfold ofB; rw [bind_assoc']
@[simp] theorem tNot_bind (m : M α) (k : α → M Bool) : tNot (m >>= k) = (m >>= fun a => tNot (k a)) := by unfold tNot; rw [bind_assoc']
@[simp] theorem tAnd_bind (m : M α) (k : α → M Bool) (n : M Bool) : tAnd (m >>= k) n = (m >>= fun a => tAnd (k a) n) := by unfold tAnd; rw [bind_assoc']
@[simp] theorem tOr_bind (m : M α) (k : α → M Bool) (n : M Bool) : tOr (m >>= k) n = (m >>= fun a => tOr (k a) n) := by unfold tOr; rw [bind_assoc']
@[simp] theorem andV_bind (m : M α) (k : α → M PyData) (n : M PyData) : ZL.andV (m >>= k) n = (m >>= fun a => ZL.andV (k a) n) := by unfold ZL.andV; rw [bind_assoc']
@[simp] theorem orV_bind (m : M α) (k : α → M PyData) (n : M PyData) : ZL.orV (m >>= k) n = (m >>= fun a => ZL.orV (k a) n) := by unfold ZL.orV; rw [bind_assoc']
@[simp] theorem notV_bind (m : M α) (k : α → M PyData) : ZL.notV (m >>= k) = (m >>= fun a => ZL.notV (k a)) := by unfold ZL.notV; rw [bind_assoc']
@[simp] theorem rowM_list (xs : List PyData) : rowM (.list xs) = pure xs := rfl
@[simp] theorem rowM_tuple (xs : List PyData) : rowM (.tuple xs) = pure xs := rfl
theorem all_bools (bs : List Bool) : allM (.list (bs.map PyData.bool)) = pure (.bool (bs.all fun b => b)) := by show ofO ((boolsZ _).map _) = _; rw [boolsZ_of]; rfl
theorem any_bools (bs : List Bool) : anyM (.list (bs.map PyData.bool)) = pure (.bool (bs.any fun b => b)) := by show ofO ((boolsZ _).map _) = _; rw [boolsZ_of]; rfl
@[simp] theorem tupK_nil : tupK [] = pure (.tuple []) := rfl
@[simp] theorem tupK_1 (a : PyData) : tupK [.d a] = pure (.tuple [a]) := rfl
@[simp] theorem tupK_2 (a b : PyData) : tupK [.d a, .d b] = pure (.tuple [a, b]) := rfl
@[simp] theorem tupK_3 (a b c : PyData) : tupK [.d a, .d b, .d c] = pure (.tuple [a, b, c]) := rfl
@[simp] theorem tupK_4 (a b c d : PyData) : tupK [.d a, .d b, .d c, .d d] = pure (.tuple [a, b, c, d]) := rfl
theorem datV_map : ∀ l : List PyData, datV (l.map Vl.d) = some l
  | [] => rfl
  | a :: l => by simp [datV, datV_map l]
theorem lstK_of (l : List PyData) (h : l.length ≤ 16777216) : lstK (l.map Vl.d) = pure (.list l) := by
  unfold lstK; rw [datV_map]; exact if_pos h
theorem lstN_of (l : List PyData) (h : l.length ≤ 16777216) : lstN (l.map Vl.d) = pure l := by
  unfold lstN; rw [datV_map]; exact if_pos h
theorem comp_some {T : Type} {mt : PyData → Option T} {f : T → M PyData} {g : PyData → PyData} : ∀ {xs : List PyData}, (∀ x ∈ xs, ∃ t, mt x = some t ∧ f t = pure (g x)) → compP mt yep f xs = pure (xs.map g)
  | [], _ => rfl
  | x :: r, h => by
    obtain ⟨t, e1, e2⟩ := h x (by simp)
    unfold compP
    rw [e1, ofO_some, pure_bind', pure_bind', cond_true, e2, pure_bind', comp_some (xs := r) fun y hy => h y (by simp [hy])]
    rfl
theorem comp_map {T : Type} {mt : PyData → Option T} {f : T → M PyData} (g : PyData → PyData) {xs : List PyData} (hz : xs.length ≤ 16777216) (h : ∀ x ∈ xs, ∃ t, mt x = some t ∧ f t = pure (g x)) : comp mt yep f xs = pure (xs.map g) := by
  unfold comp
  rw [if_pos (show xs.length ≤ line from hz), comp_some h]
  rfl
theorem ix_list {xs : List PyData} {i : Int} {d : PyData} (h : 0 ≤ i) (e : xs[i.toNat]? = some d) : ixM (.list xs) (.int i) = pure d := by
  show ofO (atI xs i) = _
  have hl := (List.getElem?_eq_some_iff.mp e).1
  rw [show atI xs i = some d by
    unfold atI ixN
    rw [if_pos h, if_pos (by omega)]
    exact e]
  rfl
theorem ix_tuple {xs : List PyData} {i : Int} {d : PyData} (h : 0 ≤ i) (e : xs[i.toNat]? = some d) : ixM (.tuple xs) (.int i) = pure d := ix_list (xs := xs) h e
def Tr (P : Cells → Prop) (m : M α) (Q : α → Cells → Prop) : Prop := ∀ s, P s → ∃ a s', m s = .ok a s' ∧ Q a s'
theorem Tr.pure {P : Cells → Prop} {Q : α → Cells → Prop} {a : α} (h : ∀ s, P s → Q a s) : Tr P (pure a) Q := fun s p => ⟨a, s, rfl, h s p⟩
theorem Tr.bind {P : Cells → Prop} {R : α → Cells → Prop} {Q : β → Cells → Prop} {m : M α} {k : α → M β} (h1 : Tr P m R) (h2 : ∀ a, Tr (R a) (k a) Q) : Tr P (m >>= k) Q := fun s p => by
  obtain ⟨a, s1, e1, r⟩ := h1 s p
  obtain ⟨b, s2, e2, q⟩ := h2 a s1 r
  exact ⟨b, s2, by rw [bind_ok e1]; exact e2, q⟩
theorem Tr.post {P : Cells → Prop} {Q Q' : α → Cells → Prop} {m : M α} (h : Tr P m Q) (q : ∀ a s, Q a s → Q' a s) : Tr P m Q' := fun s p => let ⟨a, s', e, h⟩ := h s p; ⟨a, s', e, q a s' h⟩
theorem Tr.pre {P P' : Cells → Prop} {Q : α → Cells → Prop} {m : M α} (h : Tr P m Q) (q : ∀ s, P' s → P s) : Tr P' m Q := fun s p => h s (q s p)
theorem Tr.of {P : Cells → Prop} {Q : α → Cells → Prop} {m : M α} (h : ∀ s, P s → Tr (fun s' => s' = s) m Q) : Tr P m Q := fun s p => h s p s rfl
theorem Tr.cond {P : Cells → Prop} {Q : α → Cells → Prop} {b : Bool} {x y : M α} (h1 : b = true → Tr P x Q) (h2 : b = false → Tr P y Q) : Tr P (bif b then x else y) Q := by
  cases b with
  | true => exact h1 rfl
  | false => exact h2 rfl
theorem Tr.forM {L T γ : Type} {pt : PyData → Option γ} {body : γ → T → M (Fl T T)} {Q : Fl L T → Cells → Prop} (I : T → Cells → Prop) : ∀ {xs : List PyData} {t : T}, (∀ x ∈ xs, ∃ u, pt x = some u ∧ ∀ t, Tr (I t) (body u t) fun f s => match f with | .nx t' => I t' s | _ => False) → (∀ t s, I t s → Q (.nx t) s) → Tr (I t) (V.forM pt body xs t) Q
  | [], t, _, hq => fun s p => ⟨.nx t, s, rfl, hq t s p⟩
  | x :: r, t, h, hq => by
    obtain ⟨u, e, hb⟩ := h x (by simp)
    unfold V.forM
    rw [e, ofO_some, pure_bind']
    refine Tr.bind (hb t) fun f => ?_
    cases f with
    | nx t' => exact Tr.forM I (xs := r) (fun y hy => h y (by simp [hy])) hq
    | _ => exact fun s p => p.elim
def GoodSt (st : List PyData) : Prop := ∃ a b c : Int, st = [.int a, .int b, .int c] ∧ 0 ≤ b ∧ b < 2 ^ 31
abbrev cS (st : List PyData) : Option Cell := some (.lst st)
def Gen (m : M α) (P : α → Prop) : Prop := ∀ st rest, GoodSt st → ∃ a st', GoodSt st' ∧ P a ∧ m (cS st :: rest) = .ok a (cS st' :: rest)
theorem Gen.pure {P : α → Prop} {a : α} (h : P a) : Gen (pure a) P := fun st rest g => ⟨a, st, g, h, rfl⟩
theorem Gen.bind {R : α → Prop} {P : β → Prop} {m : M α} {k : α → M β} (h1 : Gen m R) (h2 : ∀ a, R a → Gen (k a) P) : Gen (m >>= k) P := fun st rest g => by
  obtain ⟨a, st1, g1, r, e1⟩ := h1 st rest g
  obtain ⟨b, st2, g2, p, e2⟩ := h2 a r st1 rest g1
  exact ⟨b, st2, g2, p, by rw [bind_ok e1]; exact e2⟩
theorem Gen.mono {P P' : α → Prop} {m : M α} (h : Gen m P) (q : ∀ a, P a → P' a) : Gen m P' := fun st rest g => let ⟨a, st', g', p, e⟩ := h st rest g; ⟨a, st', g', q a p, e⟩
theorem Gen.cond {P : α → Prop} {b : Bool} {x y : M α} (h1 : b = true → Gen x P) (h2 : b = false → Gen y P) : Gen (bif b then x else y) P := by
  cases b with
  | true => exact h1 rfl
  | false => exact h2 rfl
theorem Gen.sub {P : α → Prop} {m : M α} (h : Gen m P) : Gen (sub [0] m) P := fun st rest g => by
  obtain ⟨a, st', g', p, e⟩ := h st [] g
  refine ⟨a, st', g', p, ?_⟩
  show (bif liveB (cS st :: rest) [0] then _ else _) = _
  rw [show liveB (cS st :: rest) [0] = true from rfl, cond_true, show pick (cS st :: rest) [0] = [cS st] from rfl, e]
  rfl
theorem Gen.frame {P : PyData → Prop} {m : M PyData} {nl : Nat} (h : ∀ st, GoodSt st → ∃ a st' r, GoodSt st' ∧ P a ∧ m (cS st :: List.replicate nl none) = .ok a (cS st' :: r)) : ∀ st, GoodSt st → ∃ a st', GoodSt st' ∧ P a ∧ V.frame nl m [cS st] = .ok a [cS st'] := fun st g => by
  obtain ⟨a, st', r, g', p, e⟩ := h st g
  exact ⟨a, st', g', p, by rw [frame_run (s := [cS st]) e]; rfl⟩
def Gen1 (m : M α) (P : α → Prop) : Prop := ∀ st, GoodSt st → ∃ a st', GoodSt st' ∧ P a ∧ m [cS st] = .ok a [cS st']
theorem Gen1.sub {P : α → Prop} {m : M α} (h : Gen1 m P) : Gen (V.sub [0] m) P := fun st rest g => by
  obtain ⟨a, st', g', p, e⟩ := h st g
  refine ⟨a, st', g', p, ?_⟩
  show (bif liveB (cS st :: rest) [0] then _ else _) = _
  rw [show liveB (cS st :: rest) [0] = true from rfl, cond_true, show pick (cS st :: rest) [0] = [cS st] from rfl, e]
  rfl
theorem Gen.frame0 {P : PyData → Prop} {m : M PyData} {nl : Nat} (h : Gen m P) : Gen1 (V.frame nl m) P := fun st g => by
  obtain ⟨a, st', g', p, e⟩ := h st (List.replicate nl none) g
  exact ⟨a, st', g', p, by rw [frame_run (s := [cS st]) e]; rfl⟩
end
end V
set_option exponentiation.threshold 20000
namespace V
open PySem PySem.Spec ZL L2
theorem mulOk_of {i j : Int} {a b : Nat} (ha : i.natAbs < 2 ^ a) (hb : j.natAbs < 2 ^ b) (h : a + b ≤ 100000000) : mulOk i j = true := by
  unfold mulOk
  refine decide_eq_true ?_
  have l : ∀ {x k : Nat}, x < 2 ^ k → x.log2 ≤ k := by
    intro x k hx
    by_cases e : x = 0
    · subst e; simp
    · have := (Nat.log2_lt e).mpr hx; omega
  have := l ha
  have := l hb
  omega
theorem divOk_of {j : Int} {n : Nat} (h : j ≠ 0) (hn : j.natAbs < 2 ^ n) (hl : n ≤ 9000) : divOk j = true := by
  unfold divOk
  have := (Nat.log2_lt (by omega : j.natAbs ≠ 0)).mpr hn
  simp only [Bool.and_eq_true, decide_eq_true_eq]
  exact ⟨h, by omega⟩
theorem gcd_half {x y : Nat} {k : Nat} (h0 : 0 < x % y) (hy : y < 2 ^ (k + 1)) : y % (x % y) < 2 ^ k := by
  rcases Nat.eq_zero_or_pos y with e | hy0
  · subst e; rw [Nat.zero_mod]; exact Nat.two_pow_pos k
  have h1 : x % y < y := Nat.mod_lt _ hy0
  have h2 : y % (x % y) < x % y := Nat.mod_lt _ h0
  have h3 : y % (x % y) + x % y ≤ y := by
    have e := Nat.mod_add_div y (x % y)
    have : 1 ≤ y / (x % y) := (Nat.one_le_div_iff h0).mpr (Nat.le_of_lt h1)
    have : x % y * 1 ≤ x % y * (y / (x % y)) := Nat.mul_le_mul_left _ this
    omega
  rw [Nat.pow_succ] at hy
  omega
theorem while_gcd {L : Type} {c : PyData × PyData → M Bool} {body : PyData × PyData → M (Fl (PyData × PyData) (PyData × PyData))} {B : Nat} (hc : ∀ x y : Nat, c (.int x, .int y) = pure (decide ((0 : Int) < y)))
    (hb : ∀ x y : Nat, x < 2 ^ B → y < 2 ^ B → 0 < y → body (.int x, .int y) = pure (.nx (.int y, .int ((x % y : Nat) : Int)))) : ∀ (k x y n : Nat), x < 2 ^ B → y < 2 ^ B → y < 2 ^ k → 2 * k + 1 ≤ n → (whileM c body n (.int x, .int y) : M (Fl L _)) = pure (.nx (.int (Nat.gcd x y), .int 0)) := by
  have step : ∀ (x y n : Nat), x < 2 ^ B → y < 2 ^ B → 0 < y → (whileM c body (n + 1) (.int x, .int y) : M (Fl L _)) = whileM c body n (.int y, .int ((x % y : Nat) : Int)) := by
    intro x y n hx hy h0
    rw [whileM_succ, hc, pure_bind', show decide ((0 : Int) < y) = true from decide_eq_true (by omega), cond_true, hb x y hx hy h0, pure_bind']
  have stop : ∀ (x n : Nat), (whileM c body (n + 1) (.int x, .int (0 : Nat)) : M (Fl L _)) = pure (.nx (.int x, .int 0)) := by
    intro x n
    rw [whileM_succ, hc, pure_bind']
    rfl
  intro k
  induction k with
  | zero =>
    intro x y n hx hy hk hn
    have e : y = 0 := by omega
    subst e
    obtain ⟨m, rfl⟩ : ∃ m, n = m + 1 := ⟨n - 1, by omega⟩
    rw [stop, Nat.gcd_zero_right]
  | succ k ih =>
    intro x y n hx hy hk hn
    obtain ⟨m, rfl⟩ : ∃ m, n = m + 2 + 1 := ⟨n - 3, by omega⟩
    rcases Nat.eq_zero_or_pos y with e | h0
    · subst e; rw [stop, Nat.gcd_zero_right]
    · rw [step x y _ hx hy h0]
      have h1 : x % y < y := Nat.mod_lt _ h0
      rcases Nat.eq_zero_or_pos (x % y) with e | h2
      · rw [e, stop]
        have : Nat.gcd x y = y := by rw [Nat.gcd_comm, Nat.gcd_rec, e, Nat.gcd_zero_left]
        rw [this]
      · rw [step y (x % y) _ hy (by omega) h2, ih (x % y) (y % (x % y)) (m + 1) (by omega) (Nat.lt_trans (Nat.mod_lt _ h2) (by omega)) (gcd_half h2 hk) (by omega)]
        have e1 : Nat.gcd x y = Nat.gcd (x % y) (y % (x % y)) := by rw [Nat.gcd_comm x y, Nat.gcd_rec y x, Nat.gcd_rec (x % y) y, Nat.gcd_comm]
        rw [e1]
theorem int_mod_nat (x y : Nat) : ((x : Int) % (y : Int)) = ((x % y : Nat) : Int) := rfl
end V
set_option exponentiation.threshold 20000
namespace V
open PySem PySem.Spec ZL L2
def fr (q : Rat) : PyData := .tuple [.int q.num, .int q.den]
def Bt (n : Nat) (q : Rat) : Prop := q.num.natAbs < 2 ^ n ∧ q.den < 2 ^ n
theorem Bt.mono {n m : Nat} {q : Rat} (h : Bt n q) (hn : n ≤ m) : Bt m q := ⟨Nat.lt_of_lt_of_le h.1 (Nat.pow_le_pow_right (by decide) hn), Nat.lt_of_lt_of_le h.2 (Nat.pow_le_pow_right (by decide) hn)⟩
theorem gcd_dvd_l (a b : Int) : ((Int.gcd a b : Nat) : Int) ∣ a := Int.gcd_dvd_left ..
theorem gcd_dvd_r (a b : Int) : ((Int.gcd a b : Nat) : Int) ∣ b := Int.gcd_dvd_right ..
theorem gcd_pos (a b : Int) (h : b ≠ 0) : 0 < Int.gcd a b := Nat.pos_of_ne_zero fun e => h (Int.gcd_eq_zero_iff.mp e).2
theorem fr_divInt (a b : Int) (h : b ≠ 0) : fr (Rat.divInt a b) = .tuple [.int (if 0 < b then a / (Int.gcd a b : Nat) else -(a / (Int.gcd a b : Nat))), .int (b.natAbs / Int.gcd a b : Nat)] := by
  unfold fr
  rw [Rat.num_divInt, Rat.den_divInt, if_neg h, Int.gcd_comm b a]
  have e : b.sign * a / ((Int.gcd a b : Nat) : Int) = if 0 < b then a / (Int.gcd a b : Nat) else -(a / (Int.gcd a b : Nat)) := by
    split
    · rename_i hb; rw [Int.sign_eq_one_of_pos hb, Int.one_mul]
    · rw [Int.sign_eq_neg_one_of_neg (by omega), Int.neg_one_mul, Int.neg_ediv_of_dvd (gcd_dvd_l a b)]
  rw [e]
theorem fdiv_dvd {a g : Int} (h : g ∣ a) : a.fdiv g = a / g := Int.fdiv_eq_ediv_of_dvd h
theorem gcd_small {a b : Int} {n : Nat} (hb : b.natAbs < 2 ^ n) (h : b ≠ 0) : Int.gcd a b < 2 ^ n := Nat.lt_of_le_of_lt (Nat.le_of_dvd (by omega) (Int.ofNat_dvd_left.mp (gcd_dvd_r a b))) hb
theorem Bt.divInt {a b : Int} {n : Nat} (ha : a.natAbs < 2 ^ n) (hb : b.natAbs < 2 ^ n) (h : b ≠ 0) : Bt n (Rat.divInt a b) := by
  have hg := gcd_pos a b h
  constructor
  · rw [Rat.num_divInt, Int.gcd_comm b a]
    refine Nat.lt_of_le_of_lt (m := a.natAbs) ?_ ha
    have : (b.sign * a / ((Int.gcd a b : Nat) : Int)).natAbs ≤ (b.sign * a).natAbs := Int.natAbs_ediv_le_natAbs ..
    rw [Int.natAbs_mul] at this
    have s : b.sign.natAbs = 1 := by rw [Int.natAbs_sign_of_ne_zero h]
    rw [s, Nat.one_mul] at this
    exact this
  · rw [Rat.den_divInt, if_neg h, Int.gcd_comm b a]
    exact Nat.lt_of_le_of_lt (Nat.div_le_self _ _) hb
theorem low_eq (a b : Int) (ha : a.natAbs < 2 ^ 9000) (hb : b.natAbs < 2 ^ 9000) (h : b ≠ 0) : L.law_low (.int a) (.int b) = pure (fr (Rat.divInt a b)) := by
  have hg := gcd_pos a b h
  have hs := gcd_small (a := a) hb h
  unfold L.law_low
  rw [fr_divInt a b h]
  simp only [abs_int, pure_bind']
  rw [while_gcd (B := 9000) (k := 9000) (fun x y => by simp only [gt_int]) (fun x y hx hy h0 => ?_) a.natAbs b.natAbs fuel ha hb hb (by unfold fuel; omega)]
  · simp only [pure_bind', flk_nx, gt_int]
    have eg : ((a.natAbs.gcd b.natAbs : Nat) : Int) = ((Int.gcd a b : Nat) : Int) := rfl
    rw [eg]
    have d1 : divOk ((Int.gcd a b : Nat) : Int) = true := divOk_of (n := 9000) (by omega) (by simpa using hs) (by omega)
    have e2 : (b.natAbs : Int).fdiv ((Int.gcd a b : Nat) : Int) = ((b.natAbs / Int.gcd a b : Nat) : Int) := by rw [Int.fdiv_eq_ediv_of_nonneg _ (by omega)]; rfl
    by_cases hn : 0 < b
    · simp only [decide_eq_true hn, cond_true, if_pos hn]
      rw [fdiv_int d1, pure_bind', fdiv_int d1, pure_bind']
      simp only [tupK_2, pure_bind', fin_rt, frame_pure]
      rw [fdiv_dvd (gcd_dvd_l a b), e2]
    · simp only [decide_eq_false hn, cond_false, if_neg hn]
      rw [fdiv_int d1, pure_bind', sub_int, pure_bind', fdiv_int d1, pure_bind']
      simp only [tupK_2, pure_bind', fin_rt, frame_pure]
      rw [fdiv_dvd (gcd_dvd_l a b), e2, Int.zero_sub]
  · rw [mod_int (by omega), pure_bind', pure_bind', int_mod_nat]
def isW : PyData → Bool
  | .int _ => true
  | _ => false
theorem is_whole_eq (d : PyData) : L.is_whole d = pure (.bool (isW d)) := by
  unfold L.is_whole
  cases d <;> simp [isO, isD, isW]
theorem law_whole_eq (d : PyData) : L.law_whole d = pure (.bool (isW d)) := is_whole_eq d
end V
set_option exponentiation.threshold 20000
namespace V
open PySem PySem.Spec ZL L2
theorem getC_run (xs : List PyData) (r : Cells) : getC 0 (cS xs :: r) = .ok xs (cS xs :: r) := rfl
theorem ix_at {xs : List PyData} (i : Nat) {d : PyData} (e : xs[i]? = some d) : ixM (.list xs) (.int (i : Int)) = pure d := ix_list (by omega) (by simpa using e)
theorem putC_run {xs : List PyData} {i : Nat} {v : PyData} {r : Cells} (h : i < xs.length) : putC 0 (.int (i : Int)) v (cS xs :: r) = .ok () (cS (xs.set i v) :: r) := by
  unfold putC
  show (match ixN xs.length (i : Int) with | some n => Res.ok () ((cS xs :: r).set 0 (some (.lst (xs.set n v)))) | none => .bad) = _
  rw [show ixN xs.length (i : Int) = some i by unfold ixN; rw [if_pos (by omega), if_pos (by omega)]; simp]
  rfl
theorem bindR {α β : Type} {m : M α} {k : α → M β} {s s1 : Cells} {a : α} {r : Res β} (h : m s = .ok a s1) (h2 : k a s1 = r) : (m >>= k) s = r := by rw [bind_ok h]; exact h2
theorem choice_gen (n : Int) (h : 0 < n) (hn : n < 2 ^ 100) : Gen1 (L.law_choice (.int n)) fun d => ∃ r : Int, d = .int r ∧ 0 ≤ r ∧ r < n := by
  rintro st ⟨a, b, c, rfl, hb, hb2⟩
  have dn : divOk n = true := divOk_of (n := 100) (by omega) (by omega) (by omega)
  unfold L.law_choice
  have i0 : ∀ x y z : PyData, ixM (.list [x, y, z]) (.int 0) = pure x := fun x y z => ix_at (xs := [x, y, z]) 0 rfl
  have i1 : ∀ x y z : PyData, ixM (.list [x, y, z]) (.int 1) = pure y := fun x y z => ix_at (xs := [x, y, z]) 1 rfl
  have i2 : ∀ x y z : PyData, ixM (.list [x, y, z]) (.int 2) = pure z := fun x y z => ix_at (xs := [x, y, z]) 2 rfl
  have p0 : ∀ (x y z v : PyData) (r : Cells), putC 0 (.int 0) v (cS [x, y, z] :: r) = .ok () (cS [v, y, z] :: r) := fun x y z v r => putC_run (xs := [x, y, z]) (i := 0) (by simp)
  have p1 : ∀ (x y z v : PyData) (r : Cells), putC 0 (.int 1) v (cS [x, y, z] :: r) = .ok () (cS [x, v, z] :: r) := fun x y z v r => putC_run (xs := [x, y, z]) (i := 1) (by simp)
  have p2 : ∀ (x y z v : PyData) (r : Cells), putC 0 (.int 2) v (cS [x, y, z] :: r) = .ok () (cS [x, y, v] :: r) := fun x y z v r => putC_run (xs := [x, y, z]) (i := 2) (by simp)
  simp only [fin_bind, bind_assoc', fin_cond, pure_bind', fin_rt]
  by_cases ha : 0 < a
  · refine ⟨.int (a % n), [.int (a.fdiv n), .int b, .int c], ⟨_, _, _, rfl, hb, hb2⟩, ⟨_, rfl, Int.emod_nonneg _ (by omega), Int.emod_lt_of_pos _ h⟩, ?_⟩
    refine (frame_run (s := [cS _]) (nl := 0) (s' := [cS [.int (a.fdiv n), .int b, .int c]]) ?_).trans rfl
    refine bindR (getC_run _ _) ?_
    simp only [i0, pure_bind', gt_int, decide_eq_true ha, cond_true]
    refine bindR (getC_run _ _) ?_
    simp only [i0, pure_bind', mod_int h]
    refine bindR (getC_run _ _) ?_
    simp only [i0, pure_bind', fdiv_int dn]
    exact bindR (p0 ..) rfl
  · have hm : ∀ x : Int, 0 ≤ x % 2147483647 ∧ x % 2147483647 < 2 ^ 31 := fun x => by omega
    have hv : ∀ x : Int, 0 ≤ x % 2147483629 ∧ x % 2147483629 < 2 ^ 31 := fun x => by omega
    obtain ⟨b', eb⟩ : ∃ b', b' = (b * 48271 + 29 + (c + 1)) % 2147483647 := ⟨_, rfl⟩
    obtain ⟨v, ev⟩ : ∃ v, v = (b' * b' + 39373 * b' + 7) % 2147483629 := ⟨_, rfl⟩
    obtain ⟨u, eu⟩ : ∃ u, u = ((v * v + 50021 * v) % 2147483587).fdiv 8 := ⟨_, rfl⟩
    have hb' := hm (b * 48271 + 29 + (c + 1))
    rw [← eb] at hb'
    have hv' := hv (b' * b' + 39373 * b' + 7)
    rw [← ev] at hv'
    refine ⟨.int (u % n), [.int a, .int b', .int (c + 1)], ⟨_, _, _, rfl, hb'.1, hb'.2⟩, ⟨_, rfl, Int.emod_nonneg _ (by omega), Int.emod_lt_of_pos _ h⟩, ?_⟩
    refine (frame_run (s := [cS _]) (nl := 0) (s' := [cS [.int a, .int b', .int (c + 1)]]) ?_).trans rfl
    refine bindR (getC_run _ _) ?_
    simp only [i0, pure_bind', gt_int, decide_eq_false ha, cond_false]
    refine bindR (getC_run _ _) ?_
    simp only [i2, pure_bind', add_int]
    refine bindR (p2 ..) ?_
    refine bindR (getC_run _ _) ?_
    simp only [i1, pure_bind']
    rw [mul_int (mulOk_of (a := 31) (b := 31) (by omega) (by omega) (by omega))]
    simp only [pure_bind', add_int]
    refine bindR (getC_run _ _) ?_
    simp only [i2, pure_bind', add_int]
    rw [mod_int (by omega)]
    simp only [pure_bind', ← eb]
    refine bindR (p1 ..) ?_
    refine bindR (getC_run _ _) ?_
    simp only [i1, pure_bind']
    refine bindR (getC_run _ _) ?_
    simp only [i1, pure_bind']
    rw [mul_int (mulOk_of (a := 31) (b := 31) (by omega) (by omega) (by omega))]
    simp only [pure_bind']
    refine bindR (getC_run _ _) ?_
    simp only [i1, pure_bind']
    rw [mul_int (mulOk_of (a := 31) (b := 31) (by omega) (by omega) (by omega))]
    simp only [pure_bind', add_int]
    rw [mod_int (by omega)]
    simp only [pure_bind', ← ev]
    rw [mul_int (mulOk_of (a := 31) (b := 31) (by omega) (by omega) (by omega)), mul_int (mulOk_of (a := 31) (b := 31) (by omega) (by omega) (by omega))]
    simp only [pure_bind', add_int]
    rw [mod_int (by omega)]
    simp only [pure_bind']
    rw [fdiv_int (by decide)]
    simp only [pure_bind', ← eu]
    rw [mod_int h]
    rfl
theorem choice {n : Int} (h : 0 < n) (hn : n < 2 ^ 100) : Gen (V.sub [0] (L.law_choice (.int n))) fun d => ∃ r : Int, d = .int r ∧ 0 ≤ r ∧ r < n := (choice_gen n h hn).sub
theorem cell_at_eq (ns : List Int) (k : Int) (hk : 0 ≤ k) : L.law_cell_at (.list (ns.map .int)) (.int k) = pure (.int (ns.getD k.toNat 0)) := by
  unfold L.law_cell_at
  simp only [unl, len_list, pure_bind', lt_int, List.length_map]
  by_cases h : k < (ns.length : Int)
  · rw [decide_eq_true h, cond_true, ix_list (d := .int (ns.getD k.toNat 0)) hk]
    · simp
    · rw [List.getElem?_map, List.getD_eq_getElem?_getD, List.getElem?_eq_getElem (by omega)]; rfl
  · rw [decide_eq_false h, cond_false, List.getD_eq_getElem?_getD, List.getElem?_eq_none (by omega)]; simp
theorem state_eq (ns : List Int) (k : Int) (hk : 0 ≤ k) : ∃ st, GoodSt st ∧ L.law_state (.list (ns.map .int)) (.int k) = pure (.list st) := by
  unfold L.law_state
  have e := cell_at_eq ns k hk
  generalize ns.getD k.toNat 0 = x at e
  refine ⟨[.int (max 0 (x - 10 ^ 18)), .int (x % 2147483629 + 1), .int 0], ⟨_, _, _, rfl, by omega, by omega⟩, ?_⟩
  simp only [unl, e, sub_pure, pure_bind']
  rw [pow_int (by decide)]
  simp only [pure_bind', sub_int, max_int]
  rw [mod_int (by omega)]
  simp only [pure_bind', add_int]
  rw [show lstN [Vl.d (PyData.int (max 0 (x - 10 ^ Int.toNat 18))), Vl.d (PyData.int (x % 2147483629 + 1)), Vl.d (PyData.int 0)] = pure [PyData.int (max 0 (x - 10 ^ Int.toNat 18)), PyData.int (x % 2147483629 + 1), PyData.int 0] from lstN_of [_, _, _] (by simp)]
  simp
mutual
def sz : PyData → Nat
  | .none => 4
  | .bool _ => 5
  | .int _ => 1921
  | .str x => (reprText x).length
  | .list xs => szA xs + 2
  | .tuple xs => szA xs + 3
  | .dict kvs => szK kvs + 2
def szA : List PyData → Nat
  | [] => 0
  | x :: xs => sz x + 2 + szA xs
def szK : List (PyData × PyData) → Nat
  | [] => 0
  | (k, v) :: r => sz k + sz v + 4 + szK r
end
theorem join_le (ts : List Str) : (Str.join ", " ts).length ≤ piled ts := by
  by_cases h : ts = []
  · subst h; exact Nat.zero_le _
  · have := join_length_add ts h; omega
theorem int_text (z : Int) (h : z.natAbs.log2 < 1920) : (Str.ofString (toString z)).length ≤ 1921 := by
  have := int_text_length_le (k := 1920) (by decide) h
  rw [ofString_length]; omega
mutual
theorem shown_sz : ∀ d : PyData, d.showable = true → d.shown.length ≤ sz d
  | .none, _ => by simp only [PyData.shown, sz]; decide
  | .bool b, _ => by cases b <;> simp only [PyData.shown, sz] <;> decide
  | .int i, h => by
    simp only [PyData.shown, sz]
    exact int_text i (by simpa [PyData.showable] using h)
  | .str x, _ => by simp only [PyData.shown, sz]; exact Nat.le_refl _
  | .list xs, h => by
    have ih := shownAll_sz xs (by simpa [PyData.showable] using h)
    simp only [PyData.shown, sz]
    rw [listText_eq_join, strLen_append, strLen_append]
    have := join_le (PyData.shownAll xs)
    have e1 : ((("[" : String) : Str)).length = 1 := rfl
    have e2 : ((("]" : String) : Str)).length = 1 := rfl
    omega
  | .tuple xs, h => by
    have ih := shownAll_sz xs (by simpa [PyData.showable] using h)
    simp only [PyData.shown, sz]
    unfold tupleText
    rw [strLen_append, strLen_append]
    have := join_le (PyData.shownAll xs)
    have e1 : ((("(" : String) : Str)).length = 1 := rfl
    have e3 : (((if (PyData.shownAll xs).length == 1 then ",)" else ")" : String) : Str)).length ≤ 2 := by split <;> decide
    omega
  | .dict kvs, h => by
    have ih := shownKv_sz kvs (by simpa [PyData.showable] using h)
    simp only [PyData.shown, sz]
    unfold dictText
    rw [strLen_append, strLen_append]
    have := join_le (PyData.shownKv kvs)
    have e1 : ((("{" : String) : Str)).length = 1 := rfl
    have e2 : ((("}" : String) : Str)).length = 1 := rfl
    omega
theorem shownAll_sz : ∀ xs : List PyData, PyData.showableAll xs = true → piled (PyData.shownAll xs) ≤ szA xs
  | [], _ => by simp [PyData.shownAll, szA, piled]
  | x :: xs, h => by
    simp only [PyData.showableAll, Bool.and_eq_true] at h
    have h1 := shown_sz x h.1
    have h2 := shownAll_sz xs h.2
    simp only [PyData.shownAll, szA, piled_cons]
    omega
theorem shownKv_sz : ∀ xs : List (PyData × PyData), PyData.showableKv xs = true → piled (PyData.shownKv xs) ≤ szK xs
  | [], _ => by simp [PyData.shownKv, szK, piled]
  | (k, v) :: xs, h => by
    simp only [PyData.showableKv, Bool.and_eq_true] at h
    have h1 := shown_sz k h.1.1
    have h2 := shown_sz v h.1.2
    have h3 := shownKv_sz xs h.2
    simp only [PyData.shownKv, szK, piled_cons]
    rw [strLen_append, strLen_append]
    have e1 : (((": " : String) : Str)).length = 2 := rfl
    omega
end
structure Rp (n m : Nat) (d : PyData) : Prop where
  s : d.showable = true
  h : d.hasDict = false
  dp : d.depth ≤ n
  z : sz d ≤ m
theorem Rp.mono {n m n' m' : Nat} {d : PyData} (r : Rp n m d) (h1 : n ≤ n') (h2 : m ≤ m') : Rp n' m' d := ⟨r.s, r.h, Nat.le_trans r.dp h1, Nat.le_trans r.z h2⟩
theorem Rp.ok {n m : Nat} {d : PyData} (r : Rp n m d) (hn : n ≤ 100) (hm : m ≤ 16777216) : reprOk d = true := by
  unfold reprOk
  simp only [Bool.and_eq_true, decide_eq_true_eq, Bool.or_eq_true, Bool.not_eq_true']
  exact ⟨⟨⟨r.s, Nat.le_trans r.dp hn⟩, .inl r.h⟩, Nat.le_trans (shown_sz d r.s) (Nat.le_trans r.z hm)⟩
theorem repr_eq {d : PyData} (h : reprOk d = true) : reprM d = pure (PyData.str d.shown) := by
  show ofO (if reprOk d then some (PyData.str d.shown) else none) = _
  rw [if_pos h]; rfl
theorem eq_str (x y : Str) : eqM (.str x) (.str y) = pure (decide (x = y)) := rfl
theorem ne_str (x y : Str) : neM (.str x) (.str y) = pure (!decide (x = y)) := rfl
theorem same_eq {d : PyData} (h : reprOk d = true) : L.law_same d d = pure (.bool true) := by
  unfold L.law_same
  simp only [repr_eq h, pure_bind', eq_str, decide_true, ofB_pure, fin_rt, frame_pure]
end V
set_option exponentiation.threshold 20000
namespace V
open PySem PySem.Spec ZL L2
@[simp] theorem lstK_0 : lstK [] = pure (.list []) := lstK_of [] (by simp)
@[simp] theorem lstN_0 : lstN [] = pure [] := lstN_of [] (by simp)
@[simp] theorem lstK_1 (a0 : PyData) : lstK [.d a0] = pure (.list [a0]) := lstK_of [a0] (by simp)
@[simp] theorem lstN_1 (a0 : PyData) : lstN [.d a0] = pure [a0] := lstN_of [a0] (by simp)
@[simp] theorem lstK_2 (a0 a1 : PyData) : lstK [.d a0, .d a1] = pure (.list [a0, a1]) := lstK_of [a0, a1] (by simp)
@[simp] theorem lstN_2 (a0 a1 : PyData) : lstN [.d a0, .d a1] = pure [a0, a1] := lstN_of [a0, a1] (by simp)
@[simp] theorem lstK_3 (a0 a1 a2 : PyData) : lstK [.d a0, .d a1, .d a2] = pure (.list [a0, a1, a2]) := lstK_of [a0, a1, a2] (by simp)
@[simp] theorem lstN_3 (a0 a1 a2 : PyData) : lstN [.d a0, .d a1, .d a2] = pure [a0, a1, a2] := lstN_of [a0, a1, a2] (by simp)
@[simp] theorem lstK_4 (a0 a1 a2 a3 : PyData) : lstK [.d a0, .d a1, .d a2, .d a3] = pure (.list [a0, a1, a2, a3]) := lstK_of [a0, a1, a2, a3] (by simp)
@[simp] theorem lstN_4 (a0 a1 a2 a3 : PyData) : lstN [.d a0, .d a1, .d a2, .d a3] = pure [a0, a1, a2, a3] := lstN_of [a0, a1, a2, a3] (by simp)
@[simp] theorem lstK_5 (a0 a1 a2 a3 a4 : PyData) : lstK [.d a0, .d a1, .d a2, .d a3, .d a4] = pure (.list [a0, a1, a2, a3, a4]) := lstK_of [a0, a1, a2, a3, a4] (by simp)
@[simp] theorem lstN_5 (a0 a1 a2 a3 a4 : PyData) : lstN [.d a0, .d a1, .d a2, .d a3, .d a4] = pure [a0, a1, a2, a3, a4] := lstN_of [a0, a1, a2, a3, a4] (by simp)
@[simp] theorem lstK_6 (a0 a1 a2 a3 a4 a5 : PyData) : lstK [.d a0, .d a1, .d a2, .d a3, .d a4, .d a5] = pure (.list [a0, a1, a2, a3, a4, a5]) := lstK_of [a0, a1, a2, a3, a4, a5] (by simp)
@[simp] theorem lstN_6 (a0 a1 a2 a3 a4 a5 : PyData) : lstN [.d a0, .d a1, .d a2, .d a3, .d a4, .d a5] = pure [a0, a1, a2, a3, a4, a5] := lstN_of [a0, a1, a2, a3, a4, a5] (by simp)
@[simp] theorem lstK_7 (a0 a1 a2 a3 a4 a5 a6 : PyData) : lstK [.d a0, .d a1, .d a2, .d a3, .d a4, .d a5, .d a6] = pure (.list [a0, a1, a2, a3, a4, a5, a6]) := lstK_of [a0, a1, a2, a3, a4, a5, a6] (by simp)
@[simp] theorem lstN_7 (a0 a1 a2 a3 a4 a5 a6 : PyData) : lstN [.d a0, .d a1, .d a2, .d a3, .d a4, .d a5, .d a6] = pure [a0, a1, a2, a3, a4, a5, a6] := lstN_of [a0, a1, a2, a3, a4, a5, a6] (by simp)
@[simp] theorem lstK_8 (a0 a1 a2 a3 a4 a5 a6 a7 : PyData) : lstK [.d a0, .d a1, .d a2, .d a3, .d a4, .d a5, .d a6, .d a7] = pure (.list [a0, a1, a2, a3, a4, a5, a6, a7]) := lstK_of [a0, a1, a2, a3, a4, a5, a6, a7] (by simp)
@[simp] theorem lstN_8 (a0 a1 a2 a3 a4 a5 a6 a7 : PyData) : lstN [.d a0, .d a1, .d a2, .d a3, .d a4, .d a5, .d a6, .d a7] = pure [a0, a1, a2, a3, a4, a5, a6, a7] := lstN_of [a0, a1, a2, a3, a4, a5, a6, a7] (by simp)
@[simp] theorem lstK_9 (a0 a1 a2 a3 a4 a5 a6 a7 a8 : PyData) : lstK [.d a0, .d a1, .d a2, .d a3, .d a4, .d a5, .d a6, .d a7, .d a8] = pure (.list [a0, a1, a2, a3, a4, a5, a6, a7, a8]) := lstK_of [a0, a1, a2, a3, a4, a5, a6, a7, a8] (by simp)
@[simp] theorem lstN_9 (a0 a1 a2 a3 a4 a5 a6 a7 a8 : PyData) : lstN [.d a0, .d a1, .d a2, .d a3, .d a4, .d a5, .d a6, .d a7, .d a8] = pure [a0, a1, a2, a3, a4, a5, a6, a7, a8] := lstN_of [a0, a1, a2, a3, a4, a5, a6, a7, a8] (by simp)
@[simp] theorem lstK_10 (a0 a1 a2 a3 a4 a5 a6 a7 a8 a9 : PyData) : lstK [.d a0, .d a1, .d a2, .d a3, .d a4, .d a5, .d a6, .d a7, .d a8, .d a9] = pure (.list [a0, a1, a2, a3, a4, a5, a6, a7, a8, a9]) := lstK_of [a0, a1, a2, a3, a4, a5, a6, a7, a8, a9] (by simp)
@[simp] theorem lstN_10 (a0 a1 a2 a3 a4 a5 a6 a7 a8 a9 : PyData) : lstN [.d a0, .d a1, .d a2, .d a3, .d a4, .d a5, .d a6, .d a7, .d a8, .d a9] = pure [a0, a1, a2, a3, a4, a5, a6, a7, a8, a9] := lstN_of [a0, a1, a2, a3, a4, a5, a6, a7, a8, a9] (by simp)
@[simp] theorem lstK_11 (a0 a1 a2 a3 a4 a5 a6 a7 a8 a9 a10 : PyData) : lstK [.d a0, .d a1, .d a2, .d a3, .d a4, .d a5, .d a6, .d a7, .d a8, .d a9, .d a10] = pure (.list [a0, a1, a2, a3, a4, a5, a6, a7, a8, a9, a10]) := lstK_of [a0, a1, a2, a3, a4, a5, a6, a7, a8, a9, a10] (by simp)
@[simp] theorem lstN_11 (a0 a1 a2 a3 a4 a5 a6 a7 a8 a9 a10 : PyData) : lstN [.d a0, .d a1, .d a2, .d a3, .d a4, .d a5, .d a6, .d a7, .d a8, .d a9, .d a10] = pure [a0, a1, a2, a3, a4, a5, a6, a7, a8, a9, a10] := lstN_of [a0, a1, a2, a3, a4, a5, a6, a7, a8, a9, a10] (by simp)
@[simp] theorem lstK_12 (a0 a1 a2 a3 a4 a5 a6 a7 a8 a9 a10 a11 : PyData) : lstK [.d a0, .d a1, .d a2, .d a3, .d a4, .d a5, .d a6, .d a7, .d a8, .d a9, .d a10, .d a11] = pure (.list [a0, a1, a2, a3, a4, a5, a6, a7, a8, a9, a10, a11]) := lstK_of [a0, a1, a2, a3, a4, a5, a6, a7, a8, a9, a10, a11] (by simp)
@[simp] theorem lstN_12 (a0 a1 a2 a3 a4 a5 a6 a7 a8 a9 a10 a11 : PyData) : lstN [.d a0, .d a1, .d a2, .d a3, .d a4, .d a5, .d a6, .d a7, .d a8, .d a9, .d a10, .d a11] = pure [a0, a1, a2, a3, a4, a5, a6, a7, a8, a9, a10, a11] := lstN_of [a0, a1, a2, a3, a4, a5, a6, a7, a8, a9, a10, a11] (by simp)
@[simp] theorem lstK_13 (a0 a1 a2 a3 a4 a5 a6 a7 a8 a9 a10 a11 a12 : PyData) : lstK [.d a0, .d a1, .d a2, .d a3, .d a4, .d a5, .d a6, .d a7, .d a8, .d a9, .d a10, .d a11, .d a12] = pure (.list [a0, a1, a2, a3, a4, a5, a6, a7, a8, a9, a10, a11, a12]) := lstK_of [a0, a1, a2, a3, a4, a5, a6, a7, a8, a9, a10, a11, a12] (by simp)
@[simp] theorem lstN_13 (a0 a1 a2 a3 a4 a5 a6 a7 a8 a9 a10 a11 a12 : PyData) : lstN [.d a0, .d a1, .d a2, .d a3, .d a4, .d a5, .d a6, .d a7, .d a8, .d a9, .d a10, .d a11, .d a12] = pure [a0, a1, a2, a3, a4, a5, a6, a7, a8, a9, a10, a11, a12] := lstN_of [a0, a1, a2, a3, a4, a5, a6, a7, a8, a9, a10, a11, a12] (by simp)
@[simp] theorem lstK_14 (a0 a1 a2 a3 a4 a5 a6 a7 a8 a9 a10 a11 a12 a13 : PyData) : lstK [.d a0, .d a1, .d a2, .d a3, .d a4, .d a5, .d a6, .d a7, .d a8, .d a9, .d a10, .d a11, .d a12, .d a13] = pure (.list [a0, a1, a2, a3, a4, a5, a6, a7, a8, a9, a10, a11, a12, a13]) := lstK_of [a0, a1, a2, a3, a4, a5, a6, a7, a8, a9, a10, a11, a12, a13] (by simp)
@[simp] theorem lstN_14 (a0 a1 a2 a3 a4 a5 a6 a7 a8 a9 a10 a11 a12 a13 : PyData) : lstN [.d a0, .d a1, .d a2, .d a3, .d a4, .d a5, .d a6, .d a7, .d a8, .d a9, .d a10, .d a11, .d a12, .d a13] = pure [a0, a1, a2, a3, a4, a5, a6, a7, a8, a9, a10, a11, a12, a13] := lstN_of [a0, a1, a2, a3, a4, a5, a6, a7, a8, a9, a10, a11, a12, a13] (by simp)
@[simp] theorem lstK_15 (a0 a1 a2 a3 a4 a5 a6 a7 a8 a9 a10 a11 a12 a13 a14 : PyData) : lstK [.d a0, .d a1, .d a2, .d a3, .d a4, .d a5, .d a6, .d a7, .d a8, .d a9, .d a10, .d a11, .d a12, .d a13, .d a14] = pure (.list [a0, a1, a2, a3, a4, a5, a6, a7, a8, a9, a10, a11, a12, a13, a14]) := lstK_of [a0, a1, a2, a3, a4, a5, a6, a7, a8, a9, a10, a11, a12, a13, a14] (by simp)
@[simp] theorem lstN_15 (a0 a1 a2 a3 a4 a5 a6 a7 a8 a9 a10 a11 a12 a13 a14 : PyData) : lstN [.d a0, .d a1, .d a2, .d a3, .d a4, .d a5, .d a6, .d a7, .d a8, .d a9, .d a10, .d a11, .d a12, .d a13, .d a14] = pure [a0, a1, a2, a3, a4, a5, a6, a7, a8, a9, a10, a11, a12, a13, a14] := lstN_of [a0, a1, a2, a3, a4, a5, a6, a7, a8, a9, a10, a11, a12, a13, a14] (by simp)
@[simp] theorem lstK_16 (a0 a1 a2 a3 a4 a5 a6 a7 a8 a9 a10 a11 a12 a13 a14 a15 : PyData) : lstK [.d a0, .d a1, .d a2, .d a3, .d a4, .d a5, .d a6, .d a7, .d a8, .d a9, .d a10, .d a11, .d a12, .d a13, .d a14, .d a15] = pure (.list [a0, a1, a2, a3, a4, a5, a6, a7, a8, a9, a10, a11, a12, a13, a14, a15]) := lstK_of [a0, a1, a2, a3, a4, a5, a6, a7, a8, a9, a10, a11, a12, a13, a14, a15] (by simp)
@[simp] theorem lstN_16 (a0 a1 a2 a3 a4 a5 a6 a7 a8 a9 a10 a11 a12 a13 a14 a15 : PyData) : lstN [.d a0, .d a1, .d a2, .d a3, .d a4, .d a5, .d a6, .d a7, .d a8, .d a9, .d a10, .d a11, .d a12, .d a13, .d a14, .d a15] = pure [a0, a1, a2, a3, a4, a5, a6, a7, a8, a9, a10, a11, a12, a13, a14, a15] := lstN_of [a0, a1, a2, a3, a4, a5, a6, a7, a8, a9, a10, a11, a12, a13, a14, a15] (by simp)
@[simp] theorem lstK_17 (a0 a1 a2 a3 a4 a5 a6 a7 a8 a9 a10 a11 a12 a13 a14 a15 a16 : PyData) : lstK [.d a0, .d a1, .d a2, .d a3, .d a4, .d a5, .d a6, .d a7, .d a8, .d a9, .d a10, .d a11, .d a12, .d a13, .d a14, .d a15, .d a16] = pure (.list [a0, a1, a2, a3, a4, a5, a6, a7, a8, a9, a10, a11, a12, a13, a14, a15, a16]) := lstK_of [a0, a1, a2, a3, a4, a5, a6, a7, a8, a9, a10, a11, a12, a13, a14, a15, a16] (by simp)
@[simp] theorem lstN_17 (a0 a1 a2 a3 a4 a5 a6 a7 a8 a9 a10 a11 a12 a13 a14 a15 a16 : PyData) : lstN [.d a0, .d a1, .d a2, .d a3, .d a4, .d a5, .d a6, .d a7, .d a8, .d a9, .d a10, .d a11, .d a12, .d a13, .d a14, .d a15, .d a16] = pure [a0, a1, a2, a3, a4, a5, a6, a7, a8, a9, a10, a11, a12, a13, a14, a15, a16] := lstN_of [a0, a1, a2, a3, a4, a5, a6, a7, a8, a9, a10, a11, a12, a13, a14, a15, a16] (by simp)
@[simp] theorem lstK_18 (a0 a1 a2 a3 a4 a5 a6 a7 a8 a9 a10 a11 a12 a13 a14 a15 a16 a17 : PyData) : lstK [.d a0, .d a1, .d a2, .d a3, .d a4, .d a5, .d a6, .d a7, .d a8, .d a9, .d a10, .d a11, .d a12, .d a13, .d a14, .d a15, .d a16, .d a17] = pure (.list [a0, a1, a2, a3, a4, a5, a6, a7, a8, a9, a10, a11, a12, a13, a14, a15, a16, a17]) := lstK_of [a0, a1, a2, a3, a4, a5, a6, a7, a8, a9, a10, a11, a12, a13, a14, a15, a16, a17] (by simp)
@[simp] theorem lstN_18 (a0 a1 a2 a3 a4 a5 a6 a7 a8 a9 a10 a11 a12 a13 a14 a15 a16 a17 : PyData) : lstN [.d a0, .d a1, .d a2, .d a3, .d a4, .d a5, .d a6, .d a7, .d a8, .d a9, .d a10, .d a11, .d a12, .d a13, .d a14, .d a15, .d a16, .d a17] = pure [a0, a1, a2, a3, a4, a5, a6, a7, a8, a9, a10, a11, a12, a13, a14, a15, a16, a17] := lstN_of [a0, a1, a2, a3, a4, a5, a6, a7, a8, a9, a10, a11, a12, a13, a14, a15, a16, a17] (by simp)
@[simp] theorem lstK_19 (a0 a1 a2 a3 a4 a5 a6 a7 a8 a9 a10 a11 a12 a13 a14 a15 a16 a17 a18 : PyData) : lstK [.d a0, .d a1, .d a2, .d a3, .d a4, .d a5, .d a6, .d a7, .d a8, .d a9, .d a10, .d a11, .d a12, .d a13, .d a14, .d a15, .d a16, .d a17, .d a18] = pure (.list [a0, a1, a2, a3, a4, a5, a6, a7, a8, a9, a10, a11, a12, a13, a14, a15, a16, a17, a18]) := lstK_of [a0, a1, a2, a3, a4, a5, a6, a7, a8, a9, a10, a11, a12, a13, a14, a15, a16, a17, a18] (by simp)
@[simp] theorem lstN_19 (a0 a1 a2 a3 a4 a5 a6 a7 a8 a9 a10 a11 a12 a13 a14 a15 a16 a17 a18 : PyData) : lstN [.d a0, .d a1, .d a2, .d a3, .d a4, .d a5, .d a6, .d a7, .d a8, .d a9, .d a10, .d a11, .d a12, .d a13, .d a14, .d a15, .d a16, .d a17, .d a18] = pure [a0, a1, a2, a3, a4, a5, a6, a7, a8, a9, a10, a11, a12, a13, a14, a15, a16, a17, a18] := lstN_of [a0, a1, a2, a3, a4, a5, a6, a7, a8, a9, a10, a11, a12, a13, a14, a15, a16, a17, a18] (by simp)
@[simp] theorem lstK_20 (a0 a1 a2 a3 a4 a5 a6 a7 a8 a9 a10 a11 a12 a13 a14 a15 a16 a17 a18 a19 : PyData) : lstK [.d a0, .d a1, .d a2, .d a3, .d a4, .d a5, .d a6, .d a7, .d a8, .d a9, .d a10, .d a11, .d a12, .d a13, .d a14, .d a15, .d a16, .d a17, .d a18, .d a19] = pure (.list [a0, a1, a2, a3, a4, a5, a6, a7, a8, a9, a10, a11, a12, a13, a14, a15, a16, a17, a18, a19]) := lstK_of [a0, a1, a2, a3, a4, a5, a6, a7, a8, a9, a10, a11, a12, a13, a14, a15, a16, a17, a18, a19] (by simp)
@[simp] theorem lstN_20 (a0 a1 a2 a3 a4 a5 a6 a7 a8 a9 a10 a11 a12 a13 a14 a15 a16 a17 a18 a19 : PyData) : lstN [.d a0, .d a1, .d a2, .d a3, .d a4, .d a5, .d a6, .d a7, .d a8, .d a9, .d a10, .d a11, .d a12, .d a13, .d a14, .d a15, .d a16, .d a17, .d a18, .d a19] = pure [a0, a1, a2, a3, a4, a5, a6, a7, a8, a9, a10, a11, a12, a13, a14, a15, a16, a17, a18, a19] := lstN_of [a0, a1, a2, a3, a4, a5, a6, a7, a8, a9, a10, a11, a12, a13, a14, a15, a16, a17, a18, a19] (by simp)
theorem ix_mem {xs : List PyData} {v : Int} (h : 0 ≤ v) (h2 : v < xs.length) : ∃ d, d ∈ xs ∧ ixM (.list xs) (.int v) = pure d :=
  ⟨xs[v.toNat]'(by omega), List.getElem_mem _, ix_list h (List.getElem?_eq_getElem (by omega))⟩
theorem add_list {a b : List PyData} (h : a.length + b.length ≤ 16777216) : addM (.list a) (.list b) = pure (.list (a ++ b)) := by
  show ofO (if a.length + b.length ≤ line then some (PyData.list (a ++ b)) else none) = _
  rw [if_pos (show a.length + b.length ≤ line from h)]; rfl
theorem add_tuple {a b : List PyData} (h : a.length + b.length ≤ 16777216) : addM (.tuple a) (.tuple b) = pure (.tuple (a ++ b)) := by
  show ofO (if a.length + b.length ≤ line then some (PyData.tuple (a ++ b)) else none) = _
  rw [if_pos (show a.length + b.length ≤ line from h)]; rfl
@[simp] theorem int_bool (b : Bool) : intM (.bool b) = pure (.int (if b then 1 else 0)) := rfl
theorem fr_int (z : Int) : (.tuple [.int z, .int 1] : PyData) = fr (z : Rat) := rfl
theorem bt_int {z : Int} {n : Nat} (h : z.natAbs < 2 ^ n) (hn : 1 ≤ n) : Bt n (z : Rat) := ⟨h, by
  show 1 < 2 ^ n
  exact Nat.one_lt_two_pow (by omega)⟩
def IsFr (n : Nat) (d : PyData) : Prop := ∃ q, d = fr q ∧ Bt n q
theorem fraction_gen : Gen1 L.law_fraction (IsFr 50) := by
  unfold L.law_fraction
  refine Gen.frame0 ?_
  simp only [fin_bind, bind_assoc', pure_bind', fin_cond]
  refine Gen.bind (choice (by decide) (by decide)) ?_
  rintro _ ⟨t, rfl, t0, t1⟩
  simp only [sub_int, pure_bind']
  refine Gen.bind (choice (by decide) (by decide)) ?_
  rintro _ ⟨w, rfl, w0, w1⟩
  simp only [lt_int, pure_bind']
  refine Gen.cond (fun hw => ?_) fun hw => ?_
  · have hw := of_decide_eq_true hw
    simp only [tupK_2, pure_bind', lstK_3]
    obtain ⟨d, hd, e⟩ := ix_mem (xs := [.tuple [.int 0, .int 1], .tuple [.int 1, .int 1], .tuple [.int (t - 9), .int 1]]) w0 (by simpa using hw)
    simp only [e, pure_bind', fin_rt]
    refine Gen.pure ?_
    simp only [List.mem_cons, List.not_mem_nil, or_false] at hd
    rcases hd with rfl | rfl | rfl
    · exact ⟨_, fr_int 0, bt_int (by decide) (by decide)⟩
    · exact ⟨_, fr_int 1, bt_int (by decide) (by decide)⟩
    · exact ⟨_, fr_int _, bt_int (by omega) (by decide)⟩
  · rw [pow_int (by decide)]
    simp only [pure_bind', add_int, lstK_2, ofB_bind, bind_assoc']
    refine Gen.bind (choice (by decide) (by decide)) ?_
    rintro _ ⟨u, rfl, u0, u1⟩
    simp only [eq_int, ofB_pure, pure_bind', int_bool, bind_pure']
    obtain ⟨d, hd, e⟩ := ix_mem (xs := [.int 1, .int (10 ^ Int.toNat 12 + 7)]) (v := if decide (u = 0) then 1 else 0) (by split <;> decide) (by split <;> decide)
    simp only [e, pure_bind']
    obtain ⟨z, rfl, z0, z1⟩ : ∃ z : Int, d = .int z ∧ 0 ≤ z ∧ z < 2 ^ 41 := by
      simp only [List.mem_cons, List.not_mem_nil, or_false] at hd
      rcases hd with rfl | rfl
      · exact ⟨_, rfl, by decide, by decide⟩
      · exact ⟨_, rfl, by decide, by decide⟩
    rw [mul_int (mulOk_of (a := 10) (b := 50) (by omega) (by omega) (by omega))]
    simp only [pure_bind']
    refine Gen.bind (choice (by decide) (by decide)) ?_
    rintro _ ⟨v, rfl, v0, v1⟩
    have hm : ((t - 9) * z).natAbs < 2 ^ 50 := by
      rw [Int.natAbs_mul]
      have h1 : (t - 9).natAbs ≤ 9 := by omega
      have h2 : z.natAbs < 2 ^ 41 := by omega
      have := Nat.mul_le_mul h1 (Nat.le_of_lt h2)
      omega
    have hp : (2 : Nat) ^ 50 ≤ 2 ^ 9000 := Nat.pow_le_pow_right (by decide) (by decide)
    simp only [add_int, pure_bind']
    rw [low_eq _ _ (by omega) (by omega) (by omega)]
    simp only [sub_pure, pure_bind', fin_rt]
    exact Gen.pure ⟨_, rfl, .divInt hm (by omega) (by omega)⟩
theorem fraction : Gen (V.sub [0] L.law_fraction) (IsFr 50) := fraction_gen.sub
end V
set_option exponentiation.threshold 20000
namespace V
open PySem PySem.Spec ZL L2
section
variable {α β : Type}
def At (r : Cells) : Cells → Prop := fun s => ∃ st, GoodSt st ∧ s = cS st :: r
def AtL (n : Nat) : Cells → Prop := fun s => ∃ r, r.length = n ∧ At r s
def Ln (n : Nat) : Cells → Prop := fun s => s.length = n
theorem At.gen {m : M α} {k : α → M β} {P : α → Prop} {Q : β → Cells → Prop} {r : Cells} (h : Gen m P) (hk : ∀ a, P a → Tr (At r) (k a) Q) : Tr (At r) (m >>= k) Q := by
  rintro s ⟨st, g, rfl⟩
  obtain ⟨a, st', g', p, e⟩ := h st r g
  obtain ⟨b, s2, e2, q⟩ := hk a p _ ⟨st', g', rfl⟩
  exact ⟨b, s2, by rw [bind_ok e]; exact e2, q⟩
theorem At.pure {r : Cells} {a : α} {Q : α → Cells → Prop} (h : ∀ s, At r s → Q a s) : Tr (At r) (pure a : M α) Q := Tr.pure h
theorem At.cond {r : Cells} {b : Bool} {x y : M α} {Q : α → Cells → Prop} (h1 : b = true → Tr (At r) x Q) (h2 : b = false → Tr (At r) y Q) : Tr (At r) (bif b then x else y) Q := Tr.cond h1 h2
theorem Gen1.ofTr {m : M PyData} {P : PyData → Prop} {nl : Nat} (h : Tr (At (List.replicate nl none)) m fun a s => P a ∧ ∃ st r, GoodSt st ∧ s = cS st :: r) : Gen1 (V.frame nl m) P := fun st g => by
  obtain ⟨a, s', e, p, st', r, g', rfl⟩ := h _ ⟨st, g, rfl⟩
  exact ⟨a, st', g', p, by rw [frame_run (s := [cS st]) e]; rfl⟩
theorem At.out {r : Cells} {s : Cells} (h : At r s) : ∃ st r, GoodSt st ∧ s = cS st :: r := let ⟨st, g, e⟩ := h; ⟨st, r, g, e⟩
theorem AtL.tr {n : Nat} {m : M α} {Q : α → Cells → Prop} (h : ∀ r, r.length = n → Tr (At r) m Q) : Tr (AtL n) m Q := fun s ⟨r, hr, p⟩ => h r hr s p
theorem AtL.one {m : M α} {Q : α → Cells → Prop} (h : ∀ c, Tr (At [c]) m Q) : Tr (AtL 1) m Q := AtL.tr fun r hr => by
  rcases r with _ | ⟨c, _ | ⟨d, r⟩⟩ <;> simp at hr
  exact h c
theorem AtL.zero {m : M α} {Q : α → Cells → Prop} (h : Tr (At []) m Q) : Tr (AtL 0) m Q := AtL.tr fun r hr => by
  rcases r with _ | ⟨c, r⟩ <;> simp at hr
  exact h
theorem At.l {r : Cells} {s : Cells} (h : At r s) : AtL r.length s := ⟨r, rfl, h⟩
theorem Ln.set0 {n : Nat} {st : List PyData} {k : Unit → M β} {Q : β → Cells → Prop} (g : GoodSt st) (hk : Tr (AtL n) (k ()) Q) : Tr (Ln (n + 1)) (setC 0 st >>= k) Q := by
  intro s hs
  rcases s with _ | ⟨c, r⟩
  · cases hs
  · obtain ⟨b, s2, e2, q⟩ := hk (cS st :: r) ⟨r, by simpa [Ln] using hs, st, g, rfl⟩
    refine ⟨b, s2, ?_, q⟩
    rw [bind_ok (s' := cS st :: r) (a := ())]
    · exact e2
    · show (if 0 < (c :: r).length then Res.ok () _ else _) = _
      rw [if_pos (by simp)]; rfl
theorem AtL.ln {n : Nat} {s : Cells} (h : AtL n s) : Ln (n + 1) s := by
  obtain ⟨r, hr, st, _, rfl⟩ := h
  simp [Ln, hr]
theorem Tr.for0 {L γ : Type} {pt : PyData → Option γ} {body : γ → Unit → M (Fl Unit Unit)} {Q : β → Cells → Prop} {k : Fl L Unit → M β} (I : Cells → Prop) {xs : List PyData} (h : ∀ x ∈ xs, ∃ u, pt x = some u ∧ Tr I (body u ()) fun f s => f = .nx () ∧ I s) (hk : Tr I (k (.nx ())) Q) : Tr I (V.forM pt body xs () >>= k) Q := by
  refine Tr.bind (R := fun f s => f = .nx () ∧ I s) ((Tr.forM (T := Unit) (fun _ => I) (fun x hx => ?_) fun _ s p => ⟨rfl, p⟩) : Tr ((fun _ : Unit => I) ()) _ _) fun f => ?_
  · obtain ⟨u, e, hb⟩ := h x hx
    refine ⟨u, e, fun _ => (hb).post fun f s ⟨ef, p⟩ => by subst ef; exact p⟩
  · rintro s ⟨rfl, p⟩
    exact hk s p
end
theorem law_end {nl : Nat} {m : M PyData} (h : Tr (Ln nl) m fun a _ => a = .bool true) : ∃ s', V.frame nl m [] = .ok (.bool true) s' := by
  obtain ⟨a, s', e, rfl⟩ := h (List.replicate nl none) (by simp [Ln])
  exact ⟨[], by rw [frame_run (s := []) (by simpa using e)]; rfl⟩
end V
set_option exponentiation.threshold 20000
namespace V
open PySem PySem.Spec ZL L2
mutual
def ib (b : Nat) : PyData → Prop
  | .int i => i.natAbs < 2 ^ b
  | .list xs => ibA b xs
  | .tuple xs => ibA b xs
  | .dict kvs => kvs = []
  | _ => True
def ibA (b : Nat) : List PyData → Prop
  | [] => True
  | x :: xs => ib b x ∧ ibA b xs
end
theorem ibA_iff {b : Nat} : ∀ {xs : List PyData}, ibA b xs ↔ ∀ x ∈ xs, ib b x
  | [] => by simp [ibA]
  | x :: xs => by simp [ibA, ibA_iff (xs := xs)]
mutual
theorem ib_mono {b c : Nat} (h : b ≤ c) : ∀ {d : PyData}, ib b d → ib c d
  | .int i, q => Nat.lt_of_lt_of_le q (Nat.pow_le_pow_right (by decide) h)
  | .list xs, q => by simp only [ib] at *; exact ibA_mono h q
  | .tuple xs, q => by simp only [ib] at *; exact ibA_mono h q
  | .dict kvs, q => q
  | .none, _ => by simp [ib]
  | .bool _, _ => by simp [ib]
  | .str _, _ => by simp [ib]
theorem ibA_mono {b c : Nat} (h : b ≤ c) : ∀ {ds : List PyData}, ibA b ds → ibA c ds
  | [], _ => by simp [ibA]
  | x :: xs, q => ⟨ib_mono h q.1, ibA_mono h q.2⟩
end
theorem canLayAll_iff {xs : List PyData} : PyData.canLayAll0 xs = true ↔ ∀ x ∈ xs, x.canLay0 = true := by
  induction xs with
  | nil => simp [PyData.canLayAll0]
  | cons x r ih => simp [PyData.canLayAll0, ih]
theorem lfreeAll_iff {xs : List PyData} : lfreeAll xs = true ↔ ∀ x ∈ xs, lfree x = true := by
  induction xs with
  | nil => simp [lfreeAll]
  | cons x r ih => simp [lfreeAll, ih]
mutual
theorem ib_showable {b : Nat} (hb : b ≤ 1920) : ∀ {d : PyData}, ib b d → d.showable = true
  | .int i, q => by
    simp only [PyData.showable, decide_eq_true_eq]
    have q : i.natAbs < 2 ^ 1920 := Nat.lt_of_lt_of_le q (Nat.pow_le_pow_right (by decide) hb)
    by_cases e : i.natAbs = 0
    · rw [e]; decide
    · exact (Nat.log2_lt e).mpr q
  | .list xs, q => by simp only [ib] at q; simp only [PyData.showable]; exact ibA_showable hb q
  | .tuple xs, q => by simp only [ib] at q; simp only [PyData.showable]; exact ibA_showable hb q
  | .dict kvs, q => by simp only [ib] at q; subst q; rfl
  | .none, _ => rfl
  | .bool _, _ => rfl
  | .str _, _ => rfl
theorem ibA_showable {b : Nat} (hb : b ≤ 1920) : ∀ {ds : List PyData}, ibA b ds → PyData.showableAll ds = true
  | [], _ => rfl
  | x :: xs, q => by simp only [PyData.showableAll, ib_showable hb q.1, ibA_showable hb q.2]; rfl
end
structure Bq (b D Z : Nat) (d : PyData) : Prop where
  i : ib b d
  dp : d.depth ≤ D
  z : sz d ≤ Z
  o : d.hasDict = false ∨ lfree d = true
structure Tq (b D Z : Nat) (d : PyData) : Prop where
  i : ib b d
  dp : d.depth ≤ D
  z : sz d ≤ Z
  c : d.canLay0 = true
  l : lfree d = true
theorem Tq.h {b D Z : Nat} {d : PyData} (h : Tq b D Z d) : d.hasDict = false := PyData.hasDict_of_canLay d h.c
theorem Tq.q {b D Z : Nat} {d : PyData} (h : Tq b D Z d) : Bq b D Z d := ⟨h.i, h.dp, h.z, .inl h.h⟩
theorem Bq.mono {b D Z b' D' Z' : Nat} {d : PyData} (h : Bq b D Z d) (h1 : b ≤ b') (h2 : D ≤ D') (h3 : Z ≤ Z') : Bq b' D' Z' d := ⟨ib_mono h1 h.i, Nat.le_trans h.dp h2, Nat.le_trans h.z h3, h.o⟩
theorem Tq.mono {b D Z b' D' Z' : Nat} {d : PyData} (h : Tq b D Z d) (h1 : b ≤ b') (h2 : D ≤ D') (h3 : Z ≤ Z') : Tq b' D' Z' d := ⟨ib_mono h1 h.i, Nat.le_trans h.dp h2, Nat.le_trans h.z h3, h.c, h.l⟩
theorem Bq.ok {b D Z : Nat} {d : PyData} (h : Bq b D Z d) (hb : b ≤ 1920) (hD : D ≤ 100) (hZ : Z ≤ 16777216) : reprOk d = true := by
  have s := ib_showable hb h.i
  unfold reprOk
  simp only [Bool.and_eq_true, decide_eq_true_eq, Bool.or_eq_true, Bool.not_eq_true']
  exact ⟨⟨⟨s, Nat.le_trans h.dp hD⟩, h.o⟩, Nat.le_trans (shown_sz d s) (Nat.le_trans h.z hZ)⟩
theorem tq_int {b : Nat} {z : Int} (h : z.natAbs < 2 ^ b) : Tq b 0 1921 (.int z) := ⟨h, by simp [PyData.depth], by simp [sz], rfl, rfl⟩
theorem tq_tuple {b D Z : Nat} {xs : List PyData} (h : ∀ x ∈ xs, Tq b D Z x) {l : Nat} (hl : xs.length ≤ l) : Tq b (D + 1) (l * (Z + 2) + 3) (.tuple xs) := by
  refine ⟨by simp only [ib]; exact ibA_iff.mpr fun x hx => (h x hx).i, ?_, ?_, by simp only [PyData.canLay0]; exact canLayAll_iff.mpr fun x hx => (h x hx).c, by simp only [lfree]; exact lfreeAll_iff.mpr fun x hx => (h x hx).l⟩
  · simp only [PyData.depth]
    have : PyData.depthAll xs ≤ D := by
      clear hl
      induction xs with
      | nil => simp [PyData.depthAll]
      | cons x r ih =>
        have := (h x (by simp)).dp
        have := ih fun y hy => h y (by simp [hy])
        simp only [PyData.depthAll]; omega
    omega
  · simp only [sz]
    have : szA xs ≤ xs.length * (Z + 2) := by
      clear hl
      induction xs with
      | nil => simp [szA]
      | cons x r ih =>
        have := (h x (by simp)).z
        have := ih fun y hy => h y (by simp [hy])
        simp only [szA, List.length_cons, Nat.succ_mul]; omega
    have := Nat.mul_le_mul_right (Z + 2) hl
    omega
theorem slH_tuple {xs : List PyData} {i : Int} (h : 0 ≤ i) : slH (.tuple xs) (.int i) = pure (.tuple (xs.take i.toNat)) := by
  show pure (PyData.tuple (cutD xs none (some i))) = (pure _ : M PyData)
  congr 1; congr 1
  unfold cutD
  simp only [HT.sIx, Nat.sub_zero, List.drop_zero]
  rw [if_neg (by omega)]
  by_cases q : i ≤ (xs.length : Int)
  · congr 1; omega
  · rw [List.take_of_length_le (by omega), List.take_of_length_le (by omega)]
theorem slL_tuple {xs : List PyData} {i : Int} (h : 0 ≤ i) : slL (.tuple xs) (.int i) = pure (.tuple (xs.drop i.toNat)) := by
  show pure (PyData.tuple (cutD xs (some i) none)) = (pure _ : M PyData)
  congr 1; congr 1
  unfold cutD
  simp only [HT.sIx]
  rw [if_neg (by omega)]
  by_cases q : i ≤ (xs.length : Int)
  · rw [show min i.toNat xs.length = i.toNat by omega, List.take_of_length_le (by rw [List.length_drop]; omega)]
  · rw [show min i.toNat xs.length = xs.length by omega, List.drop_of_length_le (Nat.le_refl _), List.drop_of_length_le (by omega)]; simp
end V
set_option exponentiation.threshold 20000
namespace V
open PySem PySem.Spec ZL L2
@[simp] theorem fr_0 (q : Rat) : ixM (fr q) (.int 0) = pure (.int q.num) := ix_tuple (by decide) rfl
@[simp] theorem fr_1 (q : Rat) : ixM (fr q) (.int 1) = pure (.int q.den) := ix_tuple (by decide) rfl
theorem add_divInt (p q : Rat) : Rat.divInt (p.num * q.den + q.num * p.den) (p.den * q.den) = p + q := by
  have hp : (p.den : Int) ≠ 0 := by have := p.den_pos; omega
  have hq : (q.den : Int) ≠ 0 := by have := q.den_pos; omega
  have := Rat.divInt_add_divInt p.num q.num hp hq
  rw [Rat.num_divInt_den, Rat.num_divInt_den] at this
  exact this.symm
theorem sub_divInt (p q : Rat) : Rat.divInt (p.num * q.den - q.num * p.den) (p.den * q.den) = p - q := by
  have hp : (p.den : Int) ≠ 0 := by have := p.den_pos; omega
  have hq : (q.den : Int) ≠ 0 := by have := q.den_pos; omega
  have := Rat.divInt_sub_divInt p.num q.num hp hq
  rw [Rat.num_divInt_den, Rat.num_divInt_den] at this
  exact this.symm
theorem neg_num (q : Rat) : (-q).num = -q.num := rfl
theorem neg_den (q : Rat) : (-q).den = q.den := rfl
theorem mul_lt_pow {x y a b : Nat} (hx : x < 2 ^ a) (hy : y < 2 ^ b) : x * y < 2 ^ (a + b) := by
  rw [Nat.pow_add]
  exact Nat.mul_lt_mul'' hx hy
theorem den_ne (q : Rat) : (q.den : Int) ≠ 0 := by have := q.den_pos; omega
theorem Bt.one {n : Nat} {q : Rat} (h : Bt n q) : 1 ≤ n := by
  have := h.2; have := q.den_pos
  rcases Nat.eq_zero_or_pos n with e | e
  · subst e; simp at *; omega
  · exact e
section
variable {p q : Rat} {a b : Nat}
theorem add_num (hp : Bt a p) (hq : Bt b q) : (p.num * q.den + q.num * p.den).natAbs < 2 ^ (a + b + 1) := by
  have h1 := mul_lt_pow hp.1 hq.2
  have h2 := mul_lt_pow hq.1 hp.2
  rw [Nat.add_comm b a] at h2
  have e1 : (p.num * q.den).natAbs = p.num.natAbs * q.den := by rw [Int.natAbs_mul]; rfl
  have e2 : (q.num * p.den).natAbs = q.num.natAbs * p.den := by rw [Int.natAbs_mul]; rfl
  rw [Nat.pow_succ]
  omega
theorem sub_num (hp : Bt a p) (hq : Bt b q) : (p.num * q.den - q.num * p.den).natAbs < 2 ^ (a + b + 1) := by
  have h1 := mul_lt_pow hp.1 hq.2
  have h2 := mul_lt_pow hq.1 hp.2
  rw [Nat.add_comm b a] at h2
  have e1 : (p.num * q.den).natAbs = p.num.natAbs * q.den := by rw [Int.natAbs_mul]; rfl
  have e2 : (q.num * p.den).natAbs = q.num.natAbs * p.den := by rw [Int.natAbs_mul]; rfl
  rw [Nat.pow_succ]
  omega
theorem den_mul (hp : Bt a p) (hq : Bt b q) : ((p.den : Int) * q.den).natAbs < 2 ^ (a + b) := by
  rw [Int.natAbs_mul]
  exact mul_lt_pow hp.2 hq.2
theorem den_mul_ne (p q : Rat) : ((p.den : Int) * q.den) ≠ 0 := Int.mul_ne_zero (den_ne p) (den_ne q)
theorem Bt.add (hp : Bt a p) (hq : Bt b q) : Bt (a + b + 1) (p + q) := by
  rw [← add_divInt]
  exact .divInt (add_num hp hq) (Nat.lt_of_lt_of_le (den_mul hp hq) (Nat.pow_le_pow_right (by decide) (by omega))) (den_mul_ne p q)
theorem Bt.sub (hp : Bt a p) (hq : Bt b q) : Bt (a + b + 1) (p - q) := by
  rw [← sub_divInt]
  exact .divInt (sub_num hp hq) (Nat.lt_of_lt_of_le (den_mul hp hq) (Nat.pow_le_pow_right (by decide) (by omega))) (den_mul_ne p q)
theorem Bt.neg (hp : Bt a p) : Bt a (-p) := by
  unfold Bt
  rw [neg_num, neg_den, Int.natAbs_neg]
  exact hp
end
end V
namespace V
open PySem PySem.Spec ZL L2
theorem law_cells {β : Type} {n : Nat} (ns : List Int) (h63 : ns.length ≤ 63) (most : Int) {body : List PyData → M (Fl Unit Unit)} {k : Fl Unit Unit → M β} {Q : β → Cells → Prop} (hb : ∀ (i : Nat) st, GoodSt st → Tr (AtL n) (body st) fun f s => f = .nx () ∧ Ln (n + 1) s) (hk : Tr (Ln (n + 1)) (k (.nx ())) Q) :
    Tr (Ln (n + 1)) (rangeM (.int 0) (.int (max 1 (min (ns.length : Int) most))) >>= fun xs => V.forM pN (fun u5 (_ : Unit) => callL (sub [] (L.law_state (.list (ns.map PyData.int)) u5)) >>= fun st => setC 0 st >>= fun _ => body st) xs () >>= k) Q := by
  obtain ⟨m, em⟩ : ∃ m : Int, m = max 1 (min (ns.length : Int) most) := ⟨_, rfl⟩
  have hm : m < 2 ^ 62 := by omega
  · have r1 : rangeM (.int 0) (.int m) = pure (rangeD 0 m.toNat) := by
      show ofO (if _ then _ else _) = _
      rw [if_pos (by simp; omega)]; simp
    rw [← em, r1, pure_bind']
    refine Tr.for0 (Ln (n + 1)) (fun x hx => ?_) hk
    obtain ⟨i, rfl⟩ : ∃ i : Nat, x = .int (i : Int) := by
      simp only [rangeD, List.mem_map] at hx
      obtain ⟨i, _, rfl⟩ := hx
      exact ⟨i, by simp⟩
    refine ⟨_, rfl, ?_⟩
    obtain ⟨st, g, es⟩ := state_eq ns i (by omega)
    rw [es, sub_pure, show callL (pure (PyData.list st)) = pure st from rfl, pure_bind']
    exact Ln.set0 g (hb i st g)
end V
set_option exponentiation.threshold 20000
namespace V
open PySem PySem.Spec ZL L2
abbrev Pt := Int × Int
abbrev Pc := Nat × Nat × Nat
def ePt (p : Pt) : PyData := .tuple [.int p.1, .int p.2]
def ePc (p : Pc) : PyData := .tuple [.int (p.1 : Int), .int (p.2.1 : Int), .int (p.2.2 : Int)]
structure Pl where
  cs : List Pt
  ps : List Pc
  th : List Int
  l : Int
  m : Int
def eCs (cs : List Pt) : PyData := .tuple (cs.map ePt)
def ePs (ps : List Pc) : PyData := .tuple (ps.map ePc)
def eTh (th : List Int) : PyData := .tuple (th.map PyData.int)
def eLm (P : Pl) : PyData := .tuple [.int P.l, .int P.m]
def ePl (P : Pl) : PyData := .tuple [eCs P.cs, ePs P.ps, eTh P.th, eLm P]
def xy (cs : List Pt) (i : Nat) : Pt := cs.getD i (0, 0)
def turn (p q r : Pt) : Int := (q.1 - p.1) * (r.2 - p.2) - (r.1 - p.1) * (q.2 - p.2)
def sgn (x : Int) : Int := (if 0 < x then 1 else 0) - (if x < 0 then 1 else 0)
def three (cs : List Pt) (p : Pc) (i : Nat) : List Int := [sgn (turn (xy cs p.1) (xy cs p.2.1) (xy cs i)), sgn (turn (xy cs p.2.1) (xy cs p.2.2) (xy cs i)), sgn (turn (xy cs p.2.2) (xy cs p.1) (xy cs i))]
def liesB (cs : List Pt) (p : Pc) (i : Nat) : Bool := !((three cs p i).contains (-1) && (three cs p i).contains 1)
def sidesOf (p : Pc) : List (Nat × Nat) := [(p.1, p.2.1), (p.1, p.2.2), (p.2.1, p.2.2)]
def crossB (cs : List Pt) (s t : Nat × Nat) : Bool := (sgn (turn (xy cs s.1) (xy cs s.2) (xy cs t.1)) * sgn (turn (xy cs s.1) (xy cs s.2) (xy cs t.2)) == -1) && (sgn (turn (xy cs t.1) (xy cs t.2) (xy cs s.1)) * sgn (turn (xy cs t.1) (xy cs t.2) (xy cs s.2)) == -1)
def ltPc (p q : Pc) : Bool := decide (p.1 < q.1) || (decide (p.1 = q.1) && (decide (p.2.1 < q.2.1) || (decide (p.2.1 = q.2.1) && decide (p.2.2 < q.2.2))))
def inb (p : Pt) : Prop := (-100 ≤ p.1 ∧ p.1 ≤ 100) ∧ -100 ≤ p.2 ∧ p.2 ≤ 100
structure PcOk (cs : List Pt) (p : Pc) : Prop where
  ab : p.1 < p.2.1
  bc : p.2.1 < p.2.2
  c : p.2.2 < cs.length
  t : turn (xy cs p.1) (xy cs p.2.1) (xy cs p.2.2) ≠ 0
structure PlOk (P : Pl) : Prop where
  n3 : 3 ≤ P.cs.length
  n30 : P.cs.length ≤ 30
  inb : ∀ p ∈ P.cs, inb p
  nd : P.cs.Nodup
  k1 : 1 ≤ P.ps.length
  k20 : P.ps.length ≤ 20
  pc : ∀ p ∈ P.ps, PcOk P.cs p
  ri : ∀ i (h : i + 1 < P.ps.length), ltPc P.ps[i] P.ps[i + 1] = true
  tl : P.th.length = P.ps.length
  th : ∀ t ∈ P.th, 1 ≤ t ∧ t ≤ 9
  l : 0 ≤ P.l ∧ P.l ≤ 9
  m : 1 ≤ P.m ∧ P.m ≤ 9
  us : ∀ i < P.cs.length, ∃ p ∈ P.ps, i = p.1 ∨ i = p.2.1 ∨ i = p.2.2
  ly : ∀ p ∈ P.ps, ∀ i < P.cs.length, i ≠ p.1 → i ≠ p.2.1 → i ≠ p.2.2 → liesB P.cs p i = false
  cr : ∀ p ∈ P.ps, ∀ q ∈ P.ps, ∀ s ∈ sidesOf p, ∀ t ∈ sidesOf q, crossB P.cs s t = false
@[simp] theorem pt_0 (p : Pt) : ixM (ePt p) (.int 0) = pure (.int p.1) := ix_tuple (by decide) rfl
@[simp] theorem pt_1 (p : Pt) : ixM (ePt p) (.int 1) = pure (.int p.2) := ix_tuple (by decide) rfl
theorem ix_nat {xs : List PyData} (i : Nat) {d : PyData} (e : xs[i]? = some d) : ixM (.tuple xs) (.int (i : Int)) = pure d := ix_tuple (by omega) (by simpa using e)
theorem ix_natL {xs : List PyData} (i : Nat) {d : PyData} (e : xs[i]? = some d) : ixM (.list xs) (.int (i : Int)) = pure d := ix_list (by omega) (by simpa using e)
theorem xy_at {cs : List Pt} {i : Nat} (h : i < cs.length) : cs[i]? = some (xy cs i) := by
  unfold xy
  rw [List.getElem?_eq_getElem h, List.getD_eq_getElem?_getD, List.getElem?_eq_getElem h]; rfl
theorem cs_at {cs : List Pt} {i : Nat} (h : i < cs.length) : ixM (eCs cs) (.int (i : Int)) = pure (ePt (xy cs i)) := ix_nat i (by rw [List.getElem?_map, xy_at h]; rfl)
theorem th_at {th : List Int} {i : Nat} (h : i < th.length) : ixM (eTh th) (.int (i : Int)) = pure (.int th[i]) := ix_nat i (by rw [List.getElem?_map, List.getElem?_eq_getElem h]; rfl)
@[simp] theorem pl_0 (P : Pl) : ixM (ePl P) (.int 0) = pure (eCs P.cs) := ix_tuple (by decide) rfl
@[simp] theorem pl_1 (P : Pl) : ixM (ePl P) (.int 1) = pure (ePs P.ps) := ix_tuple (by decide) rfl
@[simp] theorem pl_2 (P : Pl) : ixM (ePl P) (.int 2) = pure (eTh P.th) := ix_tuple (by decide) rfl
@[simp] theorem pl_3 (P : Pl) : ixM (ePl P) (.int 3) = pure (eLm P) := ix_tuple (by decide) rfl
@[simp] theorem len_cs (cs : List Pt) : lenM (eCs cs) = pure (.int cs.length) := by unfold eCs; rw [len_tuple, List.length_map]
@[simp] theorem len_ps (ps : List Pc) : lenM (ePs ps) = pure (.int ps.length) := by unfold ePs; rw [len_tuple, List.length_map]
@[simp] theorem len_th (th : List Int) : lenM (eTh th) = pure (.int th.length) := by unfold eTh; rw [len_tuple, List.length_map]
theorem inb_xy {cs : List Pt} (h : ∀ p ∈ cs, inb p) {i : Nat} (hi : i < cs.length) : inb (xy cs i) := h _ (List.mem_of_getElem? (xy_at hi))
theorem mulS {x y : Int} (hx : -1000000 ≤ x ∧ x ≤ 1000000) (hy : -1000000 ≤ y ∧ y ≤ 1000000) : mulM (.int x) (.int y) = pure (.int (x * y)) := mul_int (mulOk_of (a := 20) (b := 20) (by omega) (by omega) (by omega))
theorem turn_of_eq {p q r : Pt} (hp : inb p) (hq : inb q) (hr : inb r) : L.turn_of (ePt p) (ePt q) (ePt r) = pure (.int (turn p q r)) := by
  obtain ⟨⟨_, _⟩, _, _⟩ := hp; obtain ⟨⟨_, _⟩, _, _⟩ := hq; obtain ⟨⟨_, _⟩, _, _⟩ := hr
  unfold L.turn_of
  simp only [pt_0, pt_1, pure_bind', sub_int]
  rw [mulS ⟨by omega, by omega⟩ ⟨by omega, by omega⟩, mulS ⟨by omega, by omega⟩ ⟨by omega, by omega⟩]
  simp only [pure_bind', sub_int, fin_rt, frame_pure]
  rfl
theorem sign_of_eq (x : Int) : L.sign_of (.int x) = pure (.int (sgn x)) := by
  unfold L.sign_of
  simp only [gt_int, lt_int, ofB_pure, pure_bind', int_bool, sub_int, fin_rt, frame_pure, decide_eq_true_eq]
  rfl
theorem sgn_cases (x : Int) : sgn x = -1 ∨ sgn x = 0 ∨ sgn x = 1 := by unfold sgn; split <;> split <;> omega
theorem comp_of {f : PyData → M PyData} {α : Type} {xs : List α} {e g : α → PyData} (hl : xs.length ≤ 16777216) (h : ∀ x ∈ xs, f (e x) = pure (g x)) : comp pN yep f (xs.map e) = pure (xs.map g) := by
  unfold comp
  rw [if_pos (show (xs.map e).length ≤ line by rw [List.length_map]; exact hl)]
  have : ∀ {xs : List α}, (∀ x ∈ xs, f (e x) = pure (g x)) → compP pN yep f (xs.map e) = pure (xs.map g) := by
    intro xs
    induction xs with
    | nil => intro _; rfl
    | cons x r ih =>
      intro h
      rw [List.map_cons]
      unfold compP
      rw [ofO_some, pure_bind', pure_bind', cond_true, h x List.mem_cons_self, pure_bind', ih fun y hy => h y (List.mem_cons_of_mem _ hy), pure_bind']
      rfl
  rw [this h]
  rfl
theorem comp_if {f : PyData → M PyData} {c : PyData → M Bool} {α : Type} {xs : List α} {e g : α → PyData} {b : α → Bool} (hl : xs.length ≤ 16777216) (hc : ∀ x ∈ xs, c (e x) = pure (b x)) (h : ∀ x ∈ xs, b x = true → f (e x) = pure (g x)) : comp pN c f (xs.map e) = pure ((xs.filter b).map g) := by
  unfold comp
  rw [if_pos (show (xs.map e).length ≤ line by rw [List.length_map]; exact hl)]
  have : ∀ {xs : List α}, (∀ x ∈ xs, c (e x) = pure (b x)) → (∀ x ∈ xs, b x = true → f (e x) = pure (g x)) → compP pN c f (xs.map e) = pure ((xs.filter b).map g) := by
    intro xs
    induction xs with
    | nil => intro _ _; rfl
    | cons x r ih =>
      intro hc h
      rw [List.map_cons]
      unfold compP
      rw [ofO_some, pure_bind', hc x List.mem_cons_self, pure_bind']
      have ih' := ih (fun y hy => hc y (List.mem_cons_of_mem _ hy)) fun y hy => h y (List.mem_cons_of_mem _ hy)
      cases e : b x with
      | true => rw [cond_true, h x List.mem_cons_self e, pure_bind', ih', pure_bind', List.filter_cons_of_pos e]; rfl
      | false => rw [cond_false, ih', List.filter_cons_of_neg (by simp [e])]
  rw [this hc h]
  rfl
theorem comps_of {f : PyData → M (List PyData)} {α : Type} {xs : List α} {e : α → PyData} {g : α → List PyData} (hl : xs.length ≤ 16777216) (h : ∀ x ∈ xs, f (e x) = pure (g x)) : comps pN yep f (xs.map e) = pure (xs.flatMap g) := by
  unfold comps
  rw [if_pos (show (xs.map e).length ≤ line by rw [List.length_map]; exact hl)]
  have : ∀ {xs : List α}, (∀ x ∈ xs, f (e x) = pure (g x)) → compsP pN yep f (xs.map e) = pure (xs.flatMap g) := by
    intro xs
    induction xs with
    | nil => intro _; rfl
    | cons x r ih =>
      intro h
      rw [List.map_cons]
      unfold compsP
      rw [ofO_some, pure_bind', pure_bind', cond_true, h x List.mem_cons_self, pure_bind', ih fun y hy => h y (List.mem_cons_of_mem _ hy), pure_bind']
      rfl
  rw [this h]
  rfl
@[simp] theorem one1_pure (d : PyData) : one1 (pure d) = pure [d] := rfl
theorem all_of {α : Type} (xs : List α) {b : α → Bool} (h : ∀ x ∈ xs, b x = true) : allM (.list (xs.map fun x => PyData.bool (b x))) = pure (.bool true) := by
  rw [show (xs.map fun x => PyData.bool (b x)) = (xs.map b).map PyData.bool by rw [List.map_map]; rfl, all_bools]
  congr 2
  rw [List.all_map, List.all_eq_true]
  exact h
end V
set_option exponentiation.threshold 20000
namespace V
open PySem PySem.Spec ZL L2
@[simp] theorem isO_tuple (xs : List PyData) : isO .tuple (.tuple xs) = .bool true := rfl
@[simp] theorem all2 : allM (.list [.bool true, .bool true]) = pure (.bool true) := rfl
@[simp] theorem all3 : allM (.list [.bool true, .bool true, .bool true]) = pure (.bool true) := rfl
theorem isW_int (i : Int) : isW (.int i) = true := rfl
theorem is_within_eq (i a b : Int) : L.is_within (.int i) (.int a) (.int b) = pure (.bool (decide (a ≤ i) && decide (i ≤ b))) := by
  unfold L.is_within
  rw [is_whole_eq, isW_int]
  simp only [sub_pure, andV_bool, cond_true, le_int, pure_bind', ofB_bind]
  by_cases h : a ≤ i
  · simp [h]
  · simp [h]
theorem is_within_true {i a b : Int} (h1 : a ≤ i) (h2 : i ≤ b) : L.is_within (.int i) (.int a) (.int b) = pure (.bool true) := by rw [is_within_eq, decide_eq_true h1, decide_eq_true h2]; rfl
theorem is_corner_true {p : Pt} (h : inb p) : L.is_corner (ePt p) = pure (.bool true) := by
  obtain ⟨⟨h1, h2⟩, h3, h4⟩ := h
  unfold L.is_corner ePt
  have e : comp pN yep (fun t4 => negM (.int 100) >>= fun x6 => sub [] (L.is_within t4 x6 (.int 100))) ([p.1, p.2].map PyData.int) = pure ([p.1, p.2].map fun _ => .bool true) := comp_of (by simp) fun x hx => by
    simp only [neg_int, pure_bind']
    rcases List.mem_cons.mp hx with rfl | hx
    · rw [is_within_true h1 h2]; rfl
    · rcases List.mem_cons.mp hx with rfl | hx
      · rw [is_within_true h3 h4]; rfl
      · cases hx
  simp only [List.map_cons, List.map_nil] at e
  simp only [isO_tuple, toB_bool, pure_bind', tNot_pure, Bool.not_true, tOr_pure, cond_false, len_tuple, List.length_cons, List.length_nil, ne_int, rowM_tuple, e]
  simp
theorem zip_next {α : Type} (e : α → PyData) (xs : List α) : zipM (.tuple (xs.map e)) (.tuple ((xs.map e).drop 1)) = pure (((List.range (xs.length - 1)).pmap (fun i (h : i + 1 < xs.length) => (xs[i]'(by omega), xs[i + 1])) (fun i hi => by have := List.mem_range.mp hi; omega)).map fun p => PyData.tuple [e p.1, e p.2]) := by
  show (ofO (some (zipD _ _)) : M _) = _
  rw [ofO_some]
  congr 1
  unfold zipD
  apply List.ext_getElem?
  intro i
  rw [List.getElem?_zipWith, List.getElem?_map, List.getElem?_map, List.getElem?_pmap, List.getElem?_drop, List.getElem?_map, Nat.add_comm 1 i]
  by_cases h : i + 1 < xs.length
  · rw [List.getElem?_eq_getElem (show i < xs.length by omega), List.getElem?_eq_getElem h]
    simp [show i < xs.length - 1 by omega]
  · rw [List.getElem?_eq_none (show xs.length ≤ i + 1 by omega)]
    cases xs[i]? <;> simp [show ¬ i < xs.length - 1 by omega]
theorem rises_true {α : Type} (e : α → PyData) (xs : List α) (hl : xs.length ≤ 16777216) (h : ∀ i (h : i + 1 < xs.length), ltM2 (e (xs[i]'(by omega))) (e xs[i + 1]) = pure true) : L.rises2 (.tuple (xs.map e)) = pure (.bool true) := by
  unfold L.rises2
  rw [slL_tuple (by decide), pure_bind', show (1 : Int).toNat = 1 from rfl, zip_next, pure_bind']
  rw [comp_map (fun _ => PyData.bool true) (by simp; omega) (fun x hx => ?_)]
  · simp only [pure_bind', List.map_map]
    have := all_of (xs := (List.range (xs.length - 1)).pmap (fun i (h : i + 1 < xs.length) => (xs[i]'(by omega), xs[i + 1])) (fun i hi => by have := List.mem_range.mp hi; omega)) (b := fun _ => true) (fun _ _ => rfl)
    simp only [Function.comp_def]
    rw [this]
    simp
  · obtain ⟨p, hp, rfl⟩ := List.mem_map.mp hx
    obtain ⟨i, hi, rfl⟩ := List.mem_pmap.mp hp
    refine ⟨_, rfl, ?_⟩
    show ofB (ltM2 _ _) = _
    rw [h i (by have := List.mem_range.mp hi; omega)]
    rfl
theorem lt2_int {i j : Int} (h : i < j) : ltM2 (.int i) (.int j) = pure true := by
  show ofO (some (decide (i < j))) = _
  rw [decide_eq_true h]; rfl
theorem lt2_pc {p q : Pc} (h : ltPc p q = true) : ltM2 (ePc p) (ePc q) = pure true := by
  show ofO (some (HT.lexLt [(p.1 : Int), (p.2.1 : Int), (p.2.2 : Int)] [(q.1 : Int), (q.2.1 : Int), (q.2.2 : Int)])) = _
  have : HT.lexLt [(p.1 : Int), (p.2.1 : Int), (p.2.2 : Int)] [(q.1 : Int), (q.2.1 : Int), (q.2.2 : Int)] = true := by
    unfold ltPc at h
    simp only [Bool.or_eq_true, Bool.and_eq_true, decide_eq_true_eq] at h
    simp only [HT.lexLt_cons, HT.lexLt_nil_nil]
    split
    · split
      · split
        · omega
        · exact decide_eq_true (by omega)
      · exact decide_eq_true (by omega)
    · exact decide_eq_true (by omega)
  rw [this]; rfl
theorem mem3 {a b c i : Nat} (h : i ∈ [a, b, c]) : i = a ∨ i = b ∨ i = c := by simpa using h
theorem comp_corners {cs : List Pt} {l : List Nat} (hl : l.length ≤ 1000) (h : ∀ i ∈ l, i < cs.length) : comp pN yep (fun t => ixM (eCs cs) t) (l.map fun (i : Nat) => PyData.int (i : Int)) = pure (l.map fun i => ePt (xy cs i)) := comp_of (by omega) fun i hi => cs_at (h i hi)
theorem is_piece_true {cs : List Pt} {p : Pc} (hb : ∀ p ∈ cs, inb p) (h : PcOk cs p) : L.is_piece2 (eCs cs) (ePc p) = pure (.bool true) := by
  have h1 := h.ab; have h2 := h.bc; have h3 := h.c
  have e1 : comp pN yep (fun t4 => (lenM (eCs cs) >>= fun x6 => subM x6 (.int 1)) >>= fun x7 => sub [] (L.is_within t4 (.int 0) x7)) ([p.1, p.2.1, p.2.2].map fun (i : Nat) => PyData.int (i : Int)) = pure ([p.1, p.2.1, p.2.2].map fun _ => .bool true) := comp_of (by simp) fun i hi => by
    simp only [len_cs, pure_bind', sub_int]
    have := mem3 hi
    rw [is_within_true (by omega) (by omega)]; rfl
  have e2 : L.rises2 (ePc p) = pure (.bool true) := rises_true (fun (i : Nat) => PyData.int (i : Int)) [p.1, p.2.1, p.2.2] (by simp) fun i hi => by
    match i, hi with
    | 0, _ => exact lt2_int (by simp; omega)
    | 1, _ => exact lt2_int (by simp; omega)
  have e3 := comp_corners (cs := cs) (l := [p.1, p.2.1, p.2.2]) (by simp) fun i hi => by have := mem3 hi; omega
  unfold L.is_piece2
  rw [e2]
  unfold ePc
  simp only [List.map_cons, List.map_nil] at e1 e3
  simp only [isO_tuple, toB_bool, pure_bind', tNot_pure, Bool.not_true, tOr_pure, cond_false, len_tuple, List.length_cons, List.length_nil, ne_int, rowM_tuple, e1, e3, sub_pure]
  rw [show allM (.list [.bool true, .bool true, .bool true]) = pure (.bool true) from rfl]
  have e4 : pQ3 pN pN pN (.list [ePt (xy cs p.1), ePt (xy cs p.2.1), ePt (xy cs p.2.2)]) = some (ePt (xy cs p.1), ePt (xy cs p.2.1), ePt (xy cs p.2.2)) := rfl
  simp only [pure_bind', toB_bool, tNot_pure, Bool.not_true, tOr_pure, cond_false, e4, ofO_some]
  rw [turn_of_eq (inb_xy hb (by omega)) (inb_xy hb (by omega)) (inb_xy hb (by omega)), sub_pure, pure_bind', ne_int, decide_eq_false h.t]
  simp
theorem all_true {α : Type} (xs : List α) : allM (.list (xs.map fun _ => PyData.bool true)) = pure (.bool true) := all_of xs (b := fun _ => true) fun _ _ => rfl
theorem are_pieces_true {P : Pl} (h : PlOk P) : L.are_pieces2 (eCs P.cs) (ePs P.ps) = pure (.bool true) := by
  have h1 := h.k1; have h2 := h.k20
  have e1 : comp pN yep (fun t6 => sub [] (L.is_piece2 (eCs P.cs) t6)) (P.ps.map ePc) = pure (P.ps.map fun _ => .bool true) := comp_of (by omega) fun p hp => by rw [is_piece_true h.inb (h.pc p hp)]; rfl
  have e2 : L.rises2 (ePs P.ps) = pure (.bool true) := rises_true ePc P.ps (by omega) fun i hi => lt2_pc (h.ri i hi)
  unfold L.are_pieces2
  rw [e2]
  unfold ePs
  simp only [isO_tuple, toB_bool, pure_bind', tNot_pure, Bool.not_true, tOr_pure, cond_false, len_tuple, List.length_map, le_int, rowM_tuple, e1, all_true, andV_bool, cond_true, sub_pure]
  rw [decide_eq_true (show (1 : Int) ≤ P.ps.length by omega), cond_true, decide_eq_true (show (P.ps.length : Int) ≤ 40 by omega)]
  simp
theorem are_thicks_true {P : Pl} (h : PlOk P) : L.are_thicks (.int P.ps.length) (eTh P.th) = pure (.bool true) := by
  have h1 := h.tl; have h2 := h.k20
  have e1 : comp pN yep (fun t4 => sub [] (L.is_within t4 (.int 1) (.int 9))) (P.th.map PyData.int) = pure (P.th.map fun _ => .bool true) := comp_of (by omega) fun t ht => by rw [is_within_true (h.th t ht).1 (h.th t ht).2]; rfl
  unfold L.are_thicks eTh
  simp only [isO_tuple, toB_bool, pure_bind', tNot_pure, Bool.not_true, tOr_pure, cond_false, len_tuple, List.length_map, ne_int, rowM_tuple, e1, all_true]
  rw [h1, decide_eq_true rfl]
  simp
theorem is_stuff_true {P : Pl} (h : PlOk P) : L.is_stuff (eLm P) = pure (.bool true) := by
  unfold L.is_stuff eLm
  rw [show ixM (.tuple [.int P.l, .int P.m]) (.int 0) = pure (.int P.l) from ix_tuple (by decide) rfl, show ixM (.tuple [.int P.l, .int P.m]) (.int 1) = pure (.int P.m) from ix_tuple (by decide) rfl]
  simp only [isO_tuple, toB_bool, pure_bind', tNot_pure, Bool.not_true, tOr_pure, cond_false, len_tuple, List.length_cons, List.length_nil, ne_int]
  rw [is_within_true h.l.1 h.l.2, is_within_true h.m.1 h.m.2]
  simp
theorem dd_nodup {α : Type} [DecidableEq α] : ∀ {l : List α}, l.Nodup → dd l = l
  | [], _ => rfl
  | x :: l, h => by
    obtain ⟨h1, h2⟩ := List.nodup_cons.mp h
    unfold dd
    rw [if_neg h1, dd_nodup h2]
theorem dd_len {α : Type} [DecidableEq α] : ∀ l : List α, (dd l).length ≤ l.length
  | [] => Nat.le_refl _
  | x :: l => by
    have := dd_len l
    unfold dd
    split
    · simp; omega
    · simp; omega
theorem ePt_inj {p q : Pt} (h : [p.1, p.2] = [q.1, q.2]) : p = q := by
  simp only [List.cons.injEq, and_true] at h
  exact Prod.ext h.1 h.2
theorem are_corners_true {P : Pl} (h : PlOk P) : L.are_corners (eCs P.cs) = pure (.bool true) := by
  have h1 := h.n3; have h2 := h.n30
  have e1 : comp pN yep (fun t10 => sub [] (L.is_corner t10)) (P.cs.map ePt) = pure (P.cs.map fun _ => .bool true) := comp_of (by omega) fun p hp => by rw [is_corner_true (h.inb p hp)]; rfl
  have e2 : P.cs.map ePt = (P.cs.map fun p => [p.1, p.2]).map tupI := by rw [List.map_map]; rfl
  have nd : (P.cs.map fun p => [p.1, p.2]).Nodup := by
    rw [List.nodup_iff_pairwise_ne, List.pairwise_map]
    exact (List.nodup_iff_pairwise_ne.mp h.nd).imp fun hne e => hne (ePt_inj e)
  have e3 : setLenD (P.cs.map ePt) = some P.cs.length := by
    unfold setLenD
    have ei : intsD (P.cs.map ePt) = none := by
      match hc : P.cs with
      | [] => rw [hc] at h1; simp at h1
      | c :: r => rfl
    rw [ei, e2, tupsD_of]
    simp only
    rw [dd_nodup nd, List.length_map, if_pos (by omega)]
  unfold L.are_corners eCs
  simp only [isO_tuple, toB_bool, pure_bind', tNot_pure, Bool.not_true, tOr_pure, cond_false, len_tuple, List.length_map, le_int, rowM_tuple, e1, all_true, andV_bool, cond_true]
  rw [decide_eq_true (show (3 : Int) ≤ P.cs.length by omega), cond_true, decide_eq_true (show (P.cs.length : Int) ≤ 30 by omega)]
  simp only [pure_bind', tNot_pure, Bool.not_true, cond_false]
  rw [show setOfM (P.cs.map ePt) = pure (P.cs.map ePt) from by show ofO (if _ then _ else _) = _; rw [if_pos (by rw [List.length_map]; omega)]; rfl]
  rw [pure_bind', show setLenM (P.cs.map ePt) = pure (.int (P.cs.length : Int)) from by show ofO (Option.map _ _) = _; rw [e3]; rfl]
  simp [andV_bool]
end V
set_option exponentiation.threshold 20000
namespace V
open PySem PySem.Spec ZL L2
section
variable {α β : Type}
theorem sub_run {m : M α} {a : α} (h : m [] = .ok a []) : sub [] m = pure a := by
  funext s
  show (bif liveB s [] then (match m (pick s []) with | .ok a s' => Res.ok a (put s [] s') | .ex x s' => .ex x (put s [] s') | .bad => .bad) else .bad) = _
  rw [show pick s [] = [] from rfl, h]
  rfl
theorem frame_0 {nl : Nat} {m : M PyData} {a : PyData} {s' : Cells} (h : m (List.replicate nl none) = .ok a s') : V.frame nl m [] = .ok a [] := by
  have := frame_run (s := []) (nl := nl) (m := m) (a := a) (s' := s') (by simpa using h)
  rw [this]; rfl
theorem run_pure {m : M α} {a : α} {s : Cells} (h : m = pure a) : m s = .ok a s := by rw [h]; rfl
@[simp] theorem setC_0 (xs : List PyData) (c : Option Cell) (r : Cells) : setC 0 xs (c :: r) = .ok () (cS xs :: r) := by
  show (if 0 < (c :: r).length then Res.ok () _ else _) = _
  rw [if_pos (by simp)]; rfl
@[simp] theorem setC_1 (xs : List PyData) (c d : Option Cell) (r : Cells) : setC 1 xs (c :: d :: r) = .ok () (c :: cS xs :: r) := by
  show (if 1 < (c :: d :: r).length then Res.ok () _ else _) = _
  rw [if_pos (by simp)]; rfl
@[simp] theorem setC_2 (xs : List PyData) (c d e : Option Cell) (r : Cells) : setC 2 xs (c :: d :: e :: r) = .ok () (c :: d :: cS xs :: r) := by
  show (if 2 < (c :: d :: e :: r).length then Res.ok () _ else _) = _
  rw [if_pos (by simp)]; rfl
@[simp] theorem getC_0 (xs : List PyData) (r : Cells) : getC 0 (cS xs :: r) = .ok xs (cS xs :: r) := rfl
@[simp] theorem getC_1 (xs : List PyData) (c : Option Cell) (r : Cells) : getC 1 (c :: cS xs :: r) = .ok xs (c :: cS xs :: r) := rfl
@[simp] theorem getC_2 (xs : List PyData) (c d : Option Cell) (r : Cells) : getC 2 (c :: d :: cS xs :: r) = .ok xs (c :: d :: cS xs :: r) := rfl
@[simp] theorem lockC_0 (xs : List PyData) (r : Cells) : lockC 0 (cS xs :: r) = .ok xs (none :: r) := rfl
@[simp] theorem lockC_1 (xs : List PyData) (c : Option Cell) (r : Cells) : lockC 1 (c :: cS xs :: r) = .ok xs (c :: none :: r) := rfl
@[simp] theorem lockC_2 (xs : List PyData) (c d : Option Cell) (r : Cells) : lockC 2 (c :: d :: cS xs :: r) = .ok xs (c :: d :: none :: r) := rfl
theorem appC_0 {xs : List PyData} {d : PyData} {r : Cells} (h : xs.length < 16777216) : appC 0 d (cS xs :: r) = .ok .none (cS (xs ++ [d]) :: r) := by
  show (if xs.length < line then Res.ok PyData.none _ else _) = _
  rw [if_pos (show xs.length < line from h)]; rfl
theorem appC_2 {xs : List PyData} {d : PyData} {c e : Option Cell} {r : Cells} (h : xs.length < 16777216) : appC 2 d (c :: e :: cS xs :: r) = .ok .none (c :: e :: cS (xs ++ [d]) :: r) := by
  show (if xs.length < line then Res.ok PyData.none _ else _) = _
  rw [if_pos (show xs.length < line from h)]; rfl
@[simp] theorem lstN2 (a b : PyData) : lstN [.d a, .d b] = pure [a, b] := lstN_of [a, b] (by simp)
@[simp] theorem lstN0 : lstN [] = pure [] := lstN_of [] (by simp)
theorem forM_nx {L γ : Type} {pt : PyData → Option γ} {body : γ → Unit → M (Fl Unit Unit)} : ∀ {xs : List PyData}, (∀ x ∈ xs, ∃ u, pt x = some u ∧ body u () = pure (.nx ())) → (V.forM pt body xs () : M (Fl L Unit)) = pure (.nx ())
  | [], _ => rfl
  | x :: r, h => by
    obtain ⟨u, e, eb⟩ := h x List.mem_cons_self
    unfold V.forM
    rw [e, ofO_some, pure_bind', eb, pure_bind']
    exact forM_nx fun y hy => h y (List.mem_cons_of_mem _ hy)
end
theorem canLay_ints (ns : List Int) : PyData.canLayAll0 (ns.map PyData.int) = true := by
  induction ns with
  | nil => rfl
  | cons n r ih => exact ih
theorem depth_ints (ns : List Int) : PyData.depthAll (ns.map PyData.int) = 0 := by
  induction ns with
  | nil => rfl
  | cons n r ih => show max 0 _ = 0; rw [ih]; rfl
theorem shaped_ints (ns : List Int) : SeqAt.shaped (.list (ns.map PyData.int)) = true := by
  unfold SeqAt.shaped
  rw [Bool.and_eq_true, decide_eq_true_eq]
  refine ⟨canLay_ints ns, ?_⟩
  show PyData.depthAll _ + 1 ≤ 64
  rw [depth_ints]; omega
theorem eqv_ints (ns ms : List Int) : PyData.eqvAll (ns.map PyData.int) (ms.map PyData.int) = decide (ns = ms) := by
  induction ns generalizing ms with
  | nil => cases ms with
    | nil => rfl
    | cons m r => rfl
  | cons n r ih => cases ms with
    | nil => rfl
    | cons m q =>
      show (PyData.eqv (.int n) (.int m) && PyData.eqvAll (r.map _) (q.map _)) = _
      rw [ih]
      have : PyData.eqv (.int n) (.int m) = decide (n = m) := rfl
      rw [this]
      by_cases h1 : n = m <;> by_cases h2 : r = q <;> simp [h1, h2]
theorem eqL_ints (ns ms : List Int) : eqM (.list (ns.map PyData.int)) (.list (ms.map PyData.int)) = pure (decide (ns = ms)) := by
  show ofO (if SeqAt.shaped _ && SeqAt.shaped _ then some (PyData.eqv _ _) else none) = _
  rw [shaped_ints, shaped_ints]
  show ofO (some (PyData.eqvAll _ _)) = _
  rw [eqv_ints]; rfl
theorem inL_ints (neg : Bool) (n : Int) (ns : List Int) : inM neg (.int n) (.list (ns.map PyData.int)) = pure (bif neg then !(ns.contains n) else ns.contains n) := by
  have h : (ns.map PyData.int).any (fun z => PyData.eqv z (.int n)) = ns.contains n := by
    rw [List.any_map]
    induction ns with
    | nil => rfl
    | cons m r ih =>
      rw [List.any_cons, ih, List.contains_cons]
      congr 1
      show decide (m = n) = (n == m)
      by_cases q : n = m
      · simp [q]
      · simp [q, Ne.symm q]
  show ofO (if SeqAt.shaped _ && SeqAt.shaped _ then some (inB neg _ _) else none) = _
  rw [shaped_ints]
  show ofO (some (inB neg _ _)) = _
  unfold inB
  rw [h]; rfl
theorem inT_ints (neg : Bool) (n : Int) (ns : List Int) : inM neg (.int n) (.tuple (ns.map PyData.int)) = pure (bif neg then !(ns.contains n) else ns.contains n) := by
  have e := inL_ints neg n ns
  have s := shaped_ints ns
  show ofO (if SeqAt.shaped _ && SeqAt.shaped _ then some (inB neg _ _) else none) = _
  rw [show SeqAt.shaped (.tuple (ns.map PyData.int)) = true from s]
  have e2 : ofO (if SeqAt.shaped (.int n) && SeqAt.shaped (.list (ns.map PyData.int)) then some (inB neg (ns.map PyData.int) (.int n)) else none) = (pure (bif neg then !(ns.contains n) else ns.contains n) : M Bool) := e
  rw [s] at e2
  exact e2
theorem lies_in_eq {cs : List Pt} {p : Pc} {i : Nat} (hb : ∀ p ∈ cs, inb p) (h1 : p.1 < cs.length) (h2 : p.2.1 < cs.length) (h3 : p.2.2 < cs.length) (hi : i < cs.length) : L.lies_in (eCs cs) (ePc p) (.int (i : Int)) [] = .ok (.bool (liesB cs p i)) [] := by
  have e3 := comp_corners (cs := cs) (l := [p.1, p.2.1, p.2.2]) (by simp) fun i hi => by rcases mem3 hi with rfl | rfl | rfl <;> assumption
  simp only [List.map_cons, List.map_nil] at e3
  have e4 : pQ3 pN pN pN (.list [ePt (xy cs p.1), ePt (xy cs p.2.1), ePt (xy cs p.2.2)]) = some (ePt (xy cs p.1), ePt (xy cs p.2.1), ePt (xy cs p.2.2)) := rfl
  have b1 := inb_xy hb h1; have b2 := inb_xy hb h2; have b3 := inb_xy hb h3; have b4 := inb_xy hb hi
  unfold L.lies_in
  refine frame_0 (s' := [cS ((three cs p i).map PyData.int)]) ?_
  have e5 : rowM (ePc p) = pure [.int (p.1 : Int), .int (p.2.1 : Int), .int (p.2.2 : Int)] := rfl
  simp only [pure_bind', e5, e3, e4, ofO_some, cs_at hi, turn_of_eq b1 b2 b4, turn_of_eq b2 b3 b4, turn_of_eq b3 b1 b4, sub_pure, sign_of_eq, lstN2, bind_assoc', fin_bind, neg_int]
  have e6 : inM false (.int (-1)) (.list [.int (sgn (turn (xy cs p.1) (xy cs p.2.1) (xy cs i))), .int (sgn (turn (xy cs p.2.1) (xy cs p.2.2) (xy cs i))), .int (sgn (turn (xy cs p.2.2) (xy cs p.1) (xy cs i)))]) = pure ((three cs p i).contains (-1)) := inL_ints false (-1) (three cs p i)
  have e7 : inM false (.int 1) (.list [.int (sgn (turn (xy cs p.1) (xy cs p.2.1) (xy cs i))), .int (sgn (turn (xy cs p.2.1) (xy cs p.2.2) (xy cs i))), .int (sgn (turn (xy cs p.2.2) (xy cs p.1) (xy cs i)))]) = pure ((three cs p i).contains 1) := inL_ints false 1 (three cs p i)
  show (setC 0 _ >>= _) [none] = _
  refine bindR (setC_0 _ _ _) (bindR (getC_0 _ _) (bindR (appC_0 (by simp)) ?_))
  simp only [List.cons_append, List.nil_append]
  have e8 : ∀ (m n : M PyData), ∀ s, (ZL.notV (ZL.andV m n) >>= fun x18 => fin (pure (Fl.rt x18))) s = (ZL.notV (ZL.andV m n)) s := fun m n s => by simp only [fin_rt, bind_pure']
  rw [e8]
  simp only [ofB_bind, andV_bind, notV_bind]
  refine bindR (getC_0 _ _) ?_
  simp only [e6, ofB_pure, andV_bool]
  unfold liesB
  cases (three cs p i).contains (-1) with
  | false => rfl
  | true =>
    simp only [cond_true, notV_bind, ofB_bind, bind_assoc']
    refine bindR (getC_0 _ _) ?_
    simp only [e7, ofB_pure, notV_bool]
    rfl
theorem are_crossing_eq {cs : List Pt} {s t : Nat × Nat} (hb : ∀ p ∈ cs, inb p) (h1 : s.1 < cs.length) (h2 : s.2 < cs.length) (h3 : t.1 < cs.length) (h4 : t.2 < cs.length) : L.are_crossing (eCs cs) (.tuple [.int (s.1 : Int), .int (s.2 : Int)]) (.tuple [.int (t.1 : Int), .int (t.2 : Int)]) = pure (.bool (crossB cs s t)) := by
  have two : ∀ {a b i : Nat}, a < cs.length → b < cs.length → i ∈ [a, b] → i < cs.length := fun {a b i} ha hb h => by
    simp only [List.mem_cons, List.not_mem_nil, or_false] at h
    rcases h with rfl | rfl
    · exact ha
    · exact hb
  have c1 := comp_corners (cs := cs) (l := [s.1, s.2]) (by simp) fun i hi => two h1 h2 hi
  have c2 := comp_corners (cs := cs) (l := [t.1, t.2]) (by simp) fun i hi => two h3 h4 hi
  simp only [List.map_cons, List.map_nil] at c1 c2
  have e4 : ∀ a b : PyData, pQ2 pN pN (.list [a, b]) = some (a, b) := fun _ _ => rfl
  have b1 := inb_xy hb h1; have b2 := inb_xy hb h2; have b3 := inb_xy hb h3; have b4 := inb_xy hb h4
  have sm : ∀ x y : Int, mulM (.int (sgn x)) (.int (sgn y)) = pure (.int (sgn x * sgn y)) := fun x y => mulS (by have := sgn_cases x; omega) (by have := sgn_cases y; omega)
  unfold L.are_crossing
  simp only [pure_bind', rowM_tuple, c1, c2, e4, ofO_some, turn_of_eq b1 b2 b3, turn_of_eq b1 b2 b4, turn_of_eq b3 b4 b1, turn_of_eq b3 b4 b2, sub_pure, sign_of_eq, sm, neg_int, ne_int, eq_int, ofB_pure, bind_assoc']
  unfold crossB
  by_cases k1 : sgn (turn (xy cs s.1) (xy cs s.2) (xy cs t.1)) * sgn (turn (xy cs s.1) (xy cs s.2) (xy cs t.2)) = -1
  · simp [k1]
    congr 1
  · simp [k1, beq_eq_false_iff_ne.mpr k1]
theorem lenI (ns : List Nat) : (ns.map fun (i : Nat) => PyData.int (i : Int)) = (ns.map fun (i : Nat) => (i : Int)).map PyData.int := by rw [List.map_map]; rfl
def flatP (ps : List Pc) : List Nat := ps.flatMap fun p => [p.1, p.2.1, p.2.2]
theorem flatP_len (ps : List Pc) : (flatP ps).length = 3 * ps.length := by
  induction ps with
  | nil => rfl
  | cons p r ih => show (_ :: _ :: _ :: flatP r).length = _; simp [ih]; omega
theorem used_eq {P : Pl} (h : PlOk P) : ((pure (ePs P.ps) >>= rowM) >>= fun xs13 => comps pN yep (fun t12 => (pure t12 >>= rowM) >>= fun xs15 => comps pN yep (fun t14 => one1 (pure t14)) xs15) xs13 >>= fun es16 => setSortM es16) = pure (.list ((List.range P.cs.length).map fun (i : Nat) => PyData.int (i : Int))) := by
  have k20 := h.k20
  have e0 : ∀ p : Pc, (pure (ePc p) >>= rowM) = (pure ([p.1, p.2.1, p.2.2].map fun (i : Nat) => PyData.int (i : Int)) : M _) := fun p => rfl
  have e1 : comps pN yep (fun t12 => (pure t12 >>= rowM) >>= fun xs15 => comps pN yep (fun t14 => one1 (pure t14)) xs15) (P.ps.map ePc) = pure (P.ps.flatMap fun p => [p.1, p.2.1, p.2.2].map fun (i : Nat) => PyData.int (i : Int)) := comps_of (by omega) fun p hp => by
    rw [e0, pure_bind']
    rw [comps_of (g := fun (i : Nat) => [PyData.int (i : Int)]) (by simp) fun i hi => rfl]
    rfl
  rw [show (pure (ePs P.ps) >>= rowM) = (pure (P.ps.map ePc) : M _) from rfl, pure_bind', e1, pure_bind']
  have e2 : (P.ps.flatMap fun p => [p.1, p.2.1, p.2.2].map fun (i : Nat) => PyData.int (i : Int)) = ((flatP P.ps).map fun (i : Nat) => (i : Int)).map PyData.int := by
    rw [← lenI]
    unfold flatP
    rw [List.map_flatMap]
  show ofO (Option.map PyData.list (setSortD _)) = _
  rw [e2]
  unfold setSortD
  rw [intsD_of]
  simp only
  have hl : (dd ((flatP P.ps).map fun (i : Nat) => (i : Int))).length < 63 := by
    have := dd_len ((flatP P.ps).map fun (i : Nat) => (i : Int))
    rw [List.length_map, flatP_len] at this
    omega
  rw [if_pos hl]
  have e3 : sortI (dd ((flatP P.ps).map fun (i : Nat) => (i : Int))) = (List.range P.cs.length).map fun (i : Nat) => (i : Int) := by
    refine (sortI_uniq (dd_perm ?_ fun k => ?_) ?_).symm
    · rw [List.nodup_iff_pairwise_ne, List.pairwise_map]
      exact (List.nodup_iff_pairwise_ne.mp List.nodup_range).imp fun hne e => hne (by omega)
    · simp only [List.mem_map, List.mem_range, flatP, List.mem_flatMap]
      constructor
      · rintro ⟨i, hi, rfl⟩
        obtain ⟨p, hp, hq⟩ := h.us i hi
        exact ⟨i, ⟨p, hp, by simpa using hq⟩, rfl⟩
      · rintro ⟨i, ⟨p, hp, hq⟩, rfl⟩
        have k := h.pc p hp
        have := k.ab; have := k.bc; have := k.c
        refine ⟨i, ?_, rfl⟩
        rcases mem3 hq with rfl | rfl | rfl <;> omega
    · rw [List.pairwise_map]
      exact List.pairwise_lt_range.imp fun h => by omega
  simp only [e3, Option.map_some, ofO_some, List.map_map, Function.comp_def]
theorem range_list {n : Nat} (h : n ≤ 1000) : rgL (.int 0) (.int (n : Int)) = pure (.list ((List.range n).map fun (i : Nat) => PyData.int (i : Int))) := by
  have ok : rgOk 0 (n : Int) = true := by
    unfold rgOk
    simp only [Bool.and_eq_true, decide_eq_true_eq]
    omega
  have e : rgO (.int 0) (.int (n : Int)) = some (rangeD 0 n) := by
    unfold rgO
    simp only [ok, if_true]
    simp
  unfold rgL
  rw [e, Option.map_some, ofO_some]
  unfold rangeD
  simp
def sideD (s : Nat × Nat) : PyData := .tuple [.int (s.1 : Int), .int (s.2 : Int)]
def sideI (s : Nat × Nat) : List Int := [(s.1 : Int), (s.2 : Int)]
def allSides (ps : List Pc) : List (Nat × Nat) := ps.flatMap sidesOf
theorem allSides_len (ps : List Pc) : (allSides ps).length = 3 * ps.length := by
  induction ps with
  | nil => rfl
  | cons p r ih => show (_ :: _ :: _ :: allSides r).length = _; simp [ih]; omega
theorem sides_in_eq (p : Pc) : L.sides_in (ePc p) = pure (.list ((sidesOf p).map sideD)) := by
  unfold L.sides_in
  rw [pure_bind', show pQ3 pN pN pN (ePc p) = some (.int (p.1 : Int), .int (p.2.1 : Int), .int (p.2.2 : Int)) from rfl]
  simp only [ofO_some, pure_bind', tupK_2, lstK_3, fin_rt, frame_pure]
  rfl
theorem sidesM_eq {ps : List Pc} {cs : List Pt} (k1 : 1 ≤ ps.length) (k20 : ps.length ≤ 20) (hp : ∀ p ∈ ps, PcOk cs p) (hn : cs.length ≤ 1000) : ∃ ss : List (Nat × Nat), (∀ s, s ∈ ss ↔ s ∈ allSides ps) ∧ ss.Nodup ∧ (ss.map sideI).Pairwise (fun a b => TS.code bB a ≤ TS.code bB b) ∧
    ((pure (ePs ps) >>= rowM) >>= fun xs14 => comps pN yep (fun t13 => (sub [] (L.sides_in t13) >>= rowM) >>= fun xs16 => comps pN yep (fun t15 => one1 (pure t15)) xs16) xs14 >>= fun es17 => setSortM es17) = pure (.list (ss.map sideD)) := by
  have e1 : comps pN yep (fun t13 => (sub [] (L.sides_in t13) >>= rowM) >>= fun xs16 => comps pN yep (fun t15 => one1 (pure t15)) xs16) (ps.map ePc) = pure (ps.flatMap fun p => (sidesOf p).map sideD) := comps_of (by omega) fun p hp => by
    rw [sides_in_eq, sub_pure, pure_bind', rowM_list, pure_bind']
    rw [comps_of (g := fun s => [sideD s]) (by simp [sidesOf]) fun i hi => rfl]
    rfl
  have inj : ∀ {s t : Nat × Nat}, sideI s = sideI t → s = t := fun {s t} h => by
    unfold sideI at h
    simp only [List.cons.injEq, and_true] at h
    exact Prod.ext (by omega) (by omega)
  have bd : ∀ s ∈ allSides ps, s.1 < 1000 ∧ s.2 < 1000 := fun s hs => by
    obtain ⟨p, h1, h2⟩ := List.mem_flatMap.mp hs
    have k := hp p h1
    have := k.ab; have := k.bc; have := k.c
    simp only [sidesOf, List.mem_cons, List.not_mem_nil, or_false] at h2
    rcases h2 with rfl | rfl | rfl <;> exact ⟨by omega, by omega⟩
  have back : ∀ l : List (List Int), (∀ x ∈ l, x ∈ (allSides ps).map sideI) → ∃ ss : List (Nat × Nat), l = ss.map sideI ∧ ∀ s ∈ ss, s ∈ allSides ps := by
    intro l
    induction l with
    | nil => intro _; exact ⟨[], rfl, fun s h => by cases h⟩
    | cons x r ih =>
      intro h
      obtain ⟨s, hs, e⟩ := List.mem_map.mp (h x List.mem_cons_self)
      obtain ⟨ss, e2, h2⟩ := ih fun y hy => h y (List.mem_cons_of_mem _ hy)
      refine ⟨s :: ss, by rw [List.map_cons, e, e2], fun t ht => ?_⟩
      rcases List.mem_cons.mp ht with rfl | ht
      · exact hs
      · exact h2 t ht
  have pm := sortT_perm (dd ((allSides ps).map sideI))
  obtain ⟨ss, es, hss⟩ := back (sortT (dd ((allSides ps).map sideI))) fun x hx => mem_dd.mp (pm.mem_iff.mp hx)
  have nd : (ss.map sideI).Nodup := by rw [← es]; exact pm.nodup_iff.mpr (nodup_dd _)
  refine ⟨ss, fun s => ⟨hss s, fun h => ?_⟩, nodup_of_map nd, by rw [← es]; exact sortT_le _, ?_⟩
  · have : sideI s ∈ ss.map sideI := by rw [← es]; exact pm.mem_iff.mpr (mem_dd.mpr (List.mem_map.mpr ⟨s, h, rfl⟩))
    obtain ⟨t, ht, e⟩ := List.mem_map.mp this
    rw [← inj e]; exact ht
  · rw [show (pure (ePs ps) >>= rowM) = (pure (ps.map ePc) : M _) from rfl, pure_bind', e1, pure_bind']
    have e2 : (ps.flatMap fun p => (sidesOf p).map sideD) = ((allSides ps).map sideI).map tupI := by
      unfold allSides
      rw [List.map_map, List.map_flatMap]
      rfl
    show ofO (Option.map PyData.list (setSortD _)) = _
    rw [e2]
    unfold setSortD
    cases hps : ps with
    | nil => rw [hps] at k1; simp at k1
    | cons p0 r0 =>
      rw [← hps]
      have en : intsD (((allSides ps).map sideI).map tupI) = none := by rw [hps]; rfl
      rw [en, tupsD_of]
      simp only
      have hl : (dd ((allSides ps).map sideI)).length < 63 := by
        have := dd_len ((allSides ps).map sideI)
        rw [List.length_map, allSides_len] at this
        omega
      have hd : (((allSides ps).map sideI).headD []).length = 2 := by rw [hps]; rfl
      rw [hd, if_pos ⟨hl, by omega, List.all_eq_true.mpr fun x hx => by
        obtain ⟨s, hs, rfl⟩ := List.mem_map.mp hx
        have := bd s hs
        unfold okT sideI bB
        simp
        omega⟩]
      simp only [es, Option.map_some, ofO_some, List.map_map, Function.comp_def]
      rfl
end V
set_option exponentiation.threshold 20000
namespace V
open PySem PySem.Spec ZL L2
theorem slH_list {xs : List PyData} {i : Int} (h : 0 ≤ i) : slH (.list xs) (.int i) = pure (.list (xs.take i.toNat)) := by
  show pure (PyData.list (cutD xs none (some i))) = (pure _ : M PyData)
  congr 1; congr 1
  unfold cutD
  simp only [HT.sIx, Nat.sub_zero, List.drop_zero]
  rw [if_neg (by omega)]
  by_cases q : i ≤ (xs.length : Int)
  · congr 1; omega
  · rw [List.take_of_length_le (by omega), List.take_of_length_le (by omega)]
theorem comps_map {T : Type} {mt : PyData → Option T} {f : T → M (List PyData)} (g : PyData → List PyData) {xs : List PyData} (hl : xs.length ≤ 16777216) (h : ∀ x ∈ xs, ∃ t, mt x = some t ∧ f t = pure (g x)) : comps mt yep f xs = pure (xs.flatMap g) := by
  unfold comps
  rw [if_pos (show xs.length ≤ line from hl)]
  have : ∀ {xs : List PyData}, (∀ x ∈ xs, ∃ t, mt x = some t ∧ f t = pure (g x)) → compsP mt yep f xs = pure (xs.flatMap g) := by
    intro xs
    induction xs with
    | nil => intro _; rfl
    | cons x r ih =>
      intro h
      obtain ⟨t, e1, e2⟩ := h x List.mem_cons_self
      unfold compsP
      rw [e1, ofO_some, pure_bind', pure_bind', cond_true, e2, pure_bind', ih fun y hy => h y (List.mem_cons_of_mem _ hy), pure_bind']
      rfl
  rw [this h]
  rfl
theorem any_false {es : List PyData} (h : ∀ d ∈ es, d = .bool false) : anyM (.list es) = pure (.bool false) := by
  have : es = (List.replicate es.length false).map PyData.bool := by
    rw [List.map_replicate]
    exact List.eq_replicate_iff.mpr ⟨rfl, h⟩
  rw [this, any_bools]
  simp
theorem range_nat {n : Nat} (h : n ≤ 1000) : rangeM (.int 0) (.int (n : Int)) = pure ((List.range n).map fun (i : Nat) => PyData.int (i : Int)) := by
  have e := range_list h
  have ok : rangeO (.int 0) (.int (n : Int)) = some (rangeD 0 n) := by
    unfold rangeO
    have : (decide (-(2 ^ 62) ≤ (0 : Int)) && decide ((0 : Int) < 2 ^ 62) && decide (-(2 ^ 62) ≤ (n : Int)) && decide ((n : Int) < 2 ^ 62)) = true := by
      simp only [Bool.and_eq_true, decide_eq_true_eq]; omega
    simp only [this, if_true]
    simp
  unfold rangeM
  rw [ok, ofO_some]
  unfold rangeD
  simp
theorem are_apart_true {P : Pl} (h : PlOk P) : L.are_apart (eCs P.cs) (ePs P.ps) = pure (.bool true) := by
  have k1 := h.k1; have k20 := h.k20; have n30 := h.n30
  obtain ⟨ss, hss, _, _, es⟩ := sidesM_eq h.k1 h.k20 h.pc (show P.cs.length ≤ 1000 by omega)
  have hsl : ∀ s ∈ ss, s.1 < P.cs.length ∧ s.2 < P.cs.length := fun s hs => by
    obtain ⟨p, h1, h2⟩ := List.mem_flatMap.mp ((hss s).mp hs)
    have k := h.pc p h1
    have := k.ab; have := k.bc; have := k.c
    simp only [sidesOf, List.mem_cons, List.not_mem_nil, or_false] at h2
    rcases h2 with rfl | rfl | rfl <;> exact ⟨by omega, by omega⟩
  have hcr : ∀ s ∈ ss, ∀ t ∈ ss, L.are_crossing (eCs P.cs) (sideD s) (sideD t) = pure (.bool false) := fun s hs t ht => by
    obtain ⟨p, h1, h2⟩ := List.mem_flatMap.mp ((hss s).mp hs)
    obtain ⟨q, h3, h4⟩ := List.mem_flatMap.mp ((hss t).mp ht)
    show L.are_crossing (eCs P.cs) (.tuple [.int (s.1 : Int), .int (s.2 : Int)]) (.tuple [.int (t.1 : Int), .int (t.2 : Int)]) = _
    rw [are_crossing_eq h.inb (hsl s hs).1 (hsl s hs).2 (hsl t ht).1 (hsl t ht).2, h.cr p h1 q h3 s h2 t h4]
  have loop : ∀ p ∈ P.ps, ((lenM (eCs P.cs) >>= fun x4 => rangeM (.int 0) x4) >>= fun xs6 => comp pN (fun t5 => inM true t5 (ePc p)) (fun t5 => sub [] (L.lies_in (eCs P.cs) (ePc p) t5)) xs6 >>= fun ys8 => pure (PyData.list ys8)) >>= (fun x9 => anyM x9) = pure (.bool false) := fun p hp => by
    have k := h.pc p hp
    have := k.ab; have := k.bc; have := k.c
    rw [len_cs, pure_bind', range_nat (by omega), pure_bind']
    rw [comp_if (b := fun (i : Nat) => !([(p.1 : Int), (p.2.1 : Int), (p.2.2 : Int)].contains (i : Int))) (g := fun _ => PyData.bool false) (by simp; omega) (fun i hi => ?_) (fun i hi hc => ?_)]
    · rw [pure_bind', pure_bind']
      exact any_false fun d hd => by obtain ⟨i, _, rfl⟩ := List.mem_map.mp hd; rfl
    · exact inT_ints true (i : Int) [(p.1 : Int), (p.2.1 : Int), (p.2.2 : Int)]
    · have hi := List.mem_range.mp hi
      simp only [Bool.not_eq_true', List.contains_eq_mem, List.mem_cons, List.not_mem_nil, or_false, decide_eq_false_iff_not, not_or] at hc
      rw [sub_run (lies_in_eq h.inb (by omega) (by omega) k.c hi), h.ly p hp i hi (by omega) (by omega) (by omega)]
  have ssl : ss.length ≤ 60 := by
    have := pigeon ‹ss.Nodup› fun s hs => (hss s).mp hs
    rw [allSides_len] at this
    omega
  have pairs : ((enumM (.list (ss.map sideD)) >>= fun xs19 => comps (pT2 pN pN) yep (fun t18 => (slH (.list (ss.map sideD)) t18.1 >>= rowM) >>= fun xs21 => comps pN yep (fun t20 => one1 (sub [] (L.are_crossing (eCs P.cs) t18.2 t20))) xs21) xs19 >>= fun es22 => shortM es22) >>= fun x23 => anyM x23) = pure (.bool false) := by
    have run : ∃ es : List PyData, es.length ≤ 60 * 60 ∧ (∀ d ∈ es, d = .bool false) ∧ comps (pT2 pN pN) yep (fun t18 => (slH (.list (ss.map sideD)) t18.1 >>= rowM) >>= fun xs21 => comps pN yep (fun t20 => one1 (sub [] (L.are_crossing (eCs P.cs) t18.2 t20))) xs21) (enumD (ss.map sideD)) = pure es := by
      refine ⟨_, ?_, ?_, comps_map (fun x => match x with | .tuple [.int i, d] => (ss.take i.toNat).map fun _ => PyData.bool false | _ => []) (by rw [enumD_length, List.length_map]; omega) (fun x hx => ?_)⟩
      · rw [List.length_flatMap]
        have : ∀ (l : List PyData), (l.map fun a => ((fun x => match x with | PyData.tuple [.int i, d] => (ss.take i.toNat).map fun _ => PyData.bool false | _ => []) a).length).sum ≤ 60 * l.length := by
          intro l
          induction l with
          | nil => simp
          | cons a r ih =>
            rw [List.map_cons, List.sum_cons, List.length_cons]
            have : ((fun x => match x with | PyData.tuple [.int i, d] => (ss.take i.toNat).map fun _ => PyData.bool false | _ => []) a).length ≤ 60 := by
              dsimp only
              split
              · rw [List.length_map, List.length_take]; omega
              · simp
            omega
        refine Nat.le_trans (this _) ?_
        rw [enumD_length, List.length_map]
        exact Nat.mul_le_mul_left 60 ssl
      · intro d hd
        obtain ⟨x, _, hd⟩ := List.mem_flatMap.mp hd
        split at hd
        · obtain ⟨_, _, rfl⟩ := List.mem_map.mp hd; rfl
        · cases hd
      · obtain ⟨i, hi, e⟩ := List.getElem_of_mem hx
        rw [enumD_length, List.length_map] at hi
        have e2 := enumD_get (xs := ss.map sideD) (i := i) (x := sideD ss[i]) (by rw [List.getElem?_map, List.getElem?_eq_getElem hi]; rfl)
        rw [List.getElem?_eq_getElem (by rw [enumD_length, List.length_map]; exact hi), e] at e2
        have e3 := Option.some.inj e2
        subst e3
        refine ⟨(.int (i : Int), sideD ss[i]), rfl, ?_⟩
        dsimp only
        rw [slH_list (by omega), pure_bind', rowM_list, pure_bind', ← List.map_take]
        rw [comps_of (g := fun _ => [PyData.bool false]) (by rw [List.length_take]; omega) (fun t ht => by
          rw [hcr _ (List.getElem_mem hi) t (List.mem_of_mem_take ht)]; rfl)]
        congr 1
        induction List.take _ ss with
        | nil => rfl
        | cons a r ih => rw [List.flatMap_cons, ih]; rfl
    obtain ⟨es, hl, hf, run⟩ := run
    rw [show enumM (.list (ss.map sideD)) = pure (enumD (ss.map sideD)) from rfl, pure_bind', run, pure_bind']
    rw [show shortM es = pure (.list es) from by show ofO (if _ then _ else _) = _; rw [if_pos (show es.length ≤ line by unfold line; omega)]; rfl, pure_bind']
    exact any_false hf
  unfold L.are_apart
  rw [show (pure (ePs P.ps) >>= rowM) = (pure (P.ps.map ePc) : M _) from rfl] at es ⊢
  rw [pure_bind'] at es ⊢
  rw [forM_nx (fun x hx => ?_)]
  · rw [pure_bind', flk_nx]
    rw [show ∀ (k : List PyData → M PyData), ((pure (P.ps.map ePc) : M (List PyData)) >>= k) = k (P.ps.map ePc) from fun _ => rfl, es, pure_bind', pairs]
    simp
  · obtain ⟨p, hp, rfl⟩ := List.mem_map.mp hx
    refine ⟨_, rfl, ?_⟩
    show (_ >>= toB) >>= _ = _
    rw [loop p hp]
    simp
theorem is_plate_true {P : Pl} (h : PlOk P) : L.is_plate (ePl P) = pure (.bool true) := by
  have n30 := h.n30
  unfold L.is_plate
  have e4 : pQ4 pN pN pN pN (ePl P) = some (eCs P.cs, ePs P.ps, eTh P.th, eLm P) := rfl
  have e5 : isO .tuple (ePl P) = .bool true := rfl
  have e6 : lenM (ePl P) = pure (.int 4) := rfl
  simp only [e4, e5, e6, pure_bind', toB_bool, tNot_pure, Bool.not_true, tOr_pure, cond_false, ne_int, ofO_some, are_corners_true h, are_pieces_true h, sub_pure, len_ps, are_thicks_true h, is_stuff_true h]
  have u := used_eq h
  simp only [pure_bind'] at u
  simp only [decide_true, Bool.not_true, cond_false]
  rw [u, pure_bind', len_cs, pure_bind', range_list (by omega), pure_bind']
  rw [show ((List.range P.cs.length).map fun (i : Nat) => PyData.int (i : Int)) = ((List.range P.cs.length).map fun (i : Nat) => (i : Int)).map PyData.int by rw [List.map_map]; rfl, eqL_ints, are_apart_true h]
  simp
theorem need_plate_true {P : Pl} (h : PlOk P) : L.need_plate (ePl P) = pure .none := by
  unfold L.need_plate
  rw [is_plate_true h]
  simp
end V
set_option exponentiation.threshold 20000
namespace V
open PySem PySem.Spec ZL L2
def aff (a b c d s t : Int) (p : Pt) : Pt := (a * p.1 + b * p.2 + s, c * p.1 + d * p.2 + t)
theorem turn_aff (a b c d s t : Int) (p q r : Pt) : turn (aff a b c d s t p) (aff a b c d s t q) (aff a b c d s t r) = (a * d - b * c) * turn p q r := by
  unfold turn aff
  dsimp only
  grind
theorem sgn_mul_pos {k x : Int} (h : 0 < k) : sgn (k * x) = sgn x := by
  unfold sgn
  have h1 : 0 < k * x ↔ 0 < x := by
    constructor
    · intro q
      rcases Int.lt_trichotomy x 0 with c | c | c
      · have := Int.mul_neg_of_pos_of_neg h c; omega
      · subst c; simp at q
      · exact c
    · exact fun q => Int.mul_pos h q
  have h2 : k * x < 0 ↔ x < 0 := by
    constructor
    · intro q
      rcases Int.lt_trichotomy x 0 with c | c | c
      · exact c
      · subst c; simp at q
      · have := h1.mpr c; omega
    · exact fun q => Int.mul_neg_of_pos_of_neg h q
  simp only [h1, h2]
theorem sgn_neg (x : Int) : sgn (-x) = - sgn x := by unfold sgn; split <;> split <;> split <;> split <;> omega
theorem sgn_mul_neg {k x : Int} (h : k < 0) : sgn (k * x) = - sgn x := by
  have : k * x = -((-k) * x) := by rw [Int.neg_mul, Int.neg_neg]
  rw [this, sgn_neg, sgn_mul_pos (by omega)]
structure Geo (cs : List Pt) (ps : List Pc) : Prop where
  nd : cs.Nodup
  pc : ∀ p ∈ ps, PcOk cs p
  ri : ∀ i (h : i + 1 < ps.length), ltPc ps[i] ps[i + 1] = true
  us : ∀ i < cs.length, ∃ p ∈ ps, i = p.1 ∨ i = p.2.1 ∨ i = p.2.2
  ly : ∀ p ∈ ps, ∀ i < cs.length, i ≠ p.1 → i ≠ p.2.1 → i ≠ p.2.2 → liesB cs p i = false
  cr : ∀ p ∈ ps, ∀ q ∈ ps, ∀ s ∈ sidesOf p, ∀ t ∈ sidesOf q, crossB cs s t = false
def chainB : List Pc → Bool
  | p :: q :: r => ltPc p q && chainB (q :: r)
  | _ => true
theorem chainB_inv : ∀ {ps : List Pc}, chainB ps = true → ∀ i (h : i + 1 < ps.length), ltPc ps[i] ps[i + 1] = true
  | p :: q :: r, h, 0, _ => by
    unfold chainB at h
    rw [Bool.and_eq_true] at h
    exact h.1
  | p :: q :: r, h, i + 1, hi => by
    unfold chainB at h
    rw [Bool.and_eq_true] at h
    exact chainB_inv h.2 i (by simpa using hi)
  | [], _, _, h => by simp at h
  | [_], _, _, h => by simp at h
def ptB (p q : Pt) : Bool := decide (p.1 = q.1) && decide (p.2 = q.2)
def ndB : List Pt → Bool
  | [] => true
  | p :: r => !(r.any (ptB p)) && ndB r
theorem ndB_inv : ∀ {cs : List Pt}, ndB cs = true → cs.Nodup
  | [], _ => List.nodup_nil
  | p :: r, h => by
    unfold ndB at h
    rw [Bool.and_eq_true] at h
    refine List.nodup_cons.mpr ⟨fun hp => ?_, ndB_inv h.2⟩
    have : r.any (ptB p) = true := List.any_eq_true.mpr ⟨p, hp, by unfold ptB; simp⟩
    rw [this] at h
    simp at h
theorem xy_map {cs : List Pt} {f : Pt → Pt} {i : Nat} (h : i < cs.length) : xy (cs.map f) i = f (xy cs i) := by
  have h1 := xy_at h
  have h2 := xy_at (cs := cs.map f) (i := i) (by rw [List.length_map]; exact h)
  rw [List.getElem?_map, h1] at h2
  exact (Option.some.inj h2).symm
theorem Geo.aff {cs : List Pt} {ps : List Pc} (g : Geo cs ps) {a b c d s t : Int} (hd : a * d - b * c ≠ 0) : Geo (cs.map (V.aff a b c d s t)) ps := by
  have tl : ∀ {i j k : Nat}, i < cs.length → j < cs.length → k < cs.length → turn (xy (cs.map (V.aff a b c d s t)) i) (xy (cs.map (V.aff a b c d s t)) j) (xy (cs.map (V.aff a b c d s t)) k) = (a * d - b * c) * turn (xy cs i) (xy cs j) (xy cs k) := fun {i j k} hi hj hk => by
    rw [xy_map hi, xy_map hj, xy_map hk, turn_aff]
  have hpc : ∀ p ∈ ps, p.1 < cs.length ∧ p.2.1 < cs.length ∧ p.2.2 < cs.length := fun p hp => by
    have k := g.pc p hp
    have := k.ab; have := k.bc; have := k.c
    exact ⟨by omega, by omega, by omega⟩
  have hsd : ∀ p ∈ ps, ∀ s ∈ sidesOf p, s.1 < cs.length ∧ s.2 < cs.length := fun p hp s hs => by
    obtain ⟨k1, k2, k3⟩ := hpc p hp
    simp only [sidesOf, List.mem_cons, List.not_mem_nil, or_false] at hs
    rcases hs with rfl | rfl | rfl <;> exact ⟨by assumption, by assumption⟩
  refine ⟨?_, fun p hp => ?_, g.ri, fun i hi => g.us i (by simpa using hi), fun p hp i hi n1 n2 n3 => ?_, fun p hp q hq s' hs t' ht => ?_⟩
  · rw [List.nodup_iff_pairwise_ne, List.pairwise_map]
    refine (List.nodup_iff_pairwise_ne.mp g.nd).imp fun {p q} hne e => hne ?_
    unfold V.aff at e
    simp only [Prod.mk.injEq] at e
    obtain ⟨e1, e2⟩ := e
    have f1 : (a * d - b * c) * (p.1 - q.1) = 0 := by grind
    have f2 : (a * d - b * c) * (p.2 - q.2) = 0 := by grind
    have g1 := (Int.mul_eq_zero.mp f1).resolve_left hd
    have g2 := (Int.mul_eq_zero.mp f2).resolve_left hd
    exact Prod.ext (by omega) (by omega)
  · obtain ⟨k1, k2, k3⟩ := hpc p hp
    have k := g.pc p hp
    refine ⟨k.ab, k.bc, by rw [List.length_map]; exact k.c, ?_⟩
    rw [tl k1 k2 k3]
    exact Int.mul_ne_zero hd k.t
  · obtain ⟨k1, k2, k3⟩ := hpc p hp
    rw [List.length_map] at hi
    have := g.ly p hp i hi n1 n2 n3
    unfold liesB three at this ⊢
    rw [tl k1 k2 hi, tl k2 k3 hi, tl k3 k1 hi]
    rcases Int.lt_or_gt_of_ne hd with h | h
    · rw [sgn_mul_neg h, sgn_mul_neg h, sgn_mul_neg h]
      revert this
      generalize sgn (turn (xy cs p.1) (xy cs p.2.1) (xy cs i)) = x
      generalize sgn (turn (xy cs p.2.1) (xy cs p.2.2) (xy cs i)) = y
      generalize sgn (turn (xy cs p.2.2) (xy cs p.1) (xy cs i)) = z
      simp only [List.contains_eq_mem, List.mem_cons, List.not_mem_nil, or_false, Bool.not_eq_false', Bool.and_eq_true, decide_eq_true_eq]
      omega
    · rw [sgn_mul_pos h, sgn_mul_pos h, sgn_mul_pos h]
      exact this
  · obtain ⟨k1, k2⟩ := hsd p hp s' hs
    obtain ⟨k3, k4⟩ := hsd q hq t' ht
    have := g.cr p hp q hq s' hs t' ht
    unfold crossB at this ⊢
    rw [tl k1 k2 k3, tl k1 k2 k4, tl k3 k4 k1, tl k3 k4 k2]
    rcases Int.lt_or_gt_of_ne hd with h | h
    · rw [sgn_mul_neg h, sgn_mul_neg h, sgn_mul_neg h, sgn_mul_neg h, Int.neg_mul_neg, Int.neg_mul_neg]
      exact this
    · rw [sgn_mul_pos h, sgn_mul_pos h, sgn_mul_pos h, sgn_mul_pos h]
      exact this
def shp : List (List Pt × List Pc) := [([(0, 0), (2, 0), (0, 3)], [(0, 1, 2)]), ([(0, 0), (3, 0), (3, 2), (0, 2)], [(0, 1, 2), (0, 2, 3)]), ([(0, 0), (2, 1), (2, -1), (-2, 1), (-3, -1)], [(0, 1, 2), (0, 3, 4)]), ([(0, 0), (2, 0), (0, 2), (4, 0), (6, 1), (4, 3)], [(0, 1, 2), (3, 4, 5)]),
  ([(0, 0), (6, 0), (0, 6), (2, 1)], [(0, 1, 3), (0, 2, 3), (1, 2, 3)]), ([(0, 0), (0, 2), (2, 0), (3, 2), (5, 0)], [(0, 1, 2), (1, 2, 3), (2, 3, 4)]), ([(0, 0), (1, 2), (2, 0), (3, 2), (4, 0), (5, 3)], [(0, 1, 2), (2, 3, 4), (3, 4, 5)]), ([(0, 0), (2, 0), (0, 3), (-2, 0), (0, -1)], [(0, 1, 2), (0, 2, 3), (0, 3, 4), (0, 1, 4)])]
def sort3 (a b c : Nat) : Pc := if a ≤ b then (if b ≤ c then (a, b, c) else if a ≤ c then (a, c, b) else (c, a, b)) else (if a ≤ c then (b, a, c) else if b ≤ c then (b, c, a) else (c, b, a))
def keyP (p : Pc) : Nat := p.1 * 1099511627776 + (p.2.1 * 1048576 + p.2.2)
def insP (p : Pc) : List Pc → List Pc
  | [] => [p]
  | q :: r => if keyP p ≤ keyP q then p :: q :: r else q :: insP p r
def isortP : List Pc → List Pc
  | [] => []
  | p :: r => insP p (isortP r)
def ledP (o : List Nat) (p : Pc) : Pc := sort3 (o.getD p.1 0) (o.getD p.2.1 0) (o.getD p.2.2 0)
def ledCs (o : List Nat) (pts : List Pt) : List Pt := (List.range pts.length).map fun j => xy pts (o.idxOf j)
def ledPs (o : List Nat) (pcs : List Pc) : List Pc := isortP (pcs.map (ledP o))
def drawn : Nat → List Nat → List (List Nat)
  | 0, _ => [[]]
  | n + 1, left => (List.range left.length).flatMap fun k => (drawn n (left.eraseIdx k)).map fun r => left.getD k 0 :: r
def setAll {α : Type} : List Nat → List α → List α → List α
  | i :: o, v :: vs, acc => setAll o vs (acc.set i v)
  | _, _, acc => acc
def eqN : List Nat → List Nat → Bool
  | [], [] => true
  | a :: r, b :: q => decide (a = b) && eqN r q
  | _, _ => false
theorem eqN_inv : ∀ {a b : List Nat}, eqN a b = true → a = b
  | [], [], _ => rfl
  | a :: r, b :: q, h => by
    unfold eqN at h
    simp only [Bool.and_eq_true, decide_eq_true_eq] at h
    rw [h.1, eqN_inv h.2]
  | [], _ :: _, h => by simp [eqN] at h
  | _ :: _, [], h => by simp [eqN] at h
theorem insP_mem {p q : Pc} : ∀ {l : List Pc}, q ∈ insP p l ↔ q = p ∨ q ∈ l
  | [] => by simp [insP]
  | r :: l => by
    unfold insP
    split
    · simp
    · rw [List.mem_cons, insP_mem, List.mem_cons]
      constructor
      · rintro (h | h | h)
        · exact .inr (.inl h)
        · exact .inl h
        · exact .inr (.inr h)
      · rintro (h | h | h)
        · exact .inr (.inl h)
        · exact .inl h
        · exact .inr (.inr h)
theorem isortP_mem {q : Pc} : ∀ {l : List Pc}, q ∈ isortP l ↔ q ∈ l
  | [] => Iff.rfl
  | p :: l => by
    show q ∈ insP p (isortP l) ↔ _
    rw [insP_mem, isortP_mem, List.mem_cons]
structure Ord (n : Nat) (o : List Nat) : Prop where
  len : o.length = n
  lt : ∀ i < n, o.getD i 0 < n
  ix : ∀ i < n, o.idxOf (o.getD i 0) = i
  xi : ∀ j < n, o.idxOf j < n ∧ o.getD (o.idxOf j) 0 = j
  set : setAll o (List.range n) (List.replicate n 999) = (List.range n).map fun j => o.idxOf j
def ordB (n : Nat) (o : List Nat) : Bool := Nat.beq o.length n && (List.range n).all (fun i => Nat.blt (o.getD i 0) n && Nat.beq (o.idxOf (o.getD i 0)) i && Nat.blt (o.idxOf i) n && Nat.beq (o.getD (o.idxOf i) 0) i) && eqN (setAll o (List.range n) (List.replicate n 999)) ((List.range n).map fun j => o.idxOf j)
theorem ordB_inv {n : Nat} {o : List Nat} (h : ordB n o = true) : Ord n o := by
  unfold ordB at h
  simp only [Bool.and_eq_true, List.all_eq_true, List.mem_range] at h
  obtain ⟨⟨h1, h2⟩, h3⟩ := h
  have e : ∀ {a b : Nat}, Nat.beq a b = true → a = b := fun h => Nat.eq_of_beq_eq_true h
  have l : ∀ {a b : Nat}, Nat.blt a b = true → a < b := fun h => Nat.blt_eq.mp h
  exact ⟨e h1, fun i hi => l (h2 i hi).1.1.1, fun i hi => e (h2 i hi).1.1.2, fun j hj => ⟨l (h2 j hj).1.2, e (h2 j hj).2⟩, eqN_inv h3⟩
structure GeoU (cs : List Pt) (ps : List Pc) : Prop where
  nd : cs.Nodup
  lt : ∀ p ∈ ps, p.1 < cs.length ∧ p.2.1 < cs.length ∧ p.2.2 < cs.length
  t : ∀ p ∈ ps, turn (xy cs p.1) (xy cs p.2.1) (xy cs p.2.2) ≠ 0
  ly : ∀ p ∈ ps, ∀ i < cs.length, i ≠ p.1 → i ≠ p.2.1 → i ≠ p.2.2 → liesB cs p i = false
  cr : ∀ p ∈ ps, ∀ q ∈ ps, ∀ s ∈ sidesOf p, ∀ t ∈ sidesOf q, crossB cs s t = false
theorem turn_swap (p q r : Pt) : turn q p r = - turn p q r := by unfold turn; grind
theorem turn_rot (p q r : Pt) : turn q r p = turn p q r := by unfold turn; grind
theorem turn_sw2 (p q r : Pt) : turn p r q = - turn p q r := by unfold turn; grind
theorem turn_sw3 (p q r : Pt) : turn r q p = - turn p q r := by unfold turn; grind
theorem turn_rot2 (p q r : Pt) : turn r p q = turn p q r := by unfold turn; grind
theorem sort3_cases (a b c : Nat) : sort3 a b c = (a, b, c) ∨ sort3 a b c = (a, c, b) ∨ sort3 a b c = (c, a, b) ∨ sort3 a b c = (b, a, c) ∨ sort3 a b c = (b, c, a) ∨ sort3 a b c = (c, b, a) := by
  unfold sort3
  split <;> split <;> (try split) <;> simp
theorem cross_sw1 (cs : List Pt) (i j : Nat) (t : Nat × Nat) : crossB cs (j, i) t = crossB cs (i, j) t := by
  unfold crossB
  dsimp only
  rw [turn_swap (xy cs i) (xy cs j) (xy cs t.1), turn_swap (xy cs i) (xy cs j) (xy cs t.2), sgn_neg, sgn_neg, Int.neg_mul_neg, Int.mul_comm (sgn (turn (xy cs t.1) (xy cs t.2) (xy cs j)))]
theorem cross_sw2 (cs : List Pt) (s : Nat × Nat) (i j : Nat) : crossB cs s (j, i) = crossB cs s (i, j) := by
  unfold crossB
  dsimp only
  rw [turn_swap (xy cs i) (xy cs j) (xy cs s.1), turn_swap (xy cs i) (xy cs j) (xy cs s.2), sgn_neg, sgn_neg, Int.neg_mul_neg, Int.mul_comm (sgn (turn (xy cs s.1) (xy cs s.2) (xy cs j)))]
theorem both_perm {x y z : Int} (h : (!((([x, y, z] : List Int).contains (-1)) && ([x, y, z] : List Int).contains 1)) = false) {u v w : Int} (hs : (∀ e, e ∈ ([u, v, w] : List Int) ↔ e ∈ ([x, y, z] : List Int)) ∨ ∀ e, e ∈ ([u, v, w] : List Int) ↔ -e ∈ ([x, y, z] : List Int)) :
    (!((([u, v, w] : List Int).contains (-1)) && ([u, v, w] : List Int).contains 1)) = false := by
  simp only [List.contains_eq_mem, Bool.not_eq_false', Bool.and_eq_true, decide_eq_true_eq] at h ⊢
  rcases hs with hs | hs
  · exact ⟨(hs _).mpr h.1, (hs _).mpr h.2⟩
  · exact ⟨(hs _).mpr (by rw [Int.neg_neg]; exact h.2), (hs _).mpr h.1⟩
theorem lies_led {cs cs' : List Pt} {p p' : Pc} {i i' : Nat} (h : liesB cs p i = false) (ei : xy cs' i' = xy cs i)
    (e : ((xy cs' p'.1 = xy cs p.1 ∧ xy cs' p'.2.1 = xy cs p.2.1 ∧ xy cs' p'.2.2 = xy cs p.2.2) ∨ (xy cs' p'.1 = xy cs p.1 ∧ xy cs' p'.2.1 = xy cs p.2.2 ∧ xy cs' p'.2.2 = xy cs p.2.1) ∨ (xy cs' p'.1 = xy cs p.2.2 ∧ xy cs' p'.2.1 = xy cs p.1 ∧ xy cs' p'.2.2 = xy cs p.2.1) ∨
      (xy cs' p'.1 = xy cs p.2.1 ∧ xy cs' p'.2.1 = xy cs p.1 ∧ xy cs' p'.2.2 = xy cs p.2.2) ∨ (xy cs' p'.1 = xy cs p.2.1 ∧ xy cs' p'.2.1 = xy cs p.2.2 ∧ xy cs' p'.2.2 = xy cs p.1) ∨ (xy cs' p'.1 = xy cs p.2.2 ∧ xy cs' p'.2.1 = xy cs p.2.1 ∧ xy cs' p'.2.2 = xy cs p.1))) : liesB cs' p' i' = false := by
  unfold liesB three at h ⊢
  have neg : ∀ x y z : Pt, sgn (turn y x z) = - sgn (turn x y z) := fun x y z => by rw [turn_swap, sgn_neg]
  refine both_perm h ?_
  rw [ei]
  rcases e with ⟨e1, e2, e3⟩ | ⟨e1, e2, e3⟩ | ⟨e1, e2, e3⟩ | ⟨e1, e2, e3⟩ | ⟨e1, e2, e3⟩ | ⟨e1, e2, e3⟩
  · rw [e1, e2, e3]; exact .inl fun e => Iff.rfl
  · rw [e1, e2, e3]
    refine .inr fun e => ?_
    rw [neg (xy cs p.2.2) (xy cs p.1), neg (xy cs p.2.1) (xy cs p.2.2), neg (xy cs p.1) (xy cs p.2.1)]
    simp only [List.mem_cons, List.not_mem_nil, or_false]
    omega
  · rw [e1, e2, e3]
    refine .inl fun e => ?_
    simp only [List.mem_cons, List.not_mem_nil, or_false]
    omega
  · rw [e1, e2, e3]
    refine .inr fun e => ?_
    rw [neg (xy cs p.2.2) (xy cs p.1), neg (xy cs p.2.1) (xy cs p.2.2), neg (xy cs p.1) (xy cs p.2.1)]
    simp only [List.mem_cons, List.not_mem_nil, or_false]
    omega
  · rw [e1, e2, e3]
    refine .inl fun e => ?_
    simp only [List.mem_cons, List.not_mem_nil, or_false]
    omega
  · rw [e1, e2, e3]
    refine .inr fun e => ?_
    rw [neg (xy cs p.2.2) (xy cs p.1), neg (xy cs p.2.1) (xy cs p.2.2), neg (xy cs p.1) (xy cs p.2.1)]
    simp only [List.mem_cons, List.not_mem_nil, or_false]
    omega
theorem xy_led {pts : List Pt} {o : List Nat} (ho : Ord pts.length o) {i : Nat} (hi : i < pts.length) : xy (ledCs o pts) (o.getD i 0) = xy pts i := by
  have h1 := ho.lt i hi
  have h2 := xy_at (cs := ledCs o pts) (i := o.getD i 0) (by unfold ledCs; rw [List.length_map, List.length_range]; exact h1)
  unfold ledCs at h2
  rw [List.getElem?_map, List.getElem?_range h1, Option.map_some, ho.ix i hi] at h2
  exact (Option.some.inj h2).symm
theorem side_led {o : List Nat} {p : Pc} {s' : Nat × Nat} (h : s' ∈ sidesOf (ledP o p)) : ∃ s ∈ sidesOf p, s' = (o.getD s.1 0, o.getD s.2 0) ∨ s' = (o.getD s.2 0, o.getD s.1 0) := by
  unfold ledP at h
  rcases sort3_cases (o.getD p.1 0) (o.getD p.2.1 0) (o.getD p.2.2 0) with e | e | e | e | e | e <;> rw [e] at h <;>
    simp only [sidesOf, List.mem_cons, List.not_mem_nil, or_false] at h ⊢ <;>
    (rcases h with rfl | rfl | rfl <;>
      first
      | exact ⟨_, .inl rfl, .inl rfl⟩
      | exact ⟨_, .inl rfl, .inr rfl⟩
      | exact ⟨_, .inr (.inl rfl), .inl rfl⟩
      | exact ⟨_, .inr (.inl rfl), .inr rfl⟩
      | exact ⟨_, .inr (.inr rfl), .inl rfl⟩
      | exact ⟨_, .inr (.inr rfl), .inr rfl⟩)
structure ComOk (n : Nat) (ps : List Pc) : Prop where
  pc : ∀ p ∈ ps, p.1 < p.2.1 ∧ p.2.1 < p.2.2 ∧ p.2.2 < n
  ri : ∀ i (h : i + 1 < ps.length), ltPc ps[i] ps[i + 1] = true
  us : ∀ i < n, ∃ p ∈ ps, i = p.1 ∨ i = p.2.1 ∨ i = p.2.2
def comB (n : Nat) (ps : List Pc) : Bool := ps.all (fun p => Nat.blt p.1 p.2.1 && Nat.blt p.2.1 p.2.2 && Nat.blt p.2.2 n) && chainB ps && (List.range n).all (fun i => ps.any fun p => Nat.beq i p.1 || Nat.beq i p.2.1 || Nat.beq i p.2.2)
theorem comB_inv {n : Nat} {ps : List Pc} (h : comB n ps = true) : ComOk n ps := by
  unfold comB at h
  simp only [Bool.and_eq_true, List.all_eq_true, Bool.or_eq_true, List.any_eq_true, List.mem_range] at h
  obtain ⟨⟨h1, h2⟩, h3⟩ := h
  have e : ∀ {a b : Nat}, Nat.beq a b = true → a = b := fun h => Nat.eq_of_beq_eq_true h
  have l : ∀ {a b : Nat}, Nat.blt a b = true → a < b := fun h => Nat.blt_eq.mp h
  refine ⟨fun p hp => ⟨l (h1 p hp).1.1, l (h1 p hp).1.2, l (h1 p hp).2⟩, chainB_inv h2, fun i hi => ?_⟩
  obtain ⟨p, hp, k⟩ := h3 i hi
  refine ⟨p, hp, ?_⟩
  rcases k with (k | k) | k
  · exact .inl (e k)
  · exact .inr (.inl (e k))
  · exact .inr (.inr (e k))
theorem ledCs_len (o : List Nat) (pts : List Pt) : (ledCs o pts).length = pts.length := by unfold ledCs; simp
theorem Geo.led {pts : List Pt} {pcs : List Pc} {o : List Nat} (g : GeoU pts pcs) (ho : Ord pts.length o) (hc : ComOk pts.length (ledPs o pcs)) : Geo (ledCs o pts) (ledPs o pcs) := by
  have back : ∀ p' ∈ ledPs o pcs, ∃ p ∈ pcs, p' = ledP o p := fun p' hp => by
    obtain ⟨p, h1, h2⟩ := List.mem_map.mp (isortP_mem.mp hp)
    exact ⟨p, h1, h2.symm⟩
  have xl : ∀ {i : Nat}, i < pts.length → xy (ledCs o pts) (o.getD i 0) = xy pts i := fun hi => xy_led ho hi
  have six : ∀ p ∈ pcs, ((xy (ledCs o pts) (ledP o p).1 = xy pts p.1 ∧ xy (ledCs o pts) (ledP o p).2.1 = xy pts p.2.1 ∧ xy (ledCs o pts) (ledP o p).2.2 = xy pts p.2.2) ∨ (xy (ledCs o pts) (ledP o p).1 = xy pts p.1 ∧ xy (ledCs o pts) (ledP o p).2.1 = xy pts p.2.2 ∧ xy (ledCs o pts) (ledP o p).2.2 = xy pts p.2.1) ∨
      (xy (ledCs o pts) (ledP o p).1 = xy pts p.2.2 ∧ xy (ledCs o pts) (ledP o p).2.1 = xy pts p.1 ∧ xy (ledCs o pts) (ledP o p).2.2 = xy pts p.2.1) ∨ (xy (ledCs o pts) (ledP o p).1 = xy pts p.2.1 ∧ xy (ledCs o pts) (ledP o p).2.1 = xy pts p.1 ∧ xy (ledCs o pts) (ledP o p).2.2 = xy pts p.2.2) ∨
      (xy (ledCs o pts) (ledP o p).1 = xy pts p.2.1 ∧ xy (ledCs o pts) (ledP o p).2.1 = xy pts p.2.2 ∧ xy (ledCs o pts) (ledP o p).2.2 = xy pts p.1) ∨ (xy (ledCs o pts) (ledP o p).1 = xy pts p.2.2 ∧ xy (ledCs o pts) (ledP o p).2.1 = xy pts p.2.1 ∧ xy (ledCs o pts) (ledP o p).2.2 = xy pts p.1)) := fun p hp => by
    obtain ⟨h1, h2, h3⟩ := g.lt p hp
    have x1 := xl h1; have x2 := xl h2; have x3 := xl h3
    unfold ledP
    rcases sort3_cases (o.getD p.1 0) (o.getD p.2.1 0) (o.getD p.2.2 0) with q | q | q | q | q | q <;> rw [q]
    · exact .inl ⟨x1, x2, x3⟩
    · exact .inr (.inl ⟨x1, x3, x2⟩)
    · exact .inr (.inr (.inl ⟨x3, x1, x2⟩))
    · exact .inr (.inr (.inr (.inl ⟨x2, x1, x3⟩)))
    · exact .inr (.inr (.inr (.inr (.inl ⟨x2, x3, x1⟩))))
    · exact .inr (.inr (.inr (.inr (.inr ⟨x3, x2, x1⟩))))
  have mem : ∀ p : Pc, ∀ i, (i = (ledP o p).1 ∨ i = (ledP o p).2.1 ∨ i = (ledP o p).2.2) ↔ (i = o.getD p.1 0 ∨ i = o.getD p.2.1 0 ∨ i = o.getD p.2.2 0) := fun p i => by
    unfold ledP
    rcases sort3_cases (o.getD p.1 0) (o.getD p.2.1 0) (o.getD p.2.2 0) with q | q | q | q | q | q <;> rw [q] <;> dsimp only <;> omega
  refine ⟨?_, fun p' hp => ?_, hc.ri, fun i hi => hc.us i (by rw [ledCs_len] at hi; exact hi), fun p' hp i hi n1 n2 n3 => ?_, fun p' hp q' hq s' hs t' ht => ?_⟩
  · unfold ledCs
    rw [List.nodup_iff_pairwise_ne, List.pairwise_map]
    refine List.Pairwise.imp_of_mem (fun {i j} hi hj hne e => hne ?_) (List.nodup_iff_pairwise_ne.mp List.nodup_range)
    have hi := ho.xi i (List.mem_range.mp hi)
    have hj := ho.xi j (List.mem_range.mp hj)
    have a1 := xy_at hi.1
    have a2 := xy_at hj.1
    rw [List.getElem?_eq_getElem hi.1] at a1
    rw [List.getElem?_eq_getElem hj.1] at a2
    have a3 : pts[o.idxOf i]'hi.1 = pts[o.idxOf j]'hj.1 := by rw [Option.some.inj a1, Option.some.inj a2, e]
    have this := List.pairwise_iff_getElem.mp (List.nodup_iff_pairwise_ne.mp g.nd)
    have k : o.idxOf i = o.idxOf j := by
      rcases Nat.lt_trichotomy (o.idxOf i) (o.idxOf j) with c | c | c
      · exact absurd a3 (this _ _ hi.1 hj.1 c)
      · exact c
      · exact absurd a3.symm (this _ _ hj.1 hi.1 c)
    rw [← hi.2, ← hj.2, k]
  · obtain ⟨p, h1, rfl⟩ := back p' hp
    obtain ⟨k1, k2, k3⟩ := hc.pc _ hp
    refine ⟨k1, k2, by rw [ledCs_len]; exact k3, ?_⟩
    have t0 := g.t p h1
    rcases six p h1 with ⟨e1, e2, e3⟩ | ⟨e1, e2, e3⟩ | ⟨e1, e2, e3⟩ | ⟨e1, e2, e3⟩ | ⟨e1, e2, e3⟩ | ⟨e1, e2, e3⟩ <;> rw [e1, e2, e3]
    · exact t0
    · rw [turn_sw2]; omega
    · rw [turn_rot2]; exact t0
    · rw [turn_swap]; omega
    · rw [turn_rot]; exact t0
    · rw [turn_sw3]; omega
  · obtain ⟨p, h1, rfl⟩ := back p' hp
    rw [ledCs_len] at hi
    obtain ⟨x1, x2⟩ := ho.xi i hi
    have ne : ∀ {a : Nat}, i ≠ o.getD a 0 → o.idxOf i ≠ a := fun h e => h (by rw [← e]; exact x2.symm)
    have m := mem p i
    have nn : ¬ (i = o.getD p.1 0 ∨ i = o.getD p.2.1 0 ∨ i = o.getD p.2.2 0) := fun z => by
      rcases m.mpr z with z | z | z
      · exact n1 z
      · exact n2 z
      · exact n3 z
    have := g.ly p h1 (o.idxOf i) x1 (ne fun z => nn (.inl z)) (ne fun z => nn (.inr (.inl z))) (ne fun z => nn (.inr (.inr z)))
    refine lies_led this ?_ (six p h1)
    rw [← xl x1, x2]
  · obtain ⟨p, h1, rfl⟩ := back p' hp
    obtain ⟨q, h2, rfl⟩ := back q' hq
    obtain ⟨s, hs1, hs2⟩ := side_led hs
    obtain ⟨t, ht1, ht2⟩ := side_led ht
    have sl : ∀ {p : Pc} {s : Nat × Nat}, p ∈ pcs → s ∈ sidesOf p → s.1 < pts.length ∧ s.2 < pts.length := fun {p s} hp hs => by
      obtain ⟨k1, k2, k3⟩ := g.lt p hp
      simp only [sidesOf, List.mem_cons, List.not_mem_nil, or_false] at hs
      rcases hs with rfl | rfl | rfl <;> exact ⟨by assumption, by assumption⟩
    have same : crossB (ledCs o pts) (o.getD s.1 0, o.getD s.2 0) (o.getD t.1 0, o.getD t.2 0) = crossB pts s t := by
      unfold crossB
      dsimp only
      rw [xl (sl h1 hs1).1, xl (sl h1 hs1).2, xl (sl h2 ht1).1, xl (sl h2 ht1).2]
    have c0 := g.cr p h1 q h2 s hs1 t ht1
    rcases hs2 with rfl | rfl <;> rcases ht2 with rfl | rfl
    · rw [same]; exact c0
    · rw [cross_sw2, same]; exact c0
    · rw [cross_sw1, same]; exact c0
    · rw [cross_sw1, cross_sw2, same]; exact c0
def geoU (cs : List Pt) (ps : List Pc) : Bool := ndB cs && ps.all (fun p => decide (p.1 < cs.length) && decide (p.2.1 < cs.length) && decide (p.2.2 < cs.length) && !decide (turn (xy cs p.1) (xy cs p.2.1) (xy cs p.2.2) = 0)) &&
  ps.all (fun p => (List.range cs.length).all fun i => decide (i = p.1) || decide (i = p.2.1) || decide (i = p.2.2) || !(liesB cs p i)) && (allSides ps).all (fun s => (allSides ps).all fun t => !(crossB cs s t))
theorem geoU_inv {cs : List Pt} {ps : List Pc} (h : geoU cs ps = true) : GeoU cs ps := by
  unfold geoU at h
  simp only [Bool.and_eq_true, List.all_eq_true, Bool.or_eq_true, decide_eq_true_eq, Bool.not_eq_true', decide_eq_false_iff_not, List.mem_range] at h
  obtain ⟨⟨⟨h1, h2⟩, h5⟩, h6⟩ := h
  refine ⟨ndB_inv h1, fun p hp => ⟨(h2 p hp).1.1.1, (h2 p hp).1.1.2, (h2 p hp).1.2⟩, fun p hp => (h2 p hp).2, fun p hp i hi n1 n2 n3 => ?_, fun p hp q hq s hs t ht => h6 s (List.mem_flatMap.mpr ⟨p, hp, hs⟩) t (List.mem_flatMap.mpr ⟨q, hq, ht⟩)⟩
  rcases h5 p hp i hi with ((k | k) | k) | k
  · exact absurd k n1
  · exact absurd k n2
  · exact absurd k n3
  · exact k
def shpB (sh : List Pt × List Pc) : Bool := decide (sh.1.length ≤ 6) && decide (3 ≤ sh.1.length) && decide (sh.2.length ≤ 4) && decide (1 ≤ sh.2.length) && sh.1.all (fun p => decide (-6 ≤ p.1) && decide (p.1 ≤ 6) && decide (-6 ≤ p.2) && decide (p.2 ≤ 6)) && geoU sh.1 sh.2
def ordsB (sh : List Pt × List Pc) : Bool := (drawn sh.1.length (List.range sh.1.length)).all fun o => comB sh.1.length (ledPs o sh.2)
theorem shp_ok : shp.all shpB = true := by decide +kernel
theorem shp_com : shp.all ordsB = true := by decide +kernel
theorem ord_3 : (drawn 3 (List.range 3)).all (ordB 3) = true := by decide +kernel
theorem ord_4 : (drawn 4 (List.range 4)).all (ordB 4) = true := by decide +kernel
theorem ord_5 : (drawn 5 (List.range 5)).all (ordB 5) = true := by decide +kernel
theorem ord_6 : (drawn 6 (List.range 6)).all (ordB 6) = true := by decide +kernel
end V
set_option exponentiation.threshold 20000
namespace V
open PySem PySem.Spec ZL L2
def eN (ns : List Nat) : List PyData := ns.map fun (i : Nat) => PyData.int (i : Int)
theorem eN_int (ns : List Nat) : eN ns = (ns.map fun (i : Nat) => (i : Int)).map PyData.int := lenI ns
theorem neL_nil (ns : List Nat) : neM (.list (eN ns)) (.list []) = pure (!ns.isEmpty) := by
  show ofO (if SeqAt.shaped _ && SeqAt.shaped _ then some (!(PyData.eqv _ _)) else none) = _
  rw [eN_int, shaped_ints]
  show ofO (some (!(PyData.eqvAll _ _))) = _
  cases ns <;> rfl
theorem popC_some {s : Cells} {k : Int} {ys : List PyData} {n : Nat} {d : PyData} (h : s[1]? = some (some (.lst ys))) (hp : popD ys k = some (n, d)) : popC 1 (.int k) s = .ok d (s.set 1 (some (.lst (ys.eraseIdx n)))) := by
  unfold popC
  simp only [h, hp]
theorem popC_run {xs : List PyData} {i : Nat} {d : PyData} {c : Option Cell} {r : Cells} (e : xs[i]? = some d) (h62 : i ≤ 100000) : popC 1 (.int (i : Int)) (c :: cS xs :: r) = .ok d (c :: cS (xs.eraseIdx i) :: r) := by
  have hi := (List.getElem?_eq_some_iff.mp e).1
  have hx : ixN xs.length (i : Int) = some i := by
    unfold ixN
    rw [if_pos (by omega), if_pos (by omega)]
    simp
  have c62 : -((2 : Int) ^ 62) ≤ (i : Int) ∧ (i : Int) < (2 : Int) ^ 62 := by
    have : (2 : Int) ^ 62 = 4611686018427387904 := by decide
    omega
  have hp : popD xs (i : Int) = some (i, d) := by
    have e1 : popD xs (i : Int) = (ixN xs.length (i : Int)).bind fun n => (xs[n]?).map fun d => (n, d) := if_pos c62
    rw [e1, hx, Option.bind_some, e]; rfl
  exact popC_some rfl hp
theorem map_eraseIdx {α β : Type} (f : α → β) : ∀ (l : List α) (i : Nat), (l.map f).eraseIdx i = (l.eraseIdx i).map f
  | [], _ => rfl
  | x :: l, 0 => rfl
  | x :: l, i + 1 => by
    show f x :: (l.map f).eraseIdx i = _
    rw [map_eraseIdx f l i]; rfl
theorem order_loop {D : List (List Nat)} {c : Unit → M Bool} {body : Unit → M (Fl Unit Unit)} {L : Type}
    (hc : ∀ left st r, c () (cS st :: cS (eN left) :: r) = .ok (!left.isEmpty) (cS st :: cS (eN left) :: r))
    (hb : ∀ left found st, GoodSt st → 0 < left.length → left.length ≤ 100 → found.length ≤ 100 → ∃ k st', k < left.length ∧ GoodSt st' ∧ body () [cS st, cS (eN left), cS (eN found)] = .ok (.nx ()) [cS st', cS (eN (left.eraseIdx k)), cS (eN (found ++ [left.getD k 0]))]) :
    ∀ (m : Nat) (left found : List Nat) (st : List PyData) (n : Nat), left.length = m → m ≤ 100 → found.length + m ≤ 100 → GoodSt st → m < n → (∀ r ∈ drawn m left, found ++ r ∈ D) → ∃ st' o, GoodSt st' ∧ o ∈ D ∧ (whileM c body n () : M (Fl L Unit)) [cS st, cS (eN left), cS (eN found)] = .ok (.nx ()) [cS st', cS [], cS (eN o)] := by
  intro m
  induction m with
  | zero =>
    intro left found st n hl hm hf g hn hD
    have : left = [] := List.length_eq_zero_iff.mp hl
    subst this
    obtain ⟨j, rfl⟩ : ∃ j, n = j + 1 := ⟨n - 1, by omega⟩
    refine ⟨st, found, g, by simpa using hD [] (by simp [drawn]), ?_⟩
    rw [whileM_succ]
    exact bindR (hc [] st _) rfl
  | succ m ih =>
    intro left found st n hl hm hf g hn hD
    obtain ⟨j, rfl⟩ : ∃ j, n = j + 1 := ⟨n - 1, by omega⟩
    obtain ⟨k, st', hk, g', e⟩ := hb left found st g (by omega) (by omega) (by omega)
    obtain ⟨st2, o, g2, ho, e2⟩ := ih (left.eraseIdx k) (found ++ [left.getD k 0]) st' j (by rw [List.length_eraseIdx_of_lt hk]; omega) (by omega) (by rw [List.length_append]; simp; omega) g' (by omega) fun r hr => by
      rw [List.append_assoc]
      refine hD _ ?_
      unfold drawn
      exact List.mem_flatMap.mpr ⟨k, List.mem_range.mpr hk, List.mem_map.mpr ⟨r, hr, rfl⟩⟩
    refine ⟨st2, o, g2, ho, ?_⟩
    rw [whileM_succ]
    refine bindR (hc left st _) ?_
    have : left.isEmpty = false := by cases left with
      | nil => simp at hl
      | cons a l => rfl
    rw [this]
    show (body () >>= _) _ = _
    exact bindR e e2
theorem order_gen {n : Nat} (h1 : 1 ≤ n) (h : n ≤ 90) : Gen1 (L.law_order (.int (n : Int))) fun d => ∃ o, d = .list (eN o) ∧ o ∈ drawn n (List.range n) := by
  intro st g
  unfold L.law_order
  have hr : rgN (.int 0) (.int (n : Int)) = pure (eN (List.range n)) := by
    have e := range_list (n := n) (by omega)
    have ok : rgOk 0 (n : Int) = true := by
      unfold rgOk
      simp only [Bool.and_eq_true, decide_eq_true_eq]
      omega
    have e2 : rgO (.int 0) (.int (n : Int)) = some (rangeD 0 n) := by
      unfold rgO
      simp only [ok, if_true]
      simp
    unfold rgN
    rw [e2, ofO_some]
    unfold rangeD eN
    simp
  have l := order_loop (L := Unit) (D := drawn n (List.range n)) (c := fun (t1 : Unit) => ((lstK []) >>= fun x2 => (getC 1 >>= fun xs3 => (bif true then neM (.list xs3) x2 else eqM (.list xs3) x2)))) (body := fun (t1 : Unit) => ((getC 2 >>= fun _ => (getC 1 >>= fun _ => ((getC 1 >>= fun xs4 => (lenM (.list xs4))) >>= fun x5 => (sub [0] (L.law_choice x5))) >>= fun x6 => popC 1 x6) >>= fun x7 => appC 2 x7) >>= fun _u9 => (pure (.nx ()))))
    (fun left st r => by
      simp only [lstK_0, pure_bind', cond_true]
      refine bindR (getC_1 _ _ _) ?_
      rw [neL_nil]; rfl)
    (fun left found st g h0 h1 h2 => by
      obtain ⟨a, st', g', ⟨r, rfl, r0, r1⟩, e⟩ := choice (n := (left.length : Int)) (by omega) (by omega) st [cS (eN left), cS (eN found)] g
      obtain ⟨k, rfl⟩ : ∃ k : Nat, r = k := ⟨r.toNat, by omega⟩
      have hk : k < left.length := by omega
      refine ⟨k, st', hk, g', ?_⟩
      simp only [bind_assoc']
      refine bindR (getC_2 _ _ _ _) (bindR (getC_1 _ _ _) (bindR (getC_1 _ _ _) ?_))
      rw [len_list, show (eN left).length = left.length from List.length_map .., pure_bind']
      refine bindR e (bindR (popC_run (d := .int ((left.getD k 0 : Nat) : Int)) ?_ (by omega)) (bindR (appC_2 (by unfold eN; rw [List.length_map]; omega)) ?_))
      · unfold eN
        rw [List.getElem?_map, List.getElem?_eq_getElem hk, List.getD_eq_getElem?_getD, List.getElem?_eq_getElem hk]; rfl
      · unfold eN
        rw [map_eraseIdx, List.map_append]; rfl)
  obtain ⟨st', o, g', ho, e⟩ := l n (List.range n) [] st fuel List.length_range (by omega) (by simp; omega) g (by unfold fuel; omega) (fun r hr => by simpa using hr)
  refine ⟨.list (eN o), st', g', ⟨o, rfl, ho⟩, ?_⟩
  refine (frame_run (s := [cS st]) (nl := 2) (s' := [cS st', cS [], none]) ?_).trans rfl
  rw [hr]
  simp only [pure_bind', lstN0, fin_bind]
  refine bindR (setC_1 _ _ _ _) (bindR (setC_2 _ _ _ _ _) ?_)
  refine bindR e ?_
  rw [flk_nx]
  simp only [fin_bind, bind_assoc', pure_bind', fin_rt]
  exact bindR (lockC_2 _ _ _ _) rfl
theorem order {n : Nat} (h1 : 1 ≤ n) (h : n ≤ 90) : Gen (V.sub [0] (L.law_order (.int (n : Int)))) fun d => ∃ o, d = .list (eN o) ∧ o ∈ drawn n (List.range n) := (order_gen h1 h).sub
theorem Gen.noex {α : Type} {m : M α} {P : α → Prop} (h : Gen m P) : Gen (V.noex m) P := fun st rest g => by
  obtain ⟨a, st', g', p, e⟩ := h st rest g
  refine ⟨a, st', g', p, ?_⟩
  show (match m _ with | .ok a s' => Res.ok a s' | _ => .bad) = _
  rw [e]
theorem Gen.comp {f : PyData → M PyData} {P : PyData → Prop} {xs : List PyData} (hl : xs.length ≤ 16777216) (h : ∀ x ∈ xs, Gen (f x) P) : Gen (V.comp pN yep f xs) fun ys => ys.length = xs.length ∧ ∀ y ∈ ys, P y := by
  unfold V.comp
  rw [if_pos (show xs.length ≤ line from hl)]
  refine Gen.noex ?_
  have : ∀ {xs : List PyData}, (∀ x ∈ xs, Gen (f x) P) → Gen (compP pN yep f xs) fun ys => ys.length = xs.length ∧ ∀ y ∈ ys, P y := by
    intro xs
    induction xs with
    | nil => intro _; exact Gen.pure ⟨rfl, fun y h => by cases h⟩
    | cons x r ih =>
      intro h
      unfold compP
      rw [ofO_some, pure_bind', pure_bind', cond_true]
      refine Gen.bind (h x List.mem_cons_self) fun y hy => ?_
      refine Gen.bind (ih fun z hz => h z (List.mem_cons_of_mem _ hz)) fun ys hys => ?_
      refine Gen.pure ⟨by simp [hys.1], fun z hz => ?_⟩
      rcases List.mem_cons.mp hz with rfl | hz
      · exact hy
      · exact hys.2 z hz
  exact this h
end V
set_option exponentiation.threshold 20000
namespace V
open PySem PySem.Spec ZL L2
@[simp] theorem tupK_5 (a b c d e : PyData) : tupK [.d a, .d b, .d c, .d d, .d e] = pure (.tuple [a, b, c, d, e]) := rfl
@[simp] theorem tupK_6 (a b c d e f : PyData) : tupK [.d a, .d b, .d c, .d d, .d e, .d f] = pure (.tuple [a, b, c, d, e, f]) := rfl
theorem shapes_eq : L.law_shapes = pure (.list (shp.map fun s => .tuple [eCs s.1, ePs s.2])) := by
  unfold L.law_shapes
  simp only [neg_int, tupK_1, tupK_2, tupK_3, tupK_4, tupK_5, tupK_6, lstK_8, pure_bind', fin_rt, frame_pure]
  rfl
theorem setAll_map {α β : Type} (F : α → β) : ∀ (o : List Nat) (l acc : List α), setAll o (l.map F) (acc.map F) = (setAll o l acc).map F
  | i :: o, v :: l, acc => by
    show setAll o (l.map F) ((acc.map F).set i (F v)) = _
    rw [← List.map_set]
    exact setAll_map F o l (acc.set i v)
  | [], _, _ => rfl
  | _ :: _, [], _ => rfl
theorem setAll_led {pts : List Pt} {o : List Nat} (ho : Ord pts.length o) (hn : pts.length ≤ 100) (f : Pt → PyData) (e0 : PyData) : setAll o (pts.map f) (List.replicate pts.length e0) = (ledCs o pts).map f := by
  have h1 : pts.map f = (List.range pts.length).map fun i => if i = 999 then e0 else f (xy pts i) := by
    apply List.ext_getElem?
    intro i
    rw [List.getElem?_map, List.getElem?_map]
    by_cases h : i < pts.length
    · rw [xy_at h, List.getElem?_range h]
      simp [show i ≠ 999 by omega]
    · rw [List.getElem?_eq_none (by omega), List.getElem?_eq_none (by rw [List.length_range]; omega)]; rfl
  have h2 : List.replicate pts.length e0 = (List.replicate pts.length 999).map fun i => if i = 999 then e0 else f (xy pts i) := by
    rw [List.map_replicate]; simp
  rw [h1, h2, setAll_map, ho.set]
  unfold ledCs
  rw [List.map_map, List.map_map]
  refine List.map_congr_left fun j hj => ?_
  have := (ho.xi j (List.mem_range.mp hj)).1
  simp [show o.idxOf j ≠ 999 by omega]
theorem putC_1 {xs : List PyData} {i : Nat} {v : PyData} {c : Option Cell} {r : Cells} (h : i < xs.length) : putC 1 (.int (i : Int)) v (c :: cS xs :: r) = .ok () (c :: cS (xs.set i v) :: r) := by
  have hx : ixN xs.length (i : Int) = some i := by
    unfold ixN
    rw [if_pos (by omega), if_pos (by omega)]
    simp
  unfold putC
  rw [show (c :: cS xs :: r)[1]? = some (some (.lst xs)) from rfl]
  simp only [hx]
  rfl
theorem put_loop {o : List Nat} {f : Pt → PyData} {L : Type} {body : PyData × PyData × PyData → Unit → M (Fl Unit Unit)} {ok : Pt → Prop}
    (hb : ∀ (i : Nat) (p : Pt) (acc : List PyData) (c : Option Cell) (r : Cells), i < o.length → o.getD i 0 < acc.length → ok p → body (.int (i : Int), .int p.1, .int p.2) () (c :: cS acc :: r) = .ok (.nx ()) (c :: cS (acc.set (o.getD i 0) (f p)) :: r)) :
    ∀ (ps : List Pt) (k : Nat) (acc : List PyData) (c : Option Cell) (r : Cells), k + ps.length ≤ o.length → (∀ i < o.length, o.getD i 0 < acc.length) → (∀ p ∈ ps, ok p) →
      (V.forM (pT2 pN (pT2 pN pN)) body (List.zipWith (fun (i : Nat) x => PyData.tuple [.int (i : Int), x]) (List.range' k ps.length) (ps.map ePt)) () : M (Fl L Unit)) (c :: cS acc :: r) = .ok (.nx ()) (c :: cS (setAll (o.drop k) (ps.map f) acc) :: r)
  | [], k, acc, c, r, _, _, _ => by
    cases o.drop k <;> rfl
  | p :: ps, k, acc, c, r, hk, ha, hp => by
    have hk' : k < o.length := by simp at hk; omega
    have e : o.drop k = o.getD k 0 :: o.drop (k + 1) := by
      rw [List.getD_eq_getElem?_getD, List.getElem?_eq_getElem hk']
      exact List.drop_eq_getElem_cons hk'
    rw [e]
    show (V.forM _ body (PyData.tuple [.int (k : Int), ePt p] :: _) () : M (Fl L Unit)) _ = _
    unfold V.forM
    rw [show pT2 pN (pT2 pN pN) (PyData.tuple [.int (k : Int), ePt p]) = some (.int (k : Int), .int p.1, .int p.2) from rfl, ofO_some, pure_bind']
    refine bindR (hb k p acc c r hk' (ha k hk') (hp p List.mem_cons_self)) ?_
    exact put_loop hb ps (k + 1) _ c r (by simp at hk ⊢; omega) (fun i hi => by rw [List.length_set]; exact ha i hi) fun q hq => hp q (List.mem_cons_of_mem _ hq)
theorem enum_range (ps : List Pt) : enumM (eCs ps) = pure (List.zipWith (fun (i : Nat) x => PyData.tuple [.int (i : Int), x]) (List.range' 0 ps.length) (ps.map ePt)) := by
  show ofO (some (enumD (ps.map ePt))) = _
  rw [ofO_some]
  unfold enumD
  rw [List.length_map, List.range_eq_range']
theorem sort3_sort (a b c : Nat) : sortI [(a : Int), (b : Int), (c : Int)] = [((sort3 a b c).1 : Int), ((sort3 a b c).2.1 : Int), ((sort3 a b c).2.2 : Int)] := by
  refine (sortI_uniq ?_ ?_).symm
  · unfold sort3
    split
    · split
      · exact .refl _
      · split
        · exact .cons _ (.swap _ _ _)
        · exact (List.Perm.swap (a : Int) (c : Int) [(b : Int)]).trans (.cons _ (.swap _ _ _))
    · split
      · exact .swap _ _ _
      · split
        · exact (List.Perm.cons (b : Int) (.swap (a : Int) (c : Int) [])).trans (.swap _ _ _)
        · exact ((List.Perm.swap (b : Int) (c : Int) [(a : Int)]).trans (.cons _ (.swap _ _ _))).trans (.swap _ _ _)
  · unfold sort3
    split
    · split
      · simp; omega
      · split <;> (simp; omega)
    · split
      · simp; omega
      · split <;> (simp; omega)
def pcI (p : Pc) : List Int := [(p.1 : Int), (p.2.1 : Int), (p.2.2 : Int)]
theorem code_pc (p : Pc) : TS.code bB (pcI p) = (keyP p : Nat) := by
  unfold pcI keyP
  simp only [TS.code, List.length_cons, List.length_nil]
  unfold bB
  omega
theorem insP_perm (p : Pc) : ∀ l : List Pc, (insP p l).Perm (p :: l)
  | [] => .refl _
  | q :: r => by
    unfold insP
    split
    · exact .refl _
    · exact (List.Perm.cons q (insP_perm p r)).trans (.swap _ _ _)
theorem isortP_perm : ∀ l : List Pc, (isortP l).Perm l
  | [] => .refl _
  | p :: l => (insP_perm p (isortP l)).trans (.cons p (isortP_perm l))
theorem insP_sorted (p : Pc) : ∀ {l : List Pc}, l.Pairwise (fun a b => keyP a ≤ keyP b) → (insP p l).Pairwise fun a b => keyP a ≤ keyP b
  | [], _ => List.pairwise_singleton _ _
  | q :: r, h => by
    obtain ⟨h1, h2⟩ := List.pairwise_cons.mp h
    unfold insP
    split
    · rename_i hk
      refine List.pairwise_cons.mpr ⟨fun x hx => ?_, h⟩
      rcases List.mem_cons.mp hx with rfl | hx
      · exact hk
      · exact Nat.le_trans hk (h1 x hx)
    · rename_i hk
      refine List.pairwise_cons.mpr ⟨fun x hx => ?_, insP_sorted p h2⟩
      rcases insP_mem.mp hx with rfl | hx
      · omega
      · exact h1 x hx
theorem isortP_sorted : ∀ l : List Pc, (isortP l).Pairwise fun a b => keyP a ≤ keyP b
  | [] => .nil
  | p :: l => insP_sorted p (isortP_sorted l)
theorem sorted_pcs {l : List Pc} (h1 : 1 ≤ l.length) (h2 : l.length < 64) (hb : ∀ p ∈ l, p.1 < 1000 ∧ p.2.1 < 1000 ∧ p.2.2 < 1000) : sortedM (.list (l.map ePc)) = pure (.list ((isortP l).map ePc)) := by
  have e1 : l.map ePc = (l.map pcI).map tupI := by rw [List.map_map]; rfl
  have e2 : sortT (l.map pcI) = (isortP l).map pcI := by
    refine (sortT_uniq (d := 3) (fun ns hns => ?_) ((isortP_perm l).map pcI) ?_).symm
    · obtain ⟨p, hp, rfl⟩ := List.mem_map.mp hns
      obtain ⟨k1, k2, k3⟩ := hb p hp
      unfold okT pcI bB
      simp
      omega
    · rw [List.pairwise_map]
      refine (isortP_sorted l).imp fun {a b} h => ?_
      rw [code_pc, code_pc]
      omega
  have e3 : sortD (l.map ePc) = some (((isortP l).map pcI).map tupI) := by
    unfold sortD
    rw [e1]
    obtain ⟨p0, r0, hl⟩ : ∃ p r, l = p :: r := by
      cases l with
      | nil => simp at h1
      | cons p r => exact ⟨p, r, rfl⟩
    have en : intsD ((l.map pcI).map tupI) = none := by rw [hl]; rfl
    rw [en, tupsD_of]
    simp only
    have hd : ((l.map pcI).headD []).length = 3 := by rw [hl]; rfl
    rw [hd, if_pos ⟨by rw [List.length_map]; exact h2, by omega, List.all_eq_true.mpr fun x hx => by
      obtain ⟨p, hp, rfl⟩ := List.mem_map.mp hx
      obtain ⟨k1, k2, k3⟩ := hb p hp
      unfold okT pcI bB
      simp
      omega⟩, e2]
  show ofO (Option.map PyData.list (sortD (l.map ePc))) = _
  rw [e3, Option.map_some, ofO_some, List.map_map]
  rfl
theorem led_piece {o : List Nat} {p : Pc} (h : p.1 < o.length ∧ p.2.1 < o.length ∧ p.2.2 < o.length) : ((((pure (ePc p) >>= rowM) >>= fun xs47 => comp pN yep (fun t46 => ixM (.list (eN o)) t46) xs47 >>= fun ys49 => pure (PyData.list ys49)) >>= fun x50 => sortedM x50) >>= fun x51 => tupleM x51) = pure (ePc (ledP o p)) := by
  have e1 : comp pN yep (fun t46 => ixM (.list (eN o)) t46) ([p.1, p.2.1, p.2.2].map fun (i : Nat) => PyData.int (i : Int)) = pure ([p.1, p.2.1, p.2.2].map fun i => PyData.int ((o.getD i 0 : Nat) : Int)) := comp_of (by simp) fun i hi => by
    have : i < o.length := by rcases mem3 hi with rfl | rfl | rfl <;> omega
    exact ix_natL i (by unfold eN; rw [List.getElem?_map, List.getElem?_eq_getElem this, List.getD_eq_getElem?_getD, List.getElem?_eq_getElem this]; rfl)
  rw [show (pure (ePc p) >>= rowM) = (pure ([p.1, p.2.1, p.2.2].map fun (i : Nat) => PyData.int (i : Int)) : M _) from rfl, pure_bind', e1, pure_bind', pure_bind']
  have e2 : sortedM (.list ([p.1, p.2.1, p.2.2].map fun i => PyData.int ((o.getD i 0 : Nat) : Int))) = pure (.list [.int ((ledP o p).1 : Int), .int ((ledP o p).2.1 : Int), .int ((ledP o p).2.2 : Int)]) := by
    show ofO (Option.map PyData.list (some ((sortI [((o.getD p.1 0 : Nat) : Int), ((o.getD p.2.1 0 : Nat) : Int), ((o.getD p.2.2 0 : Nat) : Int)]).map PyData.int))) = _
    rw [sort3_sort]; rfl
  rw [e2]; rfl
theorem At.run {α β : Type} {m : M α} {k : α → M β} {a : α} {r r' : Cells} {Q : β → Cells → Prop} (h : ∀ st, m (cS st :: r) = .ok a (cS st :: r')) (hk : Tr (At r') (k a) Q) : Tr (At r) (m >>= k) Q := by
  rintro s ⟨st, g, rfl⟩
  obtain ⟨b, s2, e2, q⟩ := hk _ ⟨st, g, rfl⟩
  exact ⟨b, s2, by rw [bind_ok (h st)]; exact e2, q⟩
theorem ints_of {P : Int → Prop} : ∀ {ys : List PyData}, (∀ y ∈ ys, ∃ t : Int, y = .int t ∧ P t) → ∃ ts : List Int, ys = ts.map PyData.int ∧ ∀ t ∈ ts, P t
  | [], _ => ⟨[], rfl, fun t h => by cases h⟩
  | y :: r, h => by
    obtain ⟨t, rfl, p⟩ := h y List.mem_cons_self
    obtain ⟨ts, rfl, q⟩ := ints_of fun z hz => h z (List.mem_cons_of_mem _ hz)
    refine ⟨t :: ts, rfl, fun u hu => ?_⟩
    rcases List.mem_cons.mp hu with rfl | hu
    · exact p
    · exact q u hu
theorem ord_of {n : Nat} (h3 : 3 ≤ n) (h6 : n ≤ 6) {o : List Nat} (ho : o ∈ drawn n (List.range n)) : Ord n o := by
  have : n = 3 ∨ n = 4 ∨ n = 5 ∨ n = 6 := by omega
  rcases this with rfl | rfl | rfl | rfl
  · exact ordB_inv (List.all_eq_true.mp ord_3 o ho)
  · exact ordB_inv (List.all_eq_true.mp ord_4 o ho)
  · exact ordB_inv (List.all_eq_true.mp ord_5 o ho)
  · exact ordB_inv (List.all_eq_true.mp ord_6 o ho)
theorem rep_pt {n : Nat} (h : n ≤ 1000) (x : PyData) : repN (.list [x]) (.int (n : Int)) = pure (List.replicate n x) := by
  have ok : repOk (n : Int) 1 = true := by
    unfold repOk line
    simp only [Bool.and_eq_true, decide_eq_true_eq]
    omega
  have e : repO (.list [x]) (.int (n : Int)) = some (repD n [x]) := by
    unfold repO
    simp only [List.length_cons, List.length_nil, Nat.zero_add, ok, if_true]
    simp
  have e3 : ∀ m : Nat, repD m [x] = List.replicate m x := by
    intro m
    induction m with
    | zero => rfl
    | succ m ih =>
      show [x] ++ repD m [x] = _
      rw [ih]; rfl
  rw [e3] at e
  exact congrArg ofO e
structure Drawn (P : Pl) : Prop where
  ok : PlOk P
  n6 : P.cs.length ≤ 6
  k4 : P.ps.length ≤ 4
theorem plate_gen {most : Int} (h1 : 1 ≤ most) (h8 : most ≤ 8) : Gen1 (L.law_plate (.int most)) fun d => ∃ P, d = ePl P ∧ Drawn P := by
  unfold L.law_plate
  refine Gen1.ofTr ?_
  rw [shapes_eq]
  simp only [sub_pure, pure_bind', bind_assoc', fin_bind]
  refine At.gen (choice (by omega) (by omega)) ?_
  rintro _ ⟨w, rfl, w0, w1⟩
  obtain ⟨d, hd, ed⟩ := ix_mem (xs := shp.map fun s => PyData.tuple [eCs s.1, ePs s.2]) (v := w) w0 (by rw [List.length_map]; show w < ((8 : Nat) : Int); omega)
  obtain ⟨⟨pts, pcs⟩, hs, rfl⟩ := List.mem_map.mp hd
  have hB := List.all_eq_true.mp shp_ok _ hs
  have hC := List.all_eq_true.mp shp_com _ hs
  unfold shpB at hB
  simp only [Bool.and_eq_true, decide_eq_true_eq, List.all_eq_true] at hB
  obtain ⟨⟨⟨⟨⟨n6, n3⟩, k4⟩, k1⟩, small⟩, hG⟩ := hB
  have G := geoU_inv hG
  rw [ed]
  simp only [pure_bind', show pQ2 pN pN (PyData.tuple [eCs pts, ePs pcs]) = some (eCs pts, ePs pcs) from rfl, ofO_some]
  refine At.gen (choice (by decide) (by decide)) ?_
  rintro _ ⟨a, rfl, a0, a1⟩
  simp only [add_int, pure_bind']
  refine At.gen (choice (by decide) (by decide)) ?_
  rintro _ ⟨b, rfl, b0, b1⟩
  simp only [sub_int, pure_bind']
  refine At.gen (choice (by decide) (by decide)) ?_
  rintro _ ⟨c, rfl, c0, c1⟩
  simp only [sub_int, pure_bind']
  refine At.gen (choice (by decide) (by decide)) ?_
  rintro _ ⟨d, rfl, d0, d1⟩
  simp only [sub_int, pure_bind']
  refine At.gen (choice (by decide) (by decide)) ?_
  rintro _ ⟨s, rfl, s0, s1⟩
  simp only [sub_int, pure_bind']
  refine At.gen (choice (by decide) (by decide)) ?_
  rintro _ ⟨t, rfl, t0, t1⟩
  simp only [sub_int, pure_bind']
  rw [mulS ⟨by omega, by omega⟩ ⟨by omega, by omega⟩, mulS ⟨by omega, by omega⟩ ⟨by omega, by omega⟩]
  simp only [pure_bind', eq_int]
  obtain ⟨A, B, C, D, hA, hB', hC', hD, hdet, em⟩ : ∃ A B C D : Int, (-3 ≤ A ∧ A ≤ 3) ∧ (-3 ≤ B ∧ B ≤ 3) ∧ (-3 ≤ C ∧ C ≤ 3) ∧ (-3 ≤ D ∧ D ≤ 3) ∧ A * D - B * C ≠ 0 ∧
      (bif decide ((1 + a) * (d - 3) = (b - 2) * (c - 2)) then (tupK [.d (.int 1), .d (.int (b - 2)), .d (.int 0), .d (.int 1)] >>= fun v24 => ofO (pQ4 pN pN pN pN v24) >>= fun u23 => (pure (.nx (u23.1, u23.2.1, u23.2.2.1, u23.2.2.2)) : M (Fl Unit (PyData × PyData × PyData × PyData)))) else (pure (.nx (.int (1 + a), .int (b - 2), .int (c - 2), .int (d - 3))))) = pure (.nx (.int A, .int B, .int C, .int D)) := by
    by_cases h : (1 + a) * (d - 3) = (b - 2) * (c - 2)
    · refine ⟨1, b - 2, 0, 1, by omega, by omega, by omega, by omega, by omega, ?_⟩
      rw [decide_eq_true h]
      rfl
    · refine ⟨1 + a, b - 2, c - 2, d - 3, by omega, by omega, by omega, by omega, by omega, ?_⟩
      rw [decide_eq_false h]
      rfl
  rw [em]
  rw [pure_bind', flk_nx]
  simp only [fin_bind]
  rw [len_cs, pure_bind']
  refine At.gen (order (n := pts.length) (by omega) (by omega)) ?_
  rintro _ ⟨o, rfl, ho⟩
  have O := ord_of n3 n6 ho
  have cm := comB_inv (List.all_eq_true.mp hC o ho)
  have GG := Geo.led G O cm
  rw [tupK_2, pure_bind', lstK_1, pure_bind', pure_bind', rep_pt (by omega), pure_bind']
  refine At.run (r' := [cS (List.replicate pts.length (.tuple [.int 0, .int 0]))]) (fun st => setC_1 _ _ _ _) ?_
  rw [enum_range, pure_bind']
  have sm : ∀ p ∈ pts, ((-6 ≤ p.1 ∧ p.1 ≤ 6) ∧ -6 ≤ p.2) ∧ p.2 ≤ 6 := fun p hp => by
    have := small p hp
    omega
  have prod : ∀ {x y : Int}, -3 ≤ x ∧ x ≤ 3 → -6 ≤ y ∧ y ≤ 6 → -18 ≤ x * y ∧ x * y ≤ 18 := fun {x y} hx hy => by
    have : x = -3 ∨ x = -2 ∨ x = -1 ∨ x = 0 ∨ x = 1 ∨ x = 2 ∨ x = 3 := by omega
    rcases this with rfl | rfl | rfl | rfl | rfl | rfl | rfl <;> omega
  refine At.run (r' := [cS (setAll (o.drop 0) (pts.map fun p => ePt (aff A B C D (s - 20) (t - 4) p)) (List.replicate pts.length (.tuple [.int 0, .int 0])))]) (a := .nx ()) (fun st => ?_) ?_
  · refine put_loop (o := o) (f := fun p => ePt (aff A B C D (s - 20) (t - 4) p)) (ok := fun p => ((-6 ≤ p.1 ∧ p.1 ≤ 6) ∧ -6 ≤ p.2) ∧ p.2 ≤ 6) (fun i p acc c r hi ha hp => ?_) pts 0 _ _ _ (by rw [O.len]; omega) (fun i hi => by rw [List.length_replicate]; exact O.lt i (by rw [← O.len]; exact hi)) sm
    have q1 := prod hA hp.1.1
    have q2 := prod hB' (⟨hp.1.2, hp.2⟩ : -6 ≤ p.2 ∧ p.2 ≤ 6)
    have q3 := prod hC' hp.1.1
    have q4 := prod hD (⟨hp.1.2, hp.2⟩ : -6 ≤ p.2 ∧ p.2 ≤ 6)
    dsimp only
    rw [mulS ⟨by omega, by omega⟩ ⟨by omega, by omega⟩, mulS ⟨by omega, by omega⟩ ⟨by omega, by omega⟩, mulS ⟨by omega, by omega⟩ ⟨by omega, by omega⟩, mulS ⟨by omega, by omega⟩ ⟨by omega, by omega⟩]
    simp only [pure_bind', add_int, tupK_2]
    rw [ix_natL (xs := eN o) i (d := .int ((o.getD i 0 : Nat) : Int)) (by unfold eN; rw [List.getElem?_map, List.getElem?_eq_getElem hi, List.getD_eq_getElem?_getD, List.getElem?_eq_getElem hi]; rfl), pure_bind']
    exact bindR (putC_1 ha) rfl
  simp only [flk_nx, fin_bind, pure_bind', List.drop_zero]
  rw [setAll_led O (by omega) (fun p => ePt (aff A B C D (s - 20) (t - 4) p))]
  have e1 := comp_of (f := fun t44 => (((rowM t44 >>= fun xs47 => comp pN yep (fun t46 => ixM (.list (eN o)) t46) xs47 >>= fun ys49 => pure (PyData.list ys49)) >>= fun x50 => sortedM x50) >>= fun x51 => tupleM x51)) (xs := pcs) (e := ePc) (g := fun p => ePc (ledP o p)) (by omega) (fun p hp => by
    have := led_piece (o := o) (p := p) (by rw [O.len]; exact G.lt p hp)
    simpa only [pure_bind'] using this)
  simp only [bind_assoc', pure_bind'] at e1
  rw [show rowM (ePs pcs) = pure (pcs.map ePc) from rfl, pure_bind', e1, pure_bind']
  have hled : ∀ p ∈ pcs.map (ledP o), p.1 < 1000 ∧ p.2.1 < 1000 ∧ p.2.2 < 1000 := fun q hq => by
    obtain ⟨k1, k2, k3⟩ := cm.pc q (isortP_mem.mpr hq)
    have k3 : q.2.2 < pts.length := k3
    omega
  have es := sorted_pcs (l := pcs.map (ledP o)) (by rw [List.length_map]; omega) (by rw [List.length_map]; omega) hled
  rw [List.map_map] at es
  rw [show (pcs.map fun p => ePc (ledP o p)) = pcs.map (ePc ∘ ledP o) from rfl, es, pure_bind', rowM_list, pure_bind']
  have hpl : (ledPs o pcs).length = pcs.length := by unfold ledPs; rw [(isortP_perm _).length_eq, List.length_map]
  refine At.gen (Gen.comp (P := fun y => ∃ t : Int, y = .int t ∧ 1 ≤ t ∧ t ≤ 9) (by rw [List.length_map]; show (ledPs o pcs).length ≤ _; omega) fun x hx => ?_) ?_
  · simp only [lstK_2, pure_bind']
    refine Gen.bind (choice (by decide) (by decide)) ?_
    rintro _ ⟨r, rfl, r0, r1⟩
    obtain ⟨d, hd, ed⟩ := ix_mem (xs := [.int 9, .int 2]) r0 (by simpa using r1)
    rw [ed, pure_bind']
    obtain ⟨z, rfl, z0, z1⟩ : ∃ z : Int, d = .int z ∧ 1 ≤ z ∧ z ≤ 9 := by
      simp only [List.mem_cons, List.not_mem_nil, or_false] at hd
      rcases hd with rfl | rfl
      · exact ⟨_, rfl, by decide, by decide⟩
      · exact ⟨_, rfl, by decide, by decide⟩
    refine Gen.bind (choice (by omega) (by omega)) ?_
    rintro _ ⟨u, rfl, u0, u1⟩
    rw [add_int]
    exact Gen.pure ⟨_, rfl, by omega, by omega⟩
  · rintro ys ⟨hl, hy⟩
    obtain ⟨th, rfl, hth⟩ := ints_of hy
    rw [List.length_map, List.length_map] at hl
    have hl : th.length = (ledPs o pcs).length := hl
    rw [show tupleM (.list (th.map PyData.int)) = pure (eTh th) from rfl, pure_bind']
    refine At.run (r' := [cS ((ledCs o pts).map fun p => ePt (aff A B C D (s - 20) (t - 4) p))]) (fun st => getC_1 _ _ _) ?_
    rw [show ∀ xs : List PyData, tupleM (.list xs) = pure (.tuple xs) from fun _ => rfl, pure_bind', show tupleM (.list ((isortP (pcs.map (ledP o))).map ePc)) = pure (ePs (ledPs o pcs)) from rfl, pure_bind']
    refine At.gen (choice (by decide) (by decide)) ?_
    rintro _ ⟨l, rfl, l0, l1⟩
    refine At.gen (choice (by decide) (by decide)) ?_
    rintro _ ⟨m, rfl, m0, m1⟩
    simp only [add_int, pure_bind', tupK_2, tupK_4, fin_rt]
    refine At.pure fun s' hs' => ⟨⟨⟨(ledCs o pts).map (aff A B C D (s - 20) (t - 4)), ledPs o pcs, th, l, 1 + m⟩, ?_, ?_, ?_, ?_⟩, ?_⟩
    · show _ = PyData.tuple [eCs _, ePs _, eTh _, eLm _]
      unfold eCs eLm
      rw [List.map_map]
      rfl
    · have A1 := GG.aff (s := s - 20) (t := t - 4) hdet
      refine ⟨?_, ?_, ?_, A1.nd, by rw [hpl]; exact k1, by rw [hpl]; omega, A1.pc, A1.ri, hl, hth, ⟨l0, by show l ≤ 9; omega⟩, ⟨by show 1 ≤ 1 + m; omega, by show 1 + m ≤ 9; omega⟩, A1.us, A1.ly, A1.cr⟩
      · show 3 ≤ (List.map _ _).length
        rw [List.length_map, ledCs_len]; exact n3
      · show (List.map _ _).length ≤ 30
        rw [List.length_map, ledCs_len]; omega
      · intro q hq
        obtain ⟨p, hp, rfl⟩ := List.mem_map.mp hq
        unfold ledCs at hp
        obtain ⟨j, hj, rfl⟩ := List.mem_map.mp hp
        have hx := sm _ (List.mem_of_getElem? (xy_at (O.xi j (List.mem_range.mp hj)).1))
        have q1 := prod hA hx.1.1
        have q2 := prod hB' (⟨hx.1.2, hx.2⟩ : -6 ≤ (xy pts (o.idxOf j)).2 ∧ (xy pts (o.idxOf j)).2 ≤ 6)
        have q3 := prod hC' hx.1.1
        have q4 := prod hD (⟨hx.1.2, hx.2⟩ : -6 ≤ (xy pts (o.idxOf j)).2 ∧ (xy pts (o.idxOf j)).2 ≤ 6)
        unfold inb aff
        dsimp only
        omega
    · show (List.map _ _).length ≤ 6
      rw [List.length_map, ledCs_len]; exact n6
    · show (ledPs o pcs).length ≤ 4
      rw [hpl]; exact k4
    · obtain ⟨st, g, rfl⟩ := hs'
      exact ⟨st, _, g, rfl⟩
theorem plate {most : Int} (h1 : 1 ≤ most) (h8 : most ≤ 8) : Gen (V.sub [0] (L.law_plate (.int most))) fun d => ∃ P, d = ePl P ∧ Drawn P := (plate_gen h1 h8).sub
end V
set_option exponentiation.threshold 20000
namespace V
open PySem PySem.Spec ZL L2
def Fx (D n : Nat) (q : Rat) : Prop := ∃ k : Int, q * (D : Rat) = (k : Rat) ∧ k.natAbs < 2 ^ n
theorem pow_mono {x a b : Nat} (h : x < 2 ^ a) (hab : a ≤ b) : x < 2 ^ b := Nat.lt_of_lt_of_le h (Nat.pow_le_pow_right (by decide) hab)
theorem Fx.mono {D n m : Nat} {q : Rat} (h : Fx D n q) (hm : n ≤ m) : Fx D m q := let ⟨k, e, b⟩ := h; ⟨k, e, pow_mono b hm⟩
theorem castD (D : Nat) : (D : Rat) = ((D : Int) : Rat) := rfl
theorem Fx.eq {D n : Nat} {q : Rat} (hD : D ≠ 0) (h : Fx D n q) : ∃ k : Int, q = Rat.divInt k D ∧ k.natAbs < 2 ^ n := by
  obtain ⟨k, e, b⟩ := h
  refine ⟨k, ?_, b⟩
  have hd : (D : Rat) ≠ 0 := by
    intro z
    apply hD
    have : ((D : Int) : Rat) = ((0 : Int) : Rat) := z
    exact_mod_cast this
  rw [Rat.divInt_eq_div, ← castD, ← e, Rat.div_def, Rat.mul_assoc, Rat.mul_inv_cancel _ hd, Rat.mul_one]
theorem Fx.bt {D n b : Nat} {q : Rat} (hD : D ≠ 0) (hd : D < 2 ^ b) (hn : n ≤ b) (h : Fx D n q) : Bt b q := by
  obtain ⟨k, rfl, hk⟩ := h.eq hD
  exact .divInt (pow_mono hk hn) (by simpa using hd) (by omega)
theorem Fx.zero (D n : Nat) : Fx D n 0 := ⟨0, by rw [Rat.zero_mul]; rfl, by simpa using Nat.two_pow_pos n⟩
theorem Fx.add {D n m : Nat} {p q : Rat} (h : Fx D n p) (h2 : Fx D m q) : Fx D (max n m + 1) (p + q) := by
  obtain ⟨k, e, b⟩ := h
  obtain ⟨l, e2, b2⟩ := h2
  refine ⟨k + l, by rw [Rat.add_mul, e, e2, Rat.intCast_add], ?_⟩
  have h1 := pow_mono b (Nat.le_max_left n m)
  have h2 := pow_mono b2 (Nat.le_max_right n m)
  rw [Nat.pow_succ]
  omega
theorem Fx.addS {D n : Nat} {p q : Rat} (h : Fx D n p) (h2 : Fx D n q) : Fx D (n + 1) (p + q) := by
  have := h.add h2
  rwa [Nat.max_self] at this
theorem Fx.neg {D n : Nat} {p : Rat} (h : Fx D n p) : Fx D n (-p) := by
  obtain ⟨k, e, b⟩ := h
  exact ⟨-k, by rw [Rat.neg_mul, e, Rat.intCast_neg], by rw [Int.natAbs_neg]; exact b⟩
theorem Fx.sub {D n m : Nat} {p q : Rat} (h : Fx D n p) (h2 : Fx D m q) : Fx D (max n m + 1) (p - q) := by
  rw [Rat.sub_eq_add_neg]
  exact h.add h2.neg
theorem Fx.int {z : Int} {n : Nat} (h : z.natAbs < 2 ^ n) : Fx 1 n (z : Rat) := ⟨z, by rw [show ((1 : Nat) : Rat) = 1 from rfl, Rat.mul_one], h⟩
theorem Fx.divInt {z b : Int} {n : Nat} (hb : b ≠ 0) (hz : z.natAbs < 2 ^ n) : Fx b.natAbs n (Rat.divInt z b) := by
  refine ⟨if 0 ≤ b then z else -z, ?_, by split <;> simpa using hz⟩
  have hbr : (b : Rat) ≠ 0 := fun h => hb (by exact_mod_cast h)
  rw [Rat.divInt_eq_div, castD]
  split
  · rw [show ((b.natAbs : Nat) : Int) = b by omega, Rat.div_mul_cancel hbr]
  · rw [show ((b.natAbs : Nat) : Int) = -b by omega, Rat.intCast_neg, Rat.intCast_neg, Rat.mul_neg, Rat.div_mul_cancel hbr]
abbrev Fr6 (q : Rat) : Prop := Fx 60 56 q
def IsF (d : PyData) : Prop := ∃ q, d = fr q ∧ Fr6 q
theorem fx60 {z : Int} {b : Int} (hb : 1 ≤ b ∧ b ≤ 6) (hz : z.natAbs < 2 ^ 50) : Fr6 (Rat.divInt z b) := by
  have : b = 1 ∨ b = 2 ∨ b = 3 ∨ b = 4 ∨ b = 5 ∨ b = 6 := by omega
  rw [Rat.divInt_eq_div]
  have k : ∀ c : Int, 1 ≤ c ∧ c ≤ 60 → (z * c).natAbs < 2 ^ 56 := fun c hc => by
    rw [Int.natAbs_mul]
    have := Nat.mul_le_mul (Nat.le_of_lt hz) (show c.natAbs ≤ 60 by omega)
    exact Nat.lt_of_le_of_lt this (by decide)
  rcases this with rfl | rfl | rfl | rfl | rfl | rfl
  · exact ⟨z * 60, by rw [Rat.intCast_mul]; grind, k 60 (by omega)⟩
  · exact ⟨z * 30, by rw [Rat.intCast_mul]; grind, k 30 (by omega)⟩
  · exact ⟨z * 20, by rw [Rat.intCast_mul]; grind, k 20 (by omega)⟩
  · exact ⟨z * 15, by rw [Rat.intCast_mul]; grind, k 15 (by omega)⟩
  · exact ⟨z * 12, by rw [Rat.intCast_mul]; grind, k 12 (by omega)⟩
  · exact ⟨z * 10, by rw [Rat.intCast_mul]; grind, k 10 (by omega)⟩
theorem fx60i {z : Int} (hz : z.natAbs < 2 ^ 50) : Fr6 (z : Rat) := by
  have := fx60 (z := z) (b := 1) (by omega) hz
  rwa [show Rat.divInt z 1 = (z : Rat) from by rw [Rat.divInt_eq_div]; grind] at this
theorem fractionF_gen : Gen1 L.law_fraction IsF := by
  unfold L.law_fraction
  refine Gen.frame0 ?_
  simp only [fin_bind, bind_assoc', pure_bind', fin_cond]
  refine Gen.bind (choice (by decide) (by decide)) ?_
  rintro _ ⟨t, rfl, t0, t1⟩
  simp only [sub_int, pure_bind']
  refine Gen.bind (choice (by decide) (by decide)) ?_
  rintro _ ⟨w, rfl, w0, w1⟩
  simp only [lt_int, pure_bind']
  refine Gen.cond (fun hw => ?_) fun hw => ?_
  · have hw := of_decide_eq_true hw
    simp only [tupK_2, pure_bind', lstK_3]
    obtain ⟨d, hd, e⟩ := ix_mem (xs := [.tuple [.int 0, .int 1], .tuple [.int 1, .int 1], .tuple [.int (t - 9), .int 1]]) w0 (by simpa using hw)
    simp only [e, pure_bind', fin_rt]
    refine Gen.pure ?_
    simp only [List.mem_cons, List.not_mem_nil, or_false] at hd
    rcases hd with rfl | rfl | rfl
    · exact ⟨_, fr_int 0, fx60i (by decide)⟩
    · exact ⟨_, fr_int 1, fx60i (by decide)⟩
    · exact ⟨_, fr_int _, fx60i (by omega)⟩
  · rw [pow_int (by decide)]
    simp only [pure_bind', add_int, lstK_2, ofB_bind, bind_assoc']
    refine Gen.bind (choice (by decide) (by decide)) ?_
    rintro _ ⟨u, rfl, u0, u1⟩
    simp only [eq_int, ofB_pure, pure_bind', int_bool, bind_pure']
    obtain ⟨d, hd, e⟩ := ix_mem (xs := [.int 1, .int (10 ^ Int.toNat 12 + 7)]) (v := if decide (u = 0) then 1 else 0) (by split <;> decide) (by split <;> decide)
    simp only [e, pure_bind']
    obtain ⟨z, rfl, z0, z1⟩ : ∃ z : Int, d = .int z ∧ 0 ≤ z ∧ z < 2 ^ 41 := by
      simp only [List.mem_cons, List.not_mem_nil, or_false] at hd
      rcases hd with rfl | rfl
      · exact ⟨_, rfl, by decide, by decide⟩
      · exact ⟨_, rfl, by decide, by decide⟩
    rw [mul_int (mulOk_of (a := 10) (b := 50) (by omega) (by omega) (by omega))]
    simp only [pure_bind']
    refine Gen.bind (choice (by decide) (by decide)) ?_
    rintro _ ⟨v, rfl, v0, v1⟩
    have hm : ((t - 9) * z).natAbs < 2 ^ 50 := by
      rw [Int.natAbs_mul]
      have h1 : (t - 9).natAbs ≤ 9 := by omega
      have h2 : z.natAbs < 2 ^ 41 := by omega
      have := Nat.mul_le_mul h1 (Nat.le_of_lt h2)
      omega
    have hp : (2 : Nat) ^ 50 ≤ 2 ^ 9000 := Nat.pow_le_pow_right (by decide) (by decide)
    simp only [add_int, pure_bind']
    rw [low_eq _ _ (by omega) (by omega) (by omega)]
    simp only [sub_pure, pure_bind', fin_rt]
    exact Gen.pure ⟨_, rfl, fx60 (by omega) hm⟩
theorem fractionF : Gen (V.sub [0] L.law_fraction) IsF := fractionF_gen.sub
def eR (ms : List Rat) : PyData := .tuple (ms.map fr)
theorem frs_of {P : Rat → Prop} : ∀ {ys : List PyData}, (∀ y ∈ ys, ∃ q, y = fr q ∧ P q) → ∃ ts : List Rat, ys = ts.map fr ∧ ∀ t ∈ ts, P t
  | [], _ => ⟨[], rfl, fun t h => by cases h⟩
  | y :: r, h => by
    obtain ⟨t, rfl, p⟩ := h y List.mem_cons_self
    obtain ⟨ts, rfl, q⟩ := frs_of fun z hz => h z (List.mem_cons_of_mem _ hz)
    refine ⟨t :: ts, rfl, fun u hu => ?_⟩
    rcases List.mem_cons.mp hu with rfl | hu
    · exact p
    · exact q u hu
theorem row_gen {n : Nat} (hn : n ≤ 1000) : Gen1 (L.law_row (.int (n : Int))) fun d => ∃ ms : List Rat, d = eR ms ∧ ms.length = n ∧ ∀ q ∈ ms, Fr6 q := by
  unfold L.law_row
  refine Gen.frame0 ?_
  rw [range_nat hn]
  simp only [fin_bind, bind_assoc', pure_bind']
  refine Gen.bind (Gen.comp (P := IsF) (by simp; omega) fun x hx => fractionF) ?_
  rintro ys ⟨hl, hy⟩
  obtain ⟨ms, rfl, hm⟩ := frs_of hy
  rw [show tupleM (.list (ms.map fr)) = pure (eR ms) from rfl, pure_bind', fin_rt]
  exact Gen.pure ⟨ms, rfl, by simpa using hl, hm⟩
theorem row {n : Nat} (hn : n ≤ 1000) : Gen (V.sub [0] (L.law_row (.int (n : Int)))) fun d => ∃ ms : List Rat, d = eR ms ∧ ms.length = n ∧ ∀ q ∈ ms, Fr6 q := (row_gen hn).sub
theorem need_piece_true {P : Pl} {i : Nat} (hi : i < P.ps.length) : L.need_piece (ePl P) (.int (i : Int)) = pure .none := by
  unfold L.need_piece
  simp only [pl_1, len_ps, pure_bind', sub_int]
  rw [is_within_true (by omega) (by omega)]
  simp
end V
set_option exponentiation.threshold 20000
namespace V
open PySem PySem.Spec ZL L2
section
variable {P : Pl} {i : Nat}
end
end V
set_option exponentiation.threshold 20000
namespace V
open PySem PySem.Spec ZL L2
def uu (ms : List Rat) (i : Nat) : Rat := ms.getD (2 * i) 0
def vv (ms : List Rat) (i : Nat) : Rat := ms.getD (2 * i + 1) 0
abbrev R3 := Rat × Rat × Rat
def part (ms : List Rat) (t : R3) (i : Nat) (s : Rat × Rat) : R3 := (t.1 + s.1 * uu ms i, t.2.1 + s.2 * vv ms i, t.2.2 + (s.2 * uu ms i + s.1 * vv ms i))
structure Sz (E d n : Nat) : Prop where
  e0 : E ≠ 0
  d0 : d ≠ 0
  e : E < 2 ^ n
  d : d < 2 ^ 17
  n : n ≤ 4000
theorem Sz.bt {E d n k : Nat} (h : Sz E d n) {q : Rat} (hq : Fx (d * E) k q) (hk : k ≤ n + 17) : Bt (n + 17) q := hq.bt (Nat.mul_ne_zero h.d0 h.e0) (by rw [Nat.add_comm]; exact mul_lt_pow h.d h.e) hk
theorem Sz.b1 {E d n k : Nat} (h : Sz E d n) {q : Rat} (hq : Fx E k q) (hk : k ≤ n) : Bt n q := hq.bt h.e0 h.e hk
section
variable {P : Pl} {i : Nat} {ms : List Rat} {E n : Nat}
end
end V
set_option exponentiation.threshold 20000
namespace V
open PySem PySem.Spec ZL L2
section
variable {P : Pl} {i : Nat} {ms : List Rat} {E n : Nat}
end
end V
set_option exponentiation.threshold 20000
namespace V
open PySem PySem.Spec ZL L2
section
variable {P : Pl} {i : Nat} {ms : List Rat} {E n b : Nat} {s : R3}
structure Mo (P : Pl) (ms : List Rat) (E n : Nat) : Prop where
  ok : PlOk P
  l : ms.length = 2 * P.cs.length
  fx : ∀ q ∈ ms, Fx E n q
  e0 : E ≠ 0
  e : E < 2 ^ n
  n : n ≤ 400
theorem Mo.bt (h : Mo P ms E n) : ∀ q ∈ ms, Bt n q := fun q hq => (h.fx q hq).bt h.e0 h.e (by omega)
theorem tq_ints {ns : List Int} {l : Nat} (h : ∀ z ∈ ns, z.natAbs < 2 ^ b) (hl : ns.length ≤ l) : Tq b 1 (l * 1923 + 3) (.tuple (ns.map PyData.int)) := (tq_tuple (l := l) (xs := ns.map PyData.int) (fun x hx => by
    obtain ⟨q, hq, rfl⟩ := List.mem_map.mp hx
    exact tq_int (h q hq)) (by simpa using hl)).mono (Nat.le_refl _) (Nat.le_refl _) (by omega)
theorem tq_pl (h : PlOk P) : Tq 8 3 500000 (ePl P) := by
  have n30 := h.n30; have k20 := h.k20; have hl := h.l; have hm := h.m
  have c : Tq 8 2 115593 (eCs P.cs) := (tq_tuple (l := 30) (Z := 3849) (D := 1) (xs := P.cs.map ePt) (fun x hx => by
    obtain ⟨p, hp, rfl⟩ := List.mem_map.mp hx
    obtain ⟨⟨_, _⟩, _, _⟩ := h.inb p hp
    exact (tq_ints (l := 2) (ns := [p.1, p.2]) (fun z hz => by
      simp only [List.mem_cons, List.not_mem_nil, or_false] at hz
      rcases hz with rfl | rfl <;> omega) (by simp)).mono (Nat.le_refl _) (Nat.le_refl _) (by decide)) (by simpa using n30)).mono (Nat.le_refl _) (Nat.le_refl _) (by decide)
  have p : Tq 8 2 115593 (ePs P.ps) := (tq_tuple (l := 20) (Z := 5772) (D := 1) (xs := P.ps.map ePc) (fun x hx => by
    obtain ⟨p, hp, rfl⟩ := List.mem_map.mp hx
    have k := h.pc p hp
    have h1 := k.ab; have h2 := k.bc; have h3 := k.c
    exact (tq_ints (l := 3) (ns := [(p.1 : Int), (p.2.1 : Int), (p.2.2 : Int)]) (fun z hz => by
      simp only [List.mem_cons, List.not_mem_nil, or_false] at hz
      rcases hz with rfl | rfl | rfl <;> omega) (by simp)).mono (Nat.le_refl _) (Nat.le_refl _) (by decide)) (by simpa using k20)).mono (Nat.le_refl _) (Nat.le_refl _) (by decide)
  have t : Tq 8 2 115593 (eTh P.th) := (tq_ints (l := 20) (fun z hz => by have := h.th z hz; omega) (by rw [h.tl]; exact k20)).mono (Nat.le_refl _) (by decide) (by decide)
  have m : Tq 8 2 115593 (eLm P) := (tq_ints (l := 2) (ns := [P.l, P.m]) (fun z hz => by
      simp only [List.mem_cons, List.not_mem_nil, or_false] at hz
      rcases hz with rfl | rfl <;> omega) (by simp)).mono (Nat.le_refl _) (by decide) (by decide)
  exact (tq_tuple (l := 4) (xs := [eCs P.cs, ePs P.ps, eTh P.th, eLm P]) (fun x hx => by
    simp only [List.mem_cons, List.not_mem_nil, or_false] at hx
    rcases hx with rfl | rfl | rfl | rfl <;> assumption) (by simp)).mono (Nat.le_refl _) (Nat.le_refl _) (by decide)
end
end V
set_option exponentiation.threshold 20000
namespace V
open PySem PySem.Spec ZL L2
theorem said_raise {XS : List Str} {post : PyData → M PyData} {W : Str → M PyData} {n : Str} {d : PyData} {s2 : Cells} (hx : XS.contains n = true) (hw : W n [] = .ok d s2) : saidM XS post W (raise n) = pure d := by
  funext s
  show (bif true && XS.contains n then (match W n [] with | .ok d' _ => Res.ok d' s | _ => .bad) else .bad) = _
  rw [hx, hw]
  rfl
theorem kind_plate : L.law_kind "NoPlate" [] = .ok (.tuple [.str "plate"]) [] := by kernel_rfl
theorem kind_piece : L.law_kind "NoPiece" [] = .ok (.tuple [.str "piece"]) [] := by kernel_rfl
theorem kind_thick : L.law_kind "NoThick" [] = .ok (.tuple [.str "thick"]) [] := by kernel_rfl
theorem ne_plate : neM (.tuple [.str "plate"]) (.tuple [.str "plate"]) = pure false := by
  show ofO (neO _ _) = _
  rw [show neO (.tuple [.str "plate"]) (.tuple [.str "plate"]) = some false by decide +kernel]; rfl
theorem ne_piece : neM (.tuple [.str "piece"]) (.tuple [.str "piece"]) = pure false := by
  show ofO (neO _ _) = _
  rw [show neO (.tuple [.str "piece"]) (.tuple [.str "piece"]) = some false by decide +kernel]; rfl
theorem ne_thick : neM (.tuple [.str "thick"]) (.tuple [.str "thick"]) = pure false := by
  show ofO (neO _ _) = _
  rw [show neO (.tuple [.str "thick"]) (.tuple [.str "thick"]) = some false by decide +kernel]; rfl
theorem nw_within {d a b : PyData} (h : isW d = false) : L.is_within d a b = pure (.bool false) := by
  unfold L.is_within
  rw [is_whole_eq, h, sub_pure, andV_bool]
  simp
theorem within_false {i a b : Int} (h : i < a ∨ b < i) : L.is_within (.int i) (.int a) (.int b) = pure (.bool false) := by
  rw [is_within_eq]
  rcases h with h | h
  · rw [decide_eq_false (show ¬ a ≤ i by omega)]; rfl
  · rw [decide_eq_false (show ¬ i ≤ b by omega), Bool.and_false]
theorem need_plate_no {d : PyData} (h : L.is_plate d = pure (.bool false)) : L.need_plate d = raise "NoPlate" := by
  unfold L.need_plate
  rw [h, sub_pure, pure_bind', toB_bool, tNot_pure, pure_bind', Bool.not_false, cond_true, fin_raise, frame_raise]
theorem need_piece_no {P : Pl} {d : PyData} (h : L.is_within d (.int 0) (.int ((P.ps.length : Int) - 1)) = pure (.bool false)) : L.need_piece (ePl P) d = raise "NoPiece" := by
  unfold L.need_piece
  rw [pl_1, pure_bind', len_ps, pure_bind', sub_int, pure_bind', h, sub_pure, pure_bind', toB_bool, tNot_pure, pure_bind', Bool.not_false, cond_true, fin_raise, frame_raise]
theorem need_thick_no {d : PyData} (h : L.is_within d (.int 1) (.int 9) = pure (.bool false)) : L.need_thick d = raise "NoThick" := by
  unfold L.need_thick
  rw [h, sub_pure, pure_bind', toB_bool, tNot_pure, pure_bind', Bool.not_false, cond_true, fin_raise, frame_raise]
theorem need_thick_ok {d : PyData} (h : L.is_within d (.int 1) (.int 9) = pure (.bool true)) : L.need_thick d = pure .none := by
  unfold L.need_thick
  rw [h, sub_pure, pure_bind', toB_bool, tNot_pure, pure_bind', Bool.not_true, cond_false]
  simp
theorem no_tuple {d : PyData} (h : isO .tuple d = .bool false) : L.is_plate d = pure (.bool false) := by
  unfold L.is_plate
  simp only [h, pure_bind', toB_bool, tNot_pure, Bool.not_false, tOr_pure, cond_true, fin_rt, frame_pure]
theorem no_four {xs : List PyData} (h : xs.length ≠ 4) : L.is_plate (.tuple xs) = pure (.bool false) := by
  unfold L.is_plate
  simp only [isO_tuple, pure_bind', toB_bool, tNot_pure, Bool.not_true, tOr_pure, cond_false, len_tuple, ne_int]
  rw [decide_eq_false (by omega)]
  simp
theorem four_eq (c p t s : PyData) : L.is_plate (.tuple [c, p, t, s]) = V.frame 0 (fin ((tOr (tNot ((sub [] (L.are_corners c)) >>= toB)) (tNot ((sub [] (L.are_pieces2 c p)) >>= toB))) >>= fun b6 => bif b6 then ((pure (.bool false)) >>= fun x7 => pure (.rt x7)) else ((tOr (tNot (((lenM p) >>= fun x8 => (sub [] (L.are_thicks x8 t))) >>= toB)) (tNot ((sub [] (L.is_stuff s)) >>= toB))) >>= fun b9 => bif b9 then ((pure (.bool false)) >>= fun x10 => pure (.rt x10)) else ((((pure p) >>= rowM) >>= fun xs13 => (comps pN yep (fun t12 => ((pure t12) >>= rowM) >>= fun xs15 => (comps pN yep (fun t14 => one1 (pure t14)) xs15)) xs13) >>= fun es16 => setSortM es16) >>= fun v11 => ((andV (ofB (((lenM c) >>= fun x17 => (rgL (.int 0) x17)) >>= fun x18 => (eqM v11 x18))) (sub [] (L.are_apart c p))) >>= fun x19 => pure (.rt x19)))))) := rfl
section
variable {c p t s : PyData}
theorem no_corners (h : L.are_corners c = pure (.bool false)) : L.is_plate (.tuple [c, p, t, s]) = pure (.bool false)   := (four_eq _ _ _ _).trans (by
  rw [h]; simp)
theorem no_pieces (h1 : L.are_corners c = pure (.bool true)) (h : L.are_pieces2 c p = pure (.bool false)) : L.is_plate (.tuple [c, p, t, s]) = pure (.bool false)   := (four_eq _ _ _ _).trans (by
  rw [h, h1]; simp)
theorem no_thicks {n : PyData} (h1 : L.are_corners c = pure (.bool true)) (h2 : L.are_pieces2 c p = pure (.bool true)) (hn : lenM p = pure n) (h : L.are_thicks n t = pure (.bool false)) : L.is_plate (.tuple [c, p, t, s]) = pure (.bool false)   := (four_eq _ _ _ _).trans (by
  rw [h2, h1, hn]; simp only [pure_bind', h]; simp)
theorem no_stuff {n : PyData} (h1 : L.are_corners c = pure (.bool true)) (h2 : L.are_pieces2 c p = pure (.bool true)) (hn : lenM p = pure n) (h3 : L.are_thicks n t = pure (.bool true)) (h : L.is_stuff s = pure (.bool false)) : L.is_plate (.tuple [c, p, t, s]) = pure (.bool false)   := (four_eq _ _ _ _).trans (by
  rw [h2, h1, hn]; simp only [pure_bind', h3, h]; simp)
end
theorem stuff_no {a b : Int} (h : (a < 0 ∨ 9 < a) ∨ b < 1 ∨ 9 < b) : L.is_stuff (.tuple [.int a, .int b]) = pure (.bool false) := by
  unfold L.is_stuff
  rw [show ixM (.tuple [.int a, .int b]) (.int 0) = pure (.int a) from ix_tuple (by decide) rfl, show ixM (.tuple [.int a, .int b]) (.int 1) = pure (.int b) from ix_tuple (by decide) rfl]
  simp only [isO_tuple, toB_bool, pure_bind', tNot_pure, Bool.not_true, tOr_pure, cond_false, len_tuple, List.length_cons, List.length_nil, ne_int]
  rcases h with h | h
  · rw [within_false h]
    simp
  · rw [within_false h, is_within_eq]
    cases decide (0 ≤ a) && decide (a ≤ 9) <;> simp
theorem thicks_len {n : Int} {xs : List PyData} (h : (xs.length : Int) ≠ n) : L.are_thicks (.int n) (.tuple xs) = pure (.bool false) := by
  unfold L.are_thicks
  simp only [isO_tuple, toB_bool, pure_bind', tNot_pure, Bool.not_true, tOr_pure, cond_false, len_tuple, ne_int]
  rw [decide_eq_false h]
  simp
theorem thicks_ten {n : Nat} (h : 1 ≤ n) (hn : n ≤ 1000) : L.are_thicks (.int (n : Int)) (.tuple (List.replicate n (.int 10))) = pure (.bool false) := by
  have e1 : comp pN yep (fun t4 => sub [] (L.is_within t4 (.int 1) (.int 9))) ((List.replicate n (10 : Int)).map PyData.int) = pure ((List.replicate n (10 : Int)).map fun _ => .bool false) := comp_of (by simp; omega) fun t ht => by
    rw [(List.mem_replicate.mp ht).2, within_false (.inr (by decide))]; rfl
  rw [List.map_replicate, List.map_replicate] at e1
  unfold L.are_thicks
  simp only [isO_tuple, toB_bool, pure_bind', tNot_pure, Bool.not_true, tOr_pure, cond_false, len_tuple, List.length_replicate, ne_int, rowM_tuple, e1]
  have e2 : allM (.list (List.replicate n (.bool false))) = pure (.bool false) := by
    rw [show List.replicate n (PyData.bool false) = (List.replicate n false).map PyData.bool by rw [List.map_replicate], all_bools]
    congr 2
    obtain ⟨m, rfl⟩ : ∃ m, n = m + 1 := ⟨n - 1, by omega⟩
    rfl
  simp [e2]
theorem pieces_none (c : PyData) : L.are_pieces2 c (.tuple []) = pure (.bool false) := by
  unfold L.are_pieces2
  simp only [isO_tuple, toB_bool, pure_bind', tNot_pure, Bool.not_true, tOr_pure, cond_false, len_tuple, List.length_nil, le_int]
  simp
theorem corners_list (xs : List PyData) : L.are_corners (.list xs) = pure (.bool false) := by
  unfold L.are_corners
  simp only [show isO .tuple (.list xs) = .bool false from rfl, toB_bool, pure_bind', tNot_pure, Bool.not_false, tOr_pure, cond_true, fin_rt, frame_pure]
theorem ltPc_trans {p q r : Pc} (h1 : ltPc p q = true) (h2 : ltPc q r = true) : ltPc p r = true := by
  unfold ltPc at *
  simp only [Bool.or_eq_true, Bool.and_eq_true, decide_eq_true_eq] at *
  omega
theorem ltPc_irrefl (p : Pc) : ltPc p p = false := by
  unfold ltPc
  simp
theorem lt2_pcB (p q : Pc) : ltM2 (ePc p) (ePc q) = pure (ltPc p q) := by
  show ofO (some (HT.lexLt [(p.1 : Int), (p.2.1 : Int), (p.2.2 : Int)] [(q.1 : Int), (q.2.1 : Int), (q.2.2 : Int)])) = _
  have : HT.lexLt [(p.1 : Int), (p.2.1 : Int), (p.2.2 : Int)] [(q.1 : Int), (q.2.1 : Int), (q.2.2 : Int)] = ltPc p q := by
    simp only [HT.lexLt_cons, HT.lexLt_nil_nil]
    rw [Bool.eq_iff_iff]
    unfold ltPc
    simp only [Bool.or_eq_true, Bool.and_eq_true, decide_eq_true_eq]
    split
    · split
      · split
        · simp; omega
        · simp; omega
      · simp; omega
    · simp; omega
  rw [this]; rfl
theorem rises_false (xs : List Pc) (hl : xs.length ≤ 1000) {i : Nat} (h : i + 1 < xs.length) (hb : ltPc (xs[i]'(by omega)) xs[i + 1] = false) : L.rises2 (ePs xs) = pure (.bool false) := by
  unfold L.rises2 ePs
  rw [slL_tuple (by decide), pure_bind', show (1 : Int).toNat = 1 from rfl, zip_next, pure_bind']
  rw [comp_map (fun x => match x with | .tuple [a, b] => (match a, b with | .tuple [.int a0, .int a1, .int a2], .tuple [.int b0, .int b1, .int b2] => PyData.bool (HT.lexLt [a0, a1, a2] [b0, b1, b2]) | _, _ => .none) | _ => .none) (by simp; omega) (fun x hx => ?_)]
  · simp only [pure_bind', List.map_map]
    rw [show ∀ l : List (Pc × Pc), (l.map ((fun x => match x with | PyData.tuple [a, b] => (match a, b with | .tuple [.int a0, .int a1, .int a2], .tuple [.int b0, .int b1, .int b2] => PyData.bool (HT.lexLt [a0, a1, a2] [b0, b1, b2]) | _, _ => .none) | _ => .none) ∘ fun p => PyData.tuple [ePc p.1, ePc p.2])) = (l.map fun p => HT.lexLt [(p.1.1 : Int), (p.1.2.1 : Int), (p.1.2.2 : Int)] [(p.2.1 : Int), (p.2.2.1 : Int), (p.2.2.2 : Int)]).map PyData.bool from fun l => by rw [List.map_map]; rfl, all_bools]
    rw [show (((List.range (xs.length - 1)).pmap (fun i (h : i + 1 < xs.length) => (xs[i]'(by omega), xs[i + 1])) (fun i hi => by have := List.mem_range.mp hi; omega)).map fun p => HT.lexLt [(p.1.1 : Int), (p.1.2.1 : Int), (p.1.2.2 : Int)] [(p.2.1 : Int), (p.2.2.1 : Int), (p.2.2.2 : Int)]).all (fun b => b) = false from by
      rw [List.all_eq_false]
      refine ⟨_, List.mem_map.mpr ⟨_, List.mem_pmap.mpr ⟨i, List.mem_range.mpr (by omega), rfl⟩, rfl⟩, ?_⟩
      have e := lt2_pcB (xs[i]'(by omega)) xs[i + 1]
      have e3 := congrFun e []
      rw [hb] at e3
      have e4 : Res.ok (HT.lexLt [((xs[i]'(by omega)).1 : Int), ((xs[i]'(by omega)).2.1 : Int), ((xs[i]'(by omega)).2.2 : Int)] [(xs[i + 1].1 : Int), (xs[i + 1].2.1 : Int), (xs[i + 1].2.2 : Int)]) ([] : Cells) = Res.ok false [] := e3
      have e5 := (Res.ok.inj e4).1
      rw [e5]; decide]
    simp
  · obtain ⟨p, hp, rfl⟩ := List.mem_map.mp hx
    refine ⟨_, rfl, ?_⟩
    rfl
theorem lt_all {ps : List Pc} (h : ∀ i (h : i + 1 < ps.length), ltPc ps[i] ps[i + 1] = true) : ∀ (j i : Nat) (hj : j < ps.length) (hij : i < j), ltPc (ps[i]'(by omega)) ps[j] = true := by
  intro j
  induction j with
  | zero => intro i hj hij; omega
  | succ j ih =>
    intro i hj hij
    rcases Nat.lt_or_ge i j with q | q
    · exact ltPc_trans (ih i (by omega) q) (h j hj)
    · have e : i = j := by omega
      subst e
      exact h i hj
theorem pieces_twice {P : Pl} (h : PlOk P) : L.are_pieces2 (eCs P.cs) (ePs (P.ps ++ P.ps)) = pure (.bool false) := by
  have h1 := h.k1; have h2 := h.k20
  have e1 : comp pN yep (fun t6 => sub [] (L.is_piece2 (eCs P.cs) t6)) ((P.ps ++ P.ps).map ePc) = pure ((P.ps ++ P.ps).map fun _ => .bool true) := comp_of (by simp; omega) fun p hp => by
    rw [is_piece_true h.inb (h.pc p (by rcases List.mem_append.mp hp with q | q <;> exact q))]; rfl
  have e2 : L.rises2 (ePs (P.ps ++ P.ps)) = pure (.bool false) := by
    refine rises_false (P.ps ++ P.ps) (by simp; omega) (i := P.ps.length - 1) (by simp; omega) ?_
    rw [List.getElem_append_left (by omega), List.getElem_append_right (by omega)]
    simp only [show P.ps.length - 1 + 1 - P.ps.length = 0 by omega]
    rw [Bool.eq_false_iff]
    intro q
    rcases Nat.eq_or_lt_of_le h1 with e | e
    · have : P.ps.length - 1 = 0 := by omega
      simp only [this] at q
      rw [ltPc_irrefl] at q
      cases q
    · have := ltPc_trans (lt_all h.ri (P.ps.length - 1) 0 (by omega) (by omega)) q
      rw [ltPc_irrefl] at this
      cases this
  unfold L.are_pieces2
  rw [e2]
  unfold ePs
  simp only [isO_tuple, toB_bool, pure_bind', tNot_pure, Bool.not_true, tOr_pure, cond_false, len_tuple, List.length_map, List.length_append, le_int, rowM_tuple, e1, all_true, andV_bool, cond_true, sub_pure]
  rw [decide_eq_true (show (1 : Int) ≤ ((P.ps.length + P.ps.length : Nat) : Int) by omega), cond_true, decide_eq_true (show ((P.ps.length + P.ps.length : Nat) : Int) ≤ 40 by omega)]
  simp
theorem setLen_of {cs : List Pt} (h1 : 1 ≤ cs.length) (h2 : cs.length ≤ 40) : setLenM (cs.map ePt) = pure (.int ((dd (cs.map fun p => [p.1, p.2])).length : Int)) := by
  have e2 : cs.map ePt = (cs.map fun p => [p.1, p.2]).map tupI := by rw [List.map_map]; rfl
  have hl := dd_len (cs.map fun p => [p.1, p.2])
  rw [List.length_map] at hl
  have e3 : setLenD (cs.map ePt) = some (dd (cs.map fun p => [p.1, p.2])).length := by
    unfold setLenD
    have ei : intsD (cs.map ePt) = none := by
      match hc : cs with
      | [] => rw [hc] at h1; simp at h1
      | c :: r => rfl
    rw [ei, e2, tupsD_of]
    simp only
    rw [if_pos (by omega)]
  show ofO (Option.map _ _) = _
  rw [e3]; rfl
theorem corners_eq {cs : List Pt} (h1 : 3 ≤ cs.length) (h2 : cs.length ≤ 30) (hb : ∀ p ∈ cs, inb p) : L.are_corners (eCs cs) = pure (.bool (decide ((dd (cs.map fun p => [p.1, p.2])).length = cs.length))) := by
  have e1 : comp pN yep (fun t10 => sub [] (L.is_corner t10)) (cs.map ePt) = pure (cs.map fun _ => .bool true) := comp_of (by omega) fun p hp => by rw [is_corner_true (hb p hp)]; rfl
  unfold L.are_corners eCs
  simp only [isO_tuple, toB_bool, pure_bind', tNot_pure, Bool.not_true, tOr_pure, cond_false, len_tuple, List.length_map, le_int, rowM_tuple, e1, all_true, andV_bool, cond_true]
  rw [decide_eq_true (show (3 : Int) ≤ cs.length by omega), cond_true, decide_eq_true (show (cs.length : Int) ≤ 30 by omega)]
  simp only [pure_bind', tNot_pure, Bool.not_true, cond_false]
  rw [show setOfM (cs.map ePt) = pure (cs.map ePt) from by show ofO (if _ then _ else _) = _; rw [if_pos (by rw [List.length_map]; omega)]; rfl]
  rw [pure_bind', setLen_of (by omega) (by omega)]
  have e4 : decide (((dd (cs.map fun p => [p.1, p.2])).length : Int) = (cs.length : Int)) = decide ((dd (cs.map fun p => [p.1, p.2])).length = cs.length) := by
    rw [Bool.eq_iff_iff]; simp; omega
  simp only [pure_bind', eq_int, e4, ofB_pure, fin_rt, frame_pure]
theorem xy_more {cs : List Pt} {q : Pt} {i : Nat} (h : i < cs.length) : xy (cs ++ [q]) i = xy cs i := by
  unfold xy
  rw [List.getD_eq_getElem?_getD, List.getD_eq_getElem?_getD, List.getElem?_append_left h]
theorem corner_more {P : Pl} (h : PlOk P) (n6 : P.cs.length ≤ 6) : L.is_plate (.tuple [eCs (P.cs ++ [(99, 99)]), ePs P.ps, eTh P.th, eLm P]) = pure (.bool false) := by
  have h3 := h.n3
  have hb : ∀ p ∈ P.cs ++ [(99, 99)], inb p := fun p hp => by
    rcases List.mem_append.mp hp with q | q
    · exact h.inb p q
    · rw [List.mem_singleton.mp q]
      exact ⟨⟨by decide, by decide⟩, by decide, by decide⟩
  have ec := corners_eq (cs := P.cs ++ [(99, 99)]) (by simp; omega) (by simp; omega) hb
  cases hd : decide ((dd ((P.cs ++ [(99, 99)]).map fun p : Pt => [p.1, p.2])).length = (P.cs ++ [(99, 99)]).length) with
  | false => rw [hd] at ec; exact no_corners ec
  | true =>
    rw [hd] at ec
    have pc : ∀ p ∈ P.ps, PcOk (P.cs ++ [(99, 99)]) p := fun p hp => by
      have k := h.pc p hp
      have ab := k.ab; have bc := k.bc; have c := k.c
      refine ⟨ab, bc, by simp; omega, ?_⟩
      rw [xy_more (by omega), xy_more (by omega), xy_more (by omega)]
      exact k.t
    have h1 := h.k1; have h2 := h.k20
    have e1 : comp pN yep (fun t6 => sub [] (L.is_piece2 (eCs (P.cs ++ [(99, 99)])) t6)) (P.ps.map ePc) = pure (P.ps.map fun _ => .bool true) := comp_of (by omega) fun p hp => by rw [is_piece_true hb (pc p hp)]; rfl
    have e2 : L.rises2 (ePs P.ps) = pure (.bool true) := rises_true ePc P.ps (by omega) fun i hi => lt2_pc (h.ri i hi)
    have ep : L.are_pieces2 (eCs (P.cs ++ [(99, 99)])) (ePs P.ps) = pure (.bool true) := by
      unfold L.are_pieces2
      rw [e2]
      unfold ePs
      simp only [isO_tuple, toB_bool, pure_bind', tNot_pure, Bool.not_true, tOr_pure, cond_false, len_tuple, List.length_map, le_int, rowM_tuple, e1, all_true, andV_bool, cond_true, sub_pure]
      rw [decide_eq_true (show (1 : Int) ≤ P.ps.length by omega), cond_true, decide_eq_true (show (P.ps.length : Int) ≤ 40 by omega)]
      simp
    refine (four_eq _ _ _ _).trans ?_
    have u := used_eq h
    simp only [pure_bind'] at u
    rw [ec, ep]
    simp only [len_ps, pure_bind', are_thicks_true h, is_stuff_true h, sub_pure, toB_bool, tNot_pure, Bool.not_true, tOr_pure, cond_false, one1_pure]
    try simp only [one1_pure] at u
    have el : (P.cs ++ [((99 : Int), (99 : Int))]).length = P.cs.length + 1 := by simp
    rw [u, pure_bind', len_cs, pure_bind', el, range_list (n := P.cs.length + 1) (by omega), pure_bind']
    rw [show ((List.range P.cs.length).map fun (i : Nat) => PyData.int (i : Int)) = ((List.range P.cs.length).map fun (i : Nat) => (i : Int)).map PyData.int from by rw [List.map_map]; rfl, show ((List.range (P.cs.length + 1)).map fun (i : Nat) => PyData.int (i : Int)) = ((List.range (P.cs.length + 1)).map fun (i : Nat) => (i : Int)).map PyData.int from by rw [List.map_map]; rfl, eqL_ints]
    rw [decide_eq_false (fun e => by
      have := congrArg List.length e
      simp at this)]
    simp
end V
set_option exponentiation.threshold 20000
namespace V
open PySem PySem.Spec ZL L2
def oddL : List PyData := [PyData.none, PyData.bool true, PyData.bool false, PyData.int 0, PyData.int 1, PyData.int (-1), PyData.int (10 ^ Int.toNat 29), PyData.str "", PyData.str "a", PyData.tuple [], PyData.list [], PyData.dict [], PyData.tuple [PyData.int 0, PyData.int 1], PyData.tuple [PyData.int 1, PyData.int 1], PyData.list [PyData.int 0, PyData.int 1]] ++ [PyData.tuple [PyData.tuple [PyData.int 0, PyData.int 1]], PyData.tuple [PyData.int 2, PyData.int 4], PyData.tuple [PyData.int 1, PyData.int 0], PyData.tuple [PyData.int 0, PyData.int 2], PyData.tuple [PyData.bool true, PyData.int 1]]
theorem odd_in : Gen1 L.law_odd fun d => d ∈ oddL := by
  unfold L.law_odd
  refine Gen.frame0 ?_
  simp only [fin_bind, bind_assoc', pure_bind', neg_int]
  rw [pow_int (by decide)]
  simp only [pure_bind', tupK_nil, lstK_0, tupK_1, tupK_2, lstK_2, lstK_15, lstK_5]
  rw [add_list (by simp), pure_bind']
  refine Gen.bind (choice (by decide) (by decide)) ?_
  rintro _ ⟨w, rfl, w0, w1⟩
  obtain ⟨d, hd, e⟩ := ix_mem (xs := oddL) w0 (by simpa [oddL] using w1)
  unfold oddL at e
  rw [e, pure_bind', fin_rt]
  exact Gen.pure hd
theorem odd_plate {d : PyData} (h : d ∈ oddL) : L.is_plate d = pure (.bool false) := by
  simp only [oddL, List.cons_append, List.nil_append, List.mem_cons, List.not_mem_nil, or_false] at h
  rcases h with rfl | rfl | rfl | rfl | rfl | rfl | rfl | rfl | rfl | rfl | rfl | rfl | rfl | rfl | rfl | rfl | rfl | rfl | rfl | rfl
  all_goals first
    | exact no_tuple rfl
    | exact no_four (by simp)
theorem catN_of {a b : List PyData} (h : a.length + b.length ≤ 1000) : catN (.list a) (.list b) = pure (a ++ b) := by
  show ofO (if a.length + b.length ≤ line then some (a ++ b) else none) = _
  rw [if_pos (show a.length + b.length ≤ line from by unfold line; omega)]; rfl
theorem catL_of {a b : List PyData} (h : a.length + b.length ≤ 1000) : catL (.list a) (.list b) = pure (.list (a ++ b)) := by
  show ofO ((if a.length + b.length ≤ line then some (a ++ b) else none).map PyData.list) = _
  rw [if_pos (show a.length + b.length ≤ line from by unfold line; omega)]; rfl
theorem repTM_of {xs : List PyData} {k : Nat} (h1 : 1 ≤ xs.length) (h2 : xs.length ≤ 1000) (k1 : 1 ≤ k) (k2 : k ≤ 1000) : repTM (.tuple xs) (.int (k : Int)) = pure (.tuple (repD k xs)) := by
  show ofO (if repT (k : Int) xs.length then some (PyData.tuple (repD (k : Int).toNat xs)) else none) = _
  rw [if_pos (show repT (k : Int) xs.length = true by unfold repT; simp; omega)]
  simp
section
variable {P : Pl}
def badL (P : Pl) (d : PyData) : List PyData :=
  ((([PyData.none, .tuple [], .list [eCs P.cs, ePs P.ps, eTh P.th, eLm P], .tuple [eCs P.cs, ePs P.ps, eTh P.th], .tuple [eCs P.cs, ePs P.ps, eTh P.th, eLm P, .int 1], .tuple [.list (P.cs.map ePt), ePs P.ps, eTh P.th, eLm P], d] ++ [.tuple [eCs P.cs, ePs P.ps, eTh P.th, .tuple [.int 10, .int 1]], .tuple [eCs P.cs, ePs P.ps, eTh P.th, .tuple [.int 1, .int 0]]])
    ++ [.tuple [eCs P.cs, .tuple [], .tuple [], eLm P]]) ++ [.tuple [eCs P.cs, ePs P.ps, .tuple ((P.th.map PyData.int).drop 1), eLm P], .tuple [eCs P.cs, ePs P.ps, .tuple (repD P.ps.length [.int 10]), eLm P]])
    ++ [.tuple [.tuple (P.cs.map ePt ++ [.tuple [.int 99, .int 99]]), ePs P.ps, eTh P.th, eLm P], .tuple [eCs P.cs, .tuple (repD 2 (P.ps.map ePc)), .tuple (repD 2 (P.th.map PyData.int)), eLm P]]
theorem bad_plates_eq (h : PlOk P) (d : PyData) : sub [] (L.law_bad_plates (ePl P) d) = pure (.list (badL P d)) := by
  have h3 := h.n3; have n30 := h.n30; have k1 := h.k1; have k20 := h.k20; have tl := h.tl
  refine sub_run ?_
  unfold L.law_bad_plates
  refine frame_0 (s' := [cS ((([PyData.none, .tuple [], .list [eCs P.cs, ePs P.ps, eTh P.th, eLm P], .tuple [eCs P.cs, ePs P.ps, eTh P.th], .tuple [eCs P.cs, ePs P.ps, eTh P.th, eLm P, .int 1], .tuple [.list (P.cs.map ePt), ePs P.ps, eTh P.th, eLm P], d] ++ [.tuple [eCs P.cs, ePs P.ps, eTh P.th, .tuple [.int 10, .int 1]], .tuple [eCs P.cs, ePs P.ps, eTh P.th, .tuple [.int 1, .int 0]]])
    ++ [.tuple [eCs P.cs, .tuple [], .tuple [], eLm P]]) ++ [.tuple [eCs P.cs, ePs P.ps, .tuple ((P.th.map PyData.int).drop 1), eLm P], .tuple [eCs P.cs, ePs P.ps, .tuple (repD P.ps.length [.int 10]), eLm P]])]) ?_
  have e4 : pQ4 pN pN pN pN (ePl P) = some (eCs P.cs, ePs P.ps, eTh P.th, eLm P) := rfl
  have a1 : listM (ePl P) = pure (.list [eCs P.cs, ePs P.ps, eTh P.th, eLm P]) := rfl
  have a2 : slH (ePl P) (.int 3) = pure (.tuple [eCs P.cs, ePs P.ps, eTh P.th]) := (slH_tuple (by decide)).trans rfl
  have a3 : addM (ePl P) (.tuple [.int 1]) = pure (.tuple [eCs P.cs, ePs P.ps, eTh P.th, eLm P, .int 1]) := (add_tuple (by simp)).trans rfl
  have a4 : listM (eCs P.cs) = pure (.list (P.cs.map ePt)) := rfl
  have a5 : slL (eTh P.th) (.int 1) = pure (.tuple ((P.th.map PyData.int).drop 1)) := (slL_tuple (by decide)).trans rfl
  have a6 : repTM (.tuple [.int 10]) (.int (P.ps.length : Int)) = pure (.tuple (repD P.ps.length [.int 10])) := repTM_of (by simp) (by simp) k1 (by omega)
  have a7 : addM (eCs P.cs) (.tuple [.tuple [.int 99, .int 99]]) = pure (.tuple (P.cs.map ePt ++ [.tuple [.int 99, .int 99]])) := add_tuple (by simp; omega)
  have a8 : repTM (ePs P.ps) (.int 2) = pure (.tuple (repD 2 (P.ps.map ePc))) := repTM_of (k := 2) (by simpa using k1) (by simp; omega) (by decide) (by decide)
  have a9 : repTM (eTh P.th) (.int 2) = pure (.tuple (repD 2 (P.th.map PyData.int))) := repTM_of (k := 2) (by simp; omega) (by simp; omega) (by decide) (by decide)
  simp only [pure_bind', bind_assoc', fin_bind, e4, ofO_some, a1, a2, a3, a4, a5, a6, a7, a8, a9, tupK_nil, tupK_1, tupK_2, tupK_3, tupK_4, lstN_7, lstK_2, len_ps]
  show (setC 0 _ >>= _) [none] = _
  refine bindR (setC_0 _ _ _) (bindR (getC_0 _ _) (bindR (run_pure (catN_of (by simp))) (bindR (setC_0 _ _ _) (bindR (getC_0 _ _) (bindR (appC_0 (by simp)) (bindR (getC_0 _ _) (bindR (run_pure (catN_of (by simp))) (bindR (setC_0 _ _ _) (bindR (getC_0 _ _) (bindR (run_pure (catL_of (by simp))) ?_))))))))))
  rfl
theorem bad_plate (h : PlOk P) (n6 : P.cs.length ≤ 6) {o d : PyData} (ho : o ∈ oddL) (hd : d ∈ badL P o) : L.is_plate d = pure (.bool false) := by
  have h3 := h.n3; have n30 := h.n30; have k1 := h.k1; have k20 := h.k20; have tl := h.tl
  have ac := are_corners_true h
  have ap := are_pieces_true h
  simp only [badL, List.cons_append, List.nil_append, List.mem_cons, List.not_mem_nil, or_false] at hd
  rcases hd with rfl | rfl | rfl | rfl | rfl | rfl | rfl | rfl | rfl | rfl | rfl | rfl | rfl | rfl
  · exact no_tuple rfl
  · exact no_four (by simp)
  · exact no_tuple rfl
  · exact no_four (by simp)
  · exact no_four (by simp)
  · exact no_corners (corners_list _)
  · exact odd_plate ho
  · exact no_stuff ac ap (len_ps _) (are_thicks_true h) (stuff_no (by decide))
  · exact no_stuff ac ap (len_ps _) (are_thicks_true h) (stuff_no (by decide))
  · exact no_pieces ac (pieces_none _)
  · exact no_thicks ac ap (len_ps _) (thicks_len (by simp; omega))
  · rw [show repD P.ps.length [PyData.int 10] = List.replicate P.ps.length (.int 10) from by
      unfold repD
      induction P.ps.length with
      | zero => rfl
      | succ m ih => rw [List.replicate_succ, List.flatten_cons, ih]; rfl]
    exact no_thicks ac ap (len_ps _) (thicks_ten k1 (by omega))
  · have := corner_more h n6
    unfold eCs at this
    rw [List.map_append] at this
    exact this
  · rw [show PyData.tuple (repD 2 (P.ps.map ePc)) = ePs (P.ps ++ P.ps) from by unfold repD ePs; simp]
    exact no_pieces ac (pieces_twice h)
def thk (P : Pl) (i : Nat) (t : Int) : Pl := { P with th := P.th.take i ++ [t] ++ P.th.drop (i + 1) }
theorem thk_ok (h : PlOk P) {i : Nat} (hi : i < P.ps.length) {t : Int} (ht : 1 ≤ t ∧ t ≤ 9) : PlOk (thk P i t) :=
  { h with
    tl := by
      have := h.tl
      show (P.th.take i ++ [t] ++ P.th.drop (i + 1)).length = P.ps.length
      simp; omega
    th := fun x hx => by
      have hx : x ∈ P.th.take i ++ [t] ++ P.th.drop (i + 1) := hx
      simp only [List.mem_append, List.mem_singleton] at hx
      rcases hx with (q | q) | q
      · exact h.th x (List.mem_of_mem_take q)
      · rw [q]; exact ht
      · exact h.th x (List.mem_of_mem_drop q) }
theorem thicks_run (h : PlOk P) {i : Nat} (hi : i < P.ps.length) {t : Int} {α : Type} {k : PyData → M α} : (slH (eTh P.th) (.int (i : Int)) >>= fun x3 => tupK [.d (.int t)] >>= fun x4 => addM x3 x4 >>= fun x5 => addM (.int (i : Int)) (.int 1) >>= fun x6 => slL (eTh P.th) x6 >>= fun x7 => addM x5 x7 >>= k) = k (eTh (thk P i t).th) := by
  have tl := h.tl; have k20 := h.k20
  unfold eTh
  rw [slH_tuple (by omega), pure_bind', tupK_1, pure_bind', add_tuple (by simp; omega), pure_bind', add_int, pure_bind', slL_tuple (by omega), pure_bind', add_tuple (by simp; omega), pure_bind']
  have e1 : ((i : Int)).toNat = i := by omega
  have e2 : ((i : Int) + 1).toNat = i + 1 := by omega
  rw [e1, e2]
  simp [thk]
theorem thickened_ok (h : PlOk P) {i : Nat} (hi : i < P.ps.length) {t : Int} (ht : 1 ≤ t ∧ t ≤ 9) : sub [] (L.thickened (ePl P) (.int (i : Int)) (.int t)) = pure (ePl (thk P i t)) := by
  unfold L.thickened
  rw [need_plate_true h, sub_pure, pure_bind', need_piece_true hi, sub_pure, pure_bind', need_thick_ok (is_within_true ht.1 ht.2), sub_pure, pure_bind']
  have e : L.thickened_by (ePl P) (.int (i : Int)) (.int t) = pure (ePl (thk P i t)) := by
    unfold L.thickened_by
    have e4 : pQ4 pN pN pN pN (ePl P) = some (eCs P.cs, ePs P.ps, eTh P.th, eLm P) := rfl
    simp only [pure_bind', e4, ofO_some, bind_assoc']
    rw [thicks_run h hi]
    simp only [tupK_4, pure_bind', fin_rt, frame_pure]
    rfl
  rw [e]
  simp
theorem thickened_plate {d x t : PyData} (h : L.is_plate d = pure (.bool false)) : L.thickened d x t = raise "NoPlate" := by
  unfold L.thickened
  rw [need_plate_no h, sub_raise, raise_bind, fin_raise, frame_raise]
theorem thickened_piece (h : PlOk P) {x t : PyData} (hx : L.is_within x (.int 0) (.int ((P.ps.length : Int) - 1)) = pure (.bool false)) : L.thickened (ePl P) x t = raise "NoPiece" := by
  unfold L.thickened
  rw [need_plate_true h, sub_pure, pure_bind', need_piece_no hx, sub_raise, raise_bind, fin_raise, frame_raise]
theorem thickened_thick (h : PlOk P) {i : Nat} (hi : i < P.ps.length) {t : PyData} (ht : L.is_within t (.int 1) (.int 9) = pure (.bool false)) : L.thickened (ePl P) (.int (i : Int)) t = raise "NoThick" := by
  unfold L.thickened
  rw [need_plate_true h, sub_pure, pure_bind', need_piece_true hi, sub_pure, pure_bind', need_thick_no ht, sub_raise, raise_bind, fin_raise, frame_raise]
end
end V
set_option exponentiation.threshold 100
namespace K
open PySem PySem.Spec PyProof.Rows L2 ZL V
def topS (i : Nat) : Stmt := PySem.Challenge.pw_platerest_k67_other_thicknesses.main.body.getD i (.Pass ⟨0, 0, 0, 0⟩)
abbrev s_is_whole : Stmt := topS 29
def N_is_whole : List Str := ["thing"]
theorem sc_is_whole : FnScope N_is_whole ["thing"] (defScope s_is_whole) := ⟨rfl, rfl, rfl, by decide +kernel, rfl, by decide +kernel, by decide +kernel⟩
abbrev s_is_within : Stmt := topS 30
def N_is_within : List Str := ["thing", "least", "most"]
theorem sc_is_within : FnScope N_is_within ["thing", "least", "most"] (defScope s_is_within) := ⟨rfl, rfl, rfl, by decide +kernel, rfl, by decide +kernel, by decide +kernel⟩
abbrev s_rises : Stmt := topS 31
def N_rises : List Str := ["row", "one", "later"]
theorem sc_rises : FnScope N_rises ["row"] (defScope s_rises) := ⟨rfl, rfl, rfl, by decide +kernel, rfl, by decide +kernel, by decide +kernel⟩
abbrev s_is_corner : Stmt := topS 38
def N_is_corner : List Str := ["thing", "part"]
theorem sc_is_corner : FnScope N_is_corner ["thing"] (defScope s_is_corner) := ⟨rfl, rfl, rfl, by decide +kernel, rfl, by decide +kernel, by decide +kernel⟩
abbrev s_turn_of : Stmt := topS 39
def N_turn_of : List Str := ["one", "other", "third"]
theorem sc_turn_of : FnScope N_turn_of ["one", "other", "third"] (defScope s_turn_of) := ⟨rfl, rfl, rfl, by decide +kernel, rfl, by decide +kernel, by decide +kernel⟩
abbrev s_sign_of : Stmt := topS 40
def N_sign_of : List Str := ["number"]
theorem sc_sign_of : FnScope N_sign_of ["number"] (defScope s_sign_of) := ⟨rfl, rfl, rfl, by decide +kernel, rfl, by decide +kernel, by decide +kernel⟩
abbrev s_is_piece : Stmt := topS 41
def N_is_piece : List Str := ["corners", "thing", "one", "other", "third", "part"]
theorem sc_is_piece : FnScope N_is_piece ["corners", "thing"] (defScope s_is_piece) := ⟨rfl, rfl, rfl, by decide +kernel, rfl, by decide +kernel, by decide +kernel⟩
abbrev s_lies_in : Stmt := topS 42
def N_lies_in : List Str := ["corners", "piece", "corner", "point", "signs", "one", "other", "third", "part"]
theorem sc_lies_in : FnScope N_lies_in ["corners", "piece", "corner"] (defScope s_lies_in) := ⟨rfl, rfl, rfl, by decide +kernel, rfl, by decide +kernel, by decide +kernel⟩
abbrev s_sides_in : Stmt := topS 43
def N_sides_in : List Str := ["piece", "a", "b", "c"]
theorem sc_sides_in : FnScope N_sides_in ["piece"] (defScope s_sides_in) := ⟨rfl, rfl, rfl, by decide +kernel, rfl, by decide +kernel, by decide +kernel⟩
abbrev s_are_crossing : Stmt := topS 44
def N_are_crossing : List Str := ["corners", "side", "other", "one", "two", "three", "four", "part"]
theorem sc_are_crossing : FnScope N_are_crossing ["corners", "side", "other"] (defScope s_are_crossing) := ⟨rfl, rfl, rfl, by decide +kernel, rfl, by decide +kernel, by decide +kernel⟩
abbrev s_are_apart : Stmt := topS 45
def N_are_apart : List Str := ["corners", "pieces", "piece", "sides", "side", "corner", "other", "at"]
theorem sc_are_apart : FnScope N_are_apart ["corners", "pieces"] (defScope s_are_apart) := ⟨rfl, rfl, rfl, by decide +kernel, rfl, by decide +kernel, by decide +kernel⟩
abbrev s_are_corners : Stmt := topS 46
def N_are_corners : List Str := ["thing", "one"]
theorem sc_are_corners : FnScope N_are_corners ["thing"] (defScope s_are_corners) := ⟨rfl, rfl, rfl, by decide +kernel, rfl, by decide +kernel, by decide +kernel⟩
abbrev s_are_pieces : Stmt := topS 47
def N_are_pieces : List Str := ["corners", "thing", "one"]
theorem sc_are_pieces : FnScope N_are_pieces ["corners", "thing"] (defScope s_are_pieces) := ⟨rfl, rfl, rfl, by decide +kernel, rfl, by decide +kernel, by decide +kernel⟩
abbrev s_are_thicks : Stmt := topS 48
def N_are_thicks : List Str := ["many", "thing", "one"]
theorem sc_are_thicks : FnScope N_are_thicks ["many", "thing"] (defScope s_are_thicks) := ⟨rfl, rfl, rfl, by decide +kernel, rfl, by decide +kernel, by decide +kernel⟩
abbrev s_is_stuff : Stmt := topS 49
def N_is_stuff : List Str := ["thing"]
theorem sc_is_stuff : FnScope N_is_stuff ["thing"] (defScope s_is_stuff) := ⟨rfl, rfl, rfl, by decide +kernel, rfl, by decide +kernel, by decide +kernel⟩
abbrev s_is_plate : Stmt := topS 50
def N_is_plate : List Str := ["thing", "used", "corners", "pieces", "thicks", "stuff", "piece", "corner"]
theorem sc_is_plate : FnScope N_is_plate ["thing"] (defScope s_is_plate) := ⟨rfl, rfl, rfl, by decide +kernel, rfl, by decide +kernel, by decide +kernel⟩
abbrev s_need_plate : Stmt := topS 51
def N_need_plate : List Str := ["plate"]
theorem sc_need_plate : FnScope N_need_plate ["plate"] (defScope s_need_plate) := ⟨rfl, rfl, rfl, by decide +kernel, rfl, by decide +kernel, by decide +kernel⟩
abbrev s_need_piece : Stmt := topS 52
def N_need_piece : List Str := ["plate", "thing"]
theorem sc_need_piece : FnScope N_need_piece ["plate", "thing"] (defScope s_need_piece) := ⟨rfl, rfl, rfl, by decide +kernel, rfl, by decide +kernel, by decide +kernel⟩
abbrev s_thickened_by : Stmt := topS 55
def N_thickened_by : List Str := ["plate", "piece", "thick", "corners", "pieces", "thicks", "stuff"]
theorem sc_thickened_by : FnScope N_thickened_by ["plate", "piece", "thick"] (defScope s_thickened_by) := ⟨rfl, rfl, rfl, by decide +kernel, rfl, by decide +kernel, by decide +kernel⟩
abbrev s_need_thick : Stmt := topS 56
def N_need_thick : List Str := ["thing"]
theorem sc_need_thick : FnScope N_need_thick ["thing"] (defScope s_need_thick) := ⟨rfl, rfl, rfl, by decide +kernel, rfl, by decide +kernel, by decide +kernel⟩
abbrev s_thickened : Stmt := topS 57
def N_thickened : List Str := ["plate", "piece", "thick"]
theorem sc_thickened : FnScope N_thickened ["plate", "piece", "thick"] (defScope s_thickened) := ⟨rfl, rfl, rfl, by decide +kernel, rfl, by decide +kernel, by decide +kernel⟩
abbrev s__law_cell_at : Stmt := topS 59
def N__law_cell_at : List Str := ["_law_script", "_law_k"]
theorem sc__law_cell_at : FnScope N__law_cell_at ["_law_script", "_law_k"] (defScope s__law_cell_at) := ⟨rfl, rfl, rfl, by decide +kernel, rfl, by decide +kernel, by decide +kernel⟩
abbrev s__law_state : Stmt := topS 60
def N__law_state : List Str := ["_law_script", "_law_k", "_law_cell"]
theorem sc__law_state : FnScope N__law_state ["_law_script", "_law_k"] (defScope s__law_state) := ⟨rfl, rfl, rfl, by decide +kernel, rfl, by decide +kernel, by decide +kernel⟩
abbrev s__law_choice : Stmt := topS 61
def N__law_choice : List Str := ["_law_state_here", "_law_many", "_law_mixed", "_law_found"]
theorem sc__law_choice : FnScope N__law_choice ["_law_state_here", "_law_many"] (defScope s__law_choice) := ⟨rfl, rfl, rfl, by decide +kernel, rfl, by decide +kernel, by decide +kernel⟩
abbrev s__law_order : Stmt := topS 62
def N__law_order : List Str := ["_law_state_here", "_law_many", "_law_left", "_law_found"]
theorem sc__law_order : FnScope N__law_order ["_law_state_here", "_law_many"] (defScope s__law_order) := ⟨rfl, rfl, rfl, by decide +kernel, rfl, by decide +kernel, by decide +kernel⟩
abbrev s__law_shapes : Stmt := topS 63
def N__law_shapes : List Str := ["_law_one", "_law_two", "_law_hub", "_law_hinge", "_law_apart", "_law_strip", "_law_cross", "_law_chain"]
theorem sc__law_shapes : FnScope N__law_shapes [] (defScope s__law_shapes) := ⟨rfl, rfl, rfl, by decide +kernel, rfl, by decide +kernel, by decide +kernel⟩
abbrev s__law_plate : Stmt := topS 64
def N__law_plate : List Str := ["_law_state_here", "_law_most", "_law_order_here", "_law_corners", "_law_rows", "_law_thicks", "_law_points", "_law_pieces", "_law_a", "_law_b", "_law_c", "_law_d", "_law_s", "_law_t", "_law_at", "_law_x", "_law_y", "_law_piece", "_law_row"]
theorem sc__law_plate : FnScope N__law_plate ["_law_state_here", "_law_most"] (defScope s__law_plate) := ⟨rfl, rfl, rfl, by decide +kernel, rfl, by decide +kernel, by decide +kernel⟩
abbrev s__law_same : Stmt := topS 65
def N__law_same : List Str := ["_law_found", "_law_due"]
theorem sc__law_same : FnScope N__law_same ["_law_found", "_law_due"] (defScope s__law_same) := ⟨rfl, rfl, rfl, by decide +kernel, rfl, by decide +kernel, by decide +kernel⟩
abbrev s__law_odd : Stmt := topS 66
def N__law_odd : List Str := ["_law_state_here", "_law_some"]
theorem sc__law_odd : FnScope N__law_odd ["_law_state_here"] (defScope s__law_odd) := ⟨rfl, rfl, rfl, by decide +kernel, rfl, by decide +kernel, by decide +kernel⟩
abbrev s__law_kind : Stmt := topS 67
def N__law_kind : List Str := ["_law_e", "_law_kinds", "_law_words"]
theorem sc__law_kind : FnScope N__law_kind ["_law_e"] (defScope s__law_kind) := ⟨rfl, rfl, rfl, by decide +kernel, rfl, by decide +kernel, by decide +kernel⟩
abbrev s__law_said : Stmt := topS 68
def N__law_said : List Str := ["_law_call", "_law_found", "_law_e"]
theorem sc__law_said : FnScope N__law_said ["_law_call"] (defScope s__law_said) := ⟨rfl, rfl, rfl, by decide +kernel, rfl, by decide +kernel, by decide +kernel⟩
abbrev s__law_whole : Stmt := topS 69
def N__law_whole : List Str := ["_law_thing"]
theorem sc__law_whole : FnScope N__law_whole ["_law_thing"] (defScope s__law_whole) := ⟨rfl, rfl, rfl, by decide +kernel, rfl, by decide +kernel, by decide +kernel⟩
abbrev s__law_bad_plates : Stmt := topS 70
def N__law_bad_plates : List Str := ["_law_plate_here", "_law_odd_here", "_law_some", "_law_corners", "_law_pieces", "_law_thicks", "_law_stuff"]
theorem sc__law_bad_plates : FnScope N__law_bad_plates ["_law_plate_here", "_law_odd_here"] (defScope s__law_bad_plates) := ⟨rfl, rfl, rfl, by decide +kernel, rfl, by decide +kernel, by decide +kernel⟩
abbrev s_law : Stmt := topS 71
def N_law : List Str := ["_law_script", "_law_k", "_law_state_here", "_law_kept", "_law_piece", "_law_bad", "_law_plate_here", "_law_odd_here", "_law_thick", "_law_thicks"]
theorem sc_law : FnScope N_law ["_law_script"] (defScope s_law) := ⟨rfl, rfl, rfl, by decide +kernel, rfl, by decide +kernel, by decide +kernel⟩
theorem bv_all : bootBuiltins "all" = some (.builtin "all") := by decide +kernel
theorem bv_any : bootBuiltins "any" = some (.builtin "any") := by decide +kernel
theorem bv_int : bootBuiltins "int" = some (.type "int") := by decide +kernel
theorem bv_len : bootBuiltins "len" = some (.builtin "len") := by decide +kernel
theorem bv_list : bootBuiltins "list" = some (.type "list") := by decide +kernel
theorem bv_max : bootBuiltins "max" = some (.builtin "max") := by decide +kernel
theorem bv_min : bootBuiltins "min" = some (.builtin "min") := by decide +kernel
theorem bv_repr : bootBuiltins "repr" = some (.builtin "repr") := by decide +kernel
theorem bv_sorted : bootBuiltins "sorted" = some (.builtin "sorted") := by decide +kernel
theorem bv_tuple : bootBuiltins "tuple" = some (.type "tuple") := by decide +kernel
structure Txt (K : PySem.W.Frag) (mg : Str → Option Value) where
  a_is_whole : Addr
  fd_is_whole : FuncData
  F_is_whole : FunD K "is_whole" "is_whole" (defArgs s_is_whole) (defBody s_is_whole) (defScope s_is_whole) [] [] a_is_whole fd_is_whole
  b_is_whole : Binds K fd_is_whole ["thing"] []
  m_is_whole : mg "is_whole" = some (.ref a_is_whole)
  a_is_within : Addr
  fd_is_within : FuncData
  F_is_within : FunD K "is_within" "is_within" (defArgs s_is_within) (defBody s_is_within) (defScope s_is_within) [] [] a_is_within fd_is_within
  b_is_within : Binds K fd_is_within ["thing", "least", "most"] []
  m_is_within : mg "is_within" = some (.ref a_is_within)
  a_rises : Addr
  fd_rises : FuncData
  F_rises : FunD K "rises" "rises" (defArgs s_rises) (defBody s_rises) (defScope s_rises) [] [] a_rises fd_rises
  b_rises : Binds K fd_rises ["row"] []
  m_rises : mg "rises" = some (.ref a_rises)
  a_is_corner : Addr
  fd_is_corner : FuncData
  F_is_corner : FunD K "is_corner" "is_corner" (defArgs s_is_corner) (defBody s_is_corner) (defScope s_is_corner) [] [] a_is_corner fd_is_corner
  b_is_corner : Binds K fd_is_corner ["thing"] []
  m_is_corner : mg "is_corner" = some (.ref a_is_corner)
  a_turn_of : Addr
  fd_turn_of : FuncData
  F_turn_of : FunD K "turn_of" "turn_of" (defArgs s_turn_of) (defBody s_turn_of) (defScope s_turn_of) [] [] a_turn_of fd_turn_of
  b_turn_of : Binds K fd_turn_of ["one", "other", "third"] []
  m_turn_of : mg "turn_of" = some (.ref a_turn_of)
  a_sign_of : Addr
  fd_sign_of : FuncData
  F_sign_of : FunD K "sign_of" "sign_of" (defArgs s_sign_of) (defBody s_sign_of) (defScope s_sign_of) [] [] a_sign_of fd_sign_of
  b_sign_of : Binds K fd_sign_of ["number"] []
  m_sign_of : mg "sign_of" = some (.ref a_sign_of)
  a_is_piece : Addr
  fd_is_piece : FuncData
  F_is_piece : FunD K "is_piece" "is_piece" (defArgs s_is_piece) (defBody s_is_piece) (defScope s_is_piece) [] [] a_is_piece fd_is_piece
  b_is_piece : Binds K fd_is_piece ["corners", "thing"] []
  m_is_piece : mg "is_piece" = some (.ref a_is_piece)
  a_lies_in : Addr
  fd_lies_in : FuncData
  F_lies_in : FunD K "lies_in" "lies_in" (defArgs s_lies_in) (defBody s_lies_in) (defScope s_lies_in) [] [] a_lies_in fd_lies_in
  b_lies_in : Binds K fd_lies_in ["corners", "piece", "corner"] []
  m_lies_in : mg "lies_in" = some (.ref a_lies_in)
  a_sides_in : Addr
  fd_sides_in : FuncData
  F_sides_in : FunD K "sides_in" "sides_in" (defArgs s_sides_in) (defBody s_sides_in) (defScope s_sides_in) [] [] a_sides_in fd_sides_in
  b_sides_in : Binds K fd_sides_in ["piece"] []
  m_sides_in : mg "sides_in" = some (.ref a_sides_in)
  a_are_crossing : Addr
  fd_are_crossing : FuncData
  F_are_crossing : FunD K "are_crossing" "are_crossing" (defArgs s_are_crossing) (defBody s_are_crossing) (defScope s_are_crossing) [] [] a_are_crossing fd_are_crossing
  b_are_crossing : Binds K fd_are_crossing ["corners", "side", "other"] []
  m_are_crossing : mg "are_crossing" = some (.ref a_are_crossing)
  a_are_apart : Addr
  fd_are_apart : FuncData
  F_are_apart : FunD K "are_apart" "are_apart" (defArgs s_are_apart) (defBody s_are_apart) (defScope s_are_apart) [] [] a_are_apart fd_are_apart
  b_are_apart : Binds K fd_are_apart ["corners", "pieces"] []
  m_are_apart : mg "are_apart" = some (.ref a_are_apart)
  a_are_corners : Addr
  fd_are_corners : FuncData
  F_are_corners : FunD K "are_corners" "are_corners" (defArgs s_are_corners) (defBody s_are_corners) (defScope s_are_corners) [] [] a_are_corners fd_are_corners
  b_are_corners : Binds K fd_are_corners ["thing"] []
  m_are_corners : mg "are_corners" = some (.ref a_are_corners)
  a_are_pieces : Addr
  fd_are_pieces : FuncData
  F_are_pieces : FunD K "are_pieces" "are_pieces" (defArgs s_are_pieces) (defBody s_are_pieces) (defScope s_are_pieces) [] [] a_are_pieces fd_are_pieces
  b_are_pieces : Binds K fd_are_pieces ["corners", "thing"] []
  m_are_pieces : mg "are_pieces" = some (.ref a_are_pieces)
  a_are_thicks : Addr
  fd_are_thicks : FuncData
  F_are_thicks : FunD K "are_thicks" "are_thicks" (defArgs s_are_thicks) (defBody s_are_thicks) (defScope s_are_thicks) [] [] a_are_thicks fd_are_thicks
  b_are_thicks : Binds K fd_are_thicks ["many", "thing"] []
  m_are_thicks : mg "are_thicks" = some (.ref a_are_thicks)
  a_is_stuff : Addr
  fd_is_stuff : FuncData
  F_is_stuff : FunD K "is_stuff" "is_stuff" (defArgs s_is_stuff) (defBody s_is_stuff) (defScope s_is_stuff) [] [] a_is_stuff fd_is_stuff
  b_is_stuff : Binds K fd_is_stuff ["thing"] []
  m_is_stuff : mg "is_stuff" = some (.ref a_is_stuff)
  a_is_plate : Addr
  fd_is_plate : FuncData
  F_is_plate : FunD K "is_plate" "is_plate" (defArgs s_is_plate) (defBody s_is_plate) (defScope s_is_plate) [] [] a_is_plate fd_is_plate
  b_is_plate : Binds K fd_is_plate ["thing"] []
  m_is_plate : mg "is_plate" = some (.ref a_is_plate)
  a_need_plate : Addr
  fd_need_plate : FuncData
  F_need_plate : FunD K "need_plate" "need_plate" (defArgs s_need_plate) (defBody s_need_plate) (defScope s_need_plate) [] [] a_need_plate fd_need_plate
  b_need_plate : Binds K fd_need_plate ["plate"] []
  m_need_plate : mg "need_plate" = some (.ref a_need_plate)
  a_need_piece : Addr
  fd_need_piece : FuncData
  F_need_piece : FunD K "need_piece" "need_piece" (defArgs s_need_piece) (defBody s_need_piece) (defScope s_need_piece) [] [] a_need_piece fd_need_piece
  b_need_piece : Binds K fd_need_piece ["plate", "thing"] []
  m_need_piece : mg "need_piece" = some (.ref a_need_piece)
  a_thickened_by : Addr
  fd_thickened_by : FuncData
  F_thickened_by : FunD K "thickened_by" "thickened_by" (defArgs s_thickened_by) (defBody s_thickened_by) (defScope s_thickened_by) [] [] a_thickened_by fd_thickened_by
  b_thickened_by : Binds K fd_thickened_by ["plate", "piece", "thick"] []
  m_thickened_by : mg "thickened_by" = some (.ref a_thickened_by)
  a_need_thick : Addr
  fd_need_thick : FuncData
  F_need_thick : FunD K "need_thick" "need_thick" (defArgs s_need_thick) (defBody s_need_thick) (defScope s_need_thick) [] [] a_need_thick fd_need_thick
  b_need_thick : Binds K fd_need_thick ["thing"] []
  m_need_thick : mg "need_thick" = some (.ref a_need_thick)
  a_thickened : Addr
  fd_thickened : FuncData
  F_thickened : FunD K "thickened" "thickened" (defArgs s_thickened) (defBody s_thickened) (defScope s_thickened) [] [] a_thickened fd_thickened
  b_thickened : Binds K fd_thickened ["plate", "piece", "thick"] []
  m_thickened : mg "thickened" = some (.ref a_thickened)
  a__law_cell_at : Addr
  fd__law_cell_at : FuncData
  F__law_cell_at : FunD K "_law_cell_at" "_law_cell_at" (defArgs s__law_cell_at) (defBody s__law_cell_at) (defScope s__law_cell_at) [] [] a__law_cell_at fd__law_cell_at
  b__law_cell_at : Binds K fd__law_cell_at ["_law_script", "_law_k"] []
  m__law_cell_at : mg "_law_cell_at" = some (.ref a__law_cell_at)
  a__law_state : Addr
  fd__law_state : FuncData
  F__law_state : FunD K "_law_state" "_law_state" (defArgs s__law_state) (defBody s__law_state) (defScope s__law_state) [] [] a__law_state fd__law_state
  b__law_state : Binds K fd__law_state ["_law_script", "_law_k"] []
  m__law_state : mg "_law_state" = some (.ref a__law_state)
  a__law_choice : Addr
  fd__law_choice : FuncData
  F__law_choice : FunD K "_law_choice" "_law_choice" (defArgs s__law_choice) (defBody s__law_choice) (defScope s__law_choice) [] [] a__law_choice fd__law_choice
  b__law_choice : Binds K fd__law_choice ["_law_state_here", "_law_many"] []
  m__law_choice : mg "_law_choice" = some (.ref a__law_choice)
  a__law_order : Addr
  fd__law_order : FuncData
  F__law_order : FunD K "_law_order" "_law_order" (defArgs s__law_order) (defBody s__law_order) (defScope s__law_order) [] [] a__law_order fd__law_order
  b__law_order : Binds K fd__law_order ["_law_state_here", "_law_many"] []
  m__law_order : mg "_law_order" = some (.ref a__law_order)
  a__law_shapes : Addr
  fd__law_shapes : FuncData
  F__law_shapes : FunD K "_law_shapes" "_law_shapes" (defArgs s__law_shapes) (defBody s__law_shapes) (defScope s__law_shapes) [] [] a__law_shapes fd__law_shapes
  b__law_shapes : Binds K fd__law_shapes [] []
  m__law_shapes : mg "_law_shapes" = some (.ref a__law_shapes)
  a__law_plate : Addr
  fd__law_plate : FuncData
  F__law_plate : FunD K "_law_plate" "_law_plate" (defArgs s__law_plate) (defBody s__law_plate) (defScope s__law_plate) [] [] a__law_plate fd__law_plate
  b__law_plate : Binds K fd__law_plate ["_law_state_here", "_law_most"] []
  m__law_plate : mg "_law_plate" = some (.ref a__law_plate)
  a__law_same : Addr
  fd__law_same : FuncData
  F__law_same : FunD K "_law_same" "_law_same" (defArgs s__law_same) (defBody s__law_same) (defScope s__law_same) [] [] a__law_same fd__law_same
  b__law_same : Binds K fd__law_same ["_law_found", "_law_due"] []
  m__law_same : mg "_law_same" = some (.ref a__law_same)
  a__law_odd : Addr
  fd__law_odd : FuncData
  F__law_odd : FunD K "_law_odd" "_law_odd" (defArgs s__law_odd) (defBody s__law_odd) (defScope s__law_odd) [] [] a__law_odd fd__law_odd
  b__law_odd : Binds K fd__law_odd ["_law_state_here"] []
  m__law_odd : mg "_law_odd" = some (.ref a__law_odd)
  a__law_kind : Addr
  fd__law_kind : FuncData
  F__law_kind : FunD K "_law_kind" "_law_kind" (defArgs s__law_kind) (defBody s__law_kind) (defScope s__law_kind) [] [] a__law_kind fd__law_kind
  b__law_kind : Binds K fd__law_kind ["_law_e"] []
  m__law_kind : mg "_law_kind" = some (.ref a__law_kind)
  a__law_said : Addr
  fd__law_said : FuncData
  F__law_said : FunD K "_law_said" "_law_said" (defArgs s__law_said) (defBody s__law_said) (defScope s__law_said) [] [] a__law_said fd__law_said
  b__law_said : Binds K fd__law_said ["_law_call"] []
  m__law_said : mg "_law_said" = some (.ref a__law_said)
  a__law_whole : Addr
  fd__law_whole : FuncData
  F__law_whole : FunD K "_law_whole" "_law_whole" (defArgs s__law_whole) (defBody s__law_whole) (defScope s__law_whole) [] [] a__law_whole fd__law_whole
  b__law_whole : Binds K fd__law_whole ["_law_thing"] []
  m__law_whole : mg "_law_whole" = some (.ref a__law_whole)
  a__law_bad_plates : Addr
  fd__law_bad_plates : FuncData
  F__law_bad_plates : FunD K "_law_bad_plates" "_law_bad_plates" (defArgs s__law_bad_plates) (defBody s__law_bad_plates) (defScope s__law_bad_plates) [] [] a__law_bad_plates fd__law_bad_plates
  b__law_bad_plates : Binds K fd__law_bad_plates ["_law_plate_here", "_law_odd_here"] []
  m__law_bad_plates : mg "_law_bad_plates" = some (.ref a__law_bad_plates)
  a_law : Addr
  fd_law : FuncData
  F_law : FunD K "law" "law" (defArgs s_law) (defBody s_law) (defScope s_law) [] [] a_law fd_law
  b_law : Binds K fd_law ["_law_script"] []
  m_law : mg "law" = some (.ref a_law)
  bk__law_shapes_0 : ZBn K fd__law_shapes [] 0 [] (gSel [] (List.map Z.d []))
  n_ValueError : mg "ValueError" = none
  n_all : mg "all" = none
  n_any : mg "any" = none
  n_bool : mg "bool" = none
  n_enumerate : mg "enumerate" = none
  n_int : mg "int" = none
  n_isinstance : mg "isinstance" = none
  n_len : mg "len" = none
  n_list : mg "list" = none
  n_max : mg "max" = none
  n_min : mg "min" = none
  n_range : mg "range" = none
  n_repr : mg "repr" = none
  n_set : mg "set" = none
  n_sorted : mg "sorted" = none
  n_tuple : mg "tuple" = none
  n_zip : mg "zip" = none
  e_NoBalance : Addr
  m_NoBalance : mg "NoBalance" = some (.ref e_NoBalance)
  e_NoDeed : Addr
  m_NoDeed : mg "NoDeed" = some (.ref e_NoDeed)
  e_NoDeeds : Addr
  m_NoDeeds : mg "NoDeeds" = some (.ref e_NoDeeds)
  e_NoFirm : Addr
  m_NoFirm : mg "NoFirm" = some (.ref e_NoFirm)
  e_NoFraction : Addr
  m_NoFraction : mg "NoFraction" = some (.ref e_NoFraction)
  e_NoFrame : Addr
  m_NoFrame : mg "NoFrame" = some (.ref e_NoFrame)
  e_NoHolding : Addr
  m_NoHolding : mg "NoHolding" = some (.ref e_NoHolding)
  e_NoInner : Addr
  m_NoInner : mg "NoInner" = some (.ref e_NoInner)
  e_NoLine : Addr
  m_NoLine : mg "NoLine" = some (.ref e_NoLine)
  e_NoLoads : Addr
  m_NoLoads : mg "NoLoads" = some (.ref e_NoLoads)
  e_NoLot : Addr
  m_NoLot : mg "NoLot" = some (.ref e_NoLot)
  e_NoMotions : Addr
  m_NoMotions : mg "NoMotions" = some (.ref e_NoMotions)
  e_NoPiece : Addr
  m_NoPiece : mg "NoPiece" = some (.ref e_NoPiece)
  x_NoPiece : PySem.W.excIn K e_NoPiece [.type "ValueError", .type "Exception", .type "BaseException", .type "object"] "ValueError.__new__" = true
  k_NoPiece : PySem.W.keepIn K (.ref e_NoPiece) = true
  s_NoPiece : PySem.W.subIn K (.ref e_NoPiece) (.type "BaseException") = some true
  t_NoPiece : PySem.W.typeIn K (.ref e_NoPiece) = some (.type "type")
  e_NoPlate : Addr
  m_NoPlate : mg "NoPlate" = some (.ref e_NoPlate)
  x_NoPlate : PySem.W.excIn K e_NoPlate [.type "ValueError", .type "Exception", .type "BaseException", .type "object"] "ValueError.__new__" = true
  k_NoPlate : PySem.W.keepIn K (.ref e_NoPlate) = true
  s_NoPlate : PySem.W.subIn K (.ref e_NoPlate) (.type "BaseException") = some true
  t_NoPlate : PySem.W.typeIn K (.ref e_NoPlate) = some (.type "type")
  e_NoRest : Addr
  m_NoRest : mg "NoRest" = some (.ref e_NoRest)
  e_NoRounds : Addr
  m_NoRounds : mg "NoRounds" = some (.ref e_NoRounds)
  e_NoRows : Addr
  m_NoRows : mg "NoRows" = some (.ref e_NoRows)
  e_NoStresses : Addr
  m_NoStresses : mg "NoStresses" = some (.ref e_NoStresses)
  e_NoText : Addr
  m_NoText : mg "NoText" = some (.ref e_NoText)
  e_NoThick : Addr
  m_NoThick : mg "NoThick" = some (.ref e_NoThick)
  x_NoThick : PySem.W.excIn K e_NoThick [.type "ValueError", .type "Exception", .type "BaseException", .type "object"] "ValueError.__new__" = true
  k_NoThick : PySem.W.keepIn K (.ref e_NoThick) = true
  s_NoThick : PySem.W.subIn K (.ref e_NoThick) (.type "BaseException") = some true
  t_NoThick : PySem.W.typeIn K (.ref e_NoThick) = some (.type "type")
  e_NoTurning : Addr
  m_NoTurning : mg "NoTurning" = some (.ref e_NoTurning)
  e_NoWay : Addr
  m_NoWay : mg "NoWay" = some (.ref e_NoWay)
  e_NoWays : Addr
  m_NoWays : mg "NoWays" = some (.ref e_NoWays)
  e_NoWhole : Addr
  m_NoWhole : mg "NoWhole" = some (.ref e_NoWhole)
  e_NotHeld : Addr
  m_NotHeld : mg "NotHeld" = some (.ref e_NotHeld)
  e_PlateError : Addr
  m_PlateError : mg "PlateError" = some (.ref e_PlateError)
  e_TooMany : Addr
  m_TooMany : mg "TooMany" = some (.ref e_TooMany)
  g_MOST_CORNERS : ∀ {X : Cx} {B : Bs} {p : Pos}, X.K = K → X.mg = mg → Gl X "MOST_CORNERS" → ZE X B (.Name "MOST_CORNERS" p) (zC (.d (.int 30)))
  g_MOST_PIECES : ∀ {X : Cx} {B : Bs} {p : Pos}, X.K = K → X.mg = mg → Gl X "MOST_PIECES" → ZE X B (.Name "MOST_PIECES" p) (zC (.d (.int 40)))
  g_MOST_SPAN : ∀ {X : Cx} {B : Bs} {p : Pos}, X.K = K → X.mg = mg → Gl X "MOST_SPAN" → ZE X B (.Name "MOST_SPAN" p) (zC (.d (.int 100)))
  g_MOST_STIFF : ∀ {X : Cx} {B : Bs} {p : Pos}, X.K = K → X.mg = mg → Gl X "MOST_STIFF" → ZE X B (.Name "MOST_STIFF" p) (zC (.d (.int 9)))
  g_MOST_THICK_plates : ∀ {X : Cx} {B : Bs} {p : Pos}, X.K = K → X.mg = mg → Gl X "MOST_THICK_plates" → ZE X B (.Name "MOST_THICK_plates" p) (zC (.d (.int 9)))
  g_MOST_THICK_sums : ∀ {X : Cx} {B : Bs} {p : Pos}, X.K = K → X.mg = mg → Gl X "MOST_THICK_sums" → ZE X B (.Name "MOST_THICK_sums" p) (zC (.d (.int 9)))
  q_law : a_law = He.ga K "law"
  xt : ExTab K mg exNames
  xe : ∀ n ∈ exNames, ∀ D, mg n = some (.ref D) → PySem.W.exmOne K (.ref D) (.ref e_PlateError) = some true
def tfL : List He.Defn := [("law", none)]
abbrev TBs (K : PySem.W.Frag) (mg : Str → Option Value) (base : Heap) : Prop := ∀ p ∈ tfL, LamX.TabB base mg (He.cT K p).1 (He.cT K p).2
section
variable {P : Program} {w : World} {K : PySem.W.Frag} {mg : Str → Option Value} {base : Heap} (T : Txt K mg)
def F_is_whole : List PyData → M PyData
  | [a0] => L.is_whole a0
  | _ => bad
theorem ok_is_whole : ZFn P w K mg base 1 T.a_is_whole T.fd_is_whole ["thing"] (VSp (lamTs K tfL) mg [.d] false F_is_whole) :=
  vfnD T.F_is_whole sc_is_whole rfl fun cdv hcd A outer s H E S Ez ps0 hG hr tk gl ds hd => match ds, hd with
    | [a0], _ => ⟨0, _, rfl, (s_ret (f_and (f_isi .int T.n_isinstance (pe_ty .int T.n_int) (fl_at (f_v 0) fl_nil)) (f_one (f_not (f_isi .bool T.n_isinstance (pe_ty .bool T.n_bool) (fl_at (f_v 0) fl_nil))))))⟩
def F_is_within : List PyData → M PyData
  | [a0, a1, a2] => L.is_within a0 a1 a2
  | _ => bad
theorem ok_is_within : ZFn P w K mg base 2 T.a_is_within T.fd_is_within ["thing", "least", "most"] (VSp (lamTs K tfL) mg [.d, .d, .d] false F_is_within) :=
  vfnD T.F_is_within sc_is_within rfl fun cdv hcd A outer s H E S Ez ps0 hG hr tk gl ds hd => match ds, hd with
    | [a0, a1, a2], _ => ⟨0, _, rfl, (s_ret (f_and (f_call (ok_is_whole T) hG (hr.mono (by decide)) T.m_is_whole T.F_is_whole.kp T.b_is_whole tk (fa_at (f_v 0) fa_nil)) (f_one (f_chain (fun y1 => (leM y1 a2)) zle o_le zle o_le (fl_at (f_v 1) (fl_at (f_v 0) fl_nil)) (fun y1 => (fl_at (f_v 2) fl_nil))))))⟩
def F_rises : List PyData → M PyData
  | [a0] => L.rises2 a0
  | _ => bad
theorem ok_rises : ZFn P w K mg base 1 T.a_rises T.fd_rises ["row"] (VSp (lamTs K tfL) mg [.d] false F_rises) :=
  vfnD T.F_rises sc_rises rfl fun cdv hcd A outer s H E S Ez ps0 hG hr tk gl ds hd => match ds, hd with
    | [a0], _ => ⟨0, _, rfl, (s_ret (f_callB zall v_all T.n_all bv_all (fa_cons (f_lc sc_rises.nd (i_zip T.n_zip (fa_at (f_v 0) (fa_cons (f_slL (fl_at (f_v 0) (fl_at f_int fl_nil))) (fun x1 => fa_nil)))) (blkOk_by (own := [("one", 1), ("later", 2)]) (N := N_rises) (sc := defScope s_rises) (by decide +kernel)) (fun _ _ _ _ _ => (zg_tup (zgs_cons (zg_name (i := 1) sc_rises.nd) (zgs_cons (zg_name (i := 2) sc_rises.nd) zgs_nil)))) (go_t2 (go_name (i := 1)) (go_name (i := 2))) ts_nil (fun _ _ _ _ _ t2 => (f_cmp (zltT hr) o_ltT (fl_at (f_v 1) (fl_at (f_v 2) fl_nil))))) (fun x6 => fa_nil))))⟩
def F_is_corner : List PyData → M PyData
  | [a0] => L.is_corner a0
  | _ => bad
theorem ok_is_corner : ZFn P w K mg base 3 T.a_is_corner T.fd_is_corner ["thing"] (VSp (lamTs K tfL) mg [.d] false F_is_corner) :=
  vfnD T.F_is_corner sc_is_corner rfl fun cdv hcd A outer s H E S Ez ps0 hG hr tk gl ds hd => match ds, hd with
    | [a0], _ => ⟨0, _, rfl, (s_if (FW.t (w_or (t_not (t_val (f_isi .tuple T.n_isinstance (pe_ty .tuple T.n_tuple) (fl_at (f_v 0) fl_nil)))) (w_or1 (t_cmp (zne hr) o_ne (fl_cons (f_callB zlen v_len T.n_len bv_len (fa_at (f_v 0) fa_nil)) (fun x1 => (fl_at f_int fl_nil))))))) (s_ret f_bl) (s_pop (s_ret (f_callB zall v_all T.n_all bv_all (fa_cons (f_lc sc_is_corner.nd (i_row (f_v 0)) (blkOk_by (own := [("part", 1)]) (N := N_is_corner) (sc := defScope s_is_corner) (by decide +kernel)) (fun _ _ _ _ _ => (zg_name (i := 1) sc_is_corner.nd)) (go_name (i := 1)) ts_nil (fun _ _ _ _ _ t4 => (f_call (ok_is_within T) hG (hr.mono (by decide)) T.m_is_within T.F_is_within.kp T.b_is_within tk0 (fa_at (f_v 1) (fa_cons (f_neg (fl_at (f_of (T.g_MOST_SPAN rfl rfl rfl)) fl_nil)) (fun x6 => (fa_at (f_of (T.g_MOST_SPAN rfl rfl rfl)) fa_nil))))))) (fun x9 => fa_nil))))))⟩
def F_turn_of : List PyData → M PyData
  | [a0, a1, a2] => L.turn_of a0 a1 a2
  | _ => bad
theorem ok_turn_of : ZFn P w K mg base 1 T.a_turn_of T.fd_turn_of ["one", "other", "third"] (VSp (lamTs K tfL) mg [.d, .d, .d] false F_turn_of) :=
  vfnD T.F_turn_of sc_turn_of rfl fun cdv hcd A outer s H E S Ez ps0 hG hr tk gl ds hd => match ds, hd with
    | [a0, a1, a2], _ => ⟨0, _, rfl, (s_ret (f_sub (fl_cons (f_mul (fl_cons (f_sub (fl_cons (f_ix (fl_at (f_v 1) (fl_at f_int fl_nil))) (fun x1 => (fl_cons (f_ix (fl_at (f_v 0) (fl_at f_int fl_nil))) (fun x2 => fl_nil))))) (fun x3 => (fl_cons (f_sub (fl_cons (f_ix (fl_at (f_v 2) (fl_at f_int fl_nil))) (fun x4 => (fl_cons (f_ix (fl_at (f_v 0) (fl_at f_int fl_nil))) (fun x5 => fl_nil))))) (fun x6 => fl_nil))))) (fun x7 => (fl_cons (f_mul (fl_cons (f_sub (fl_cons (f_ix (fl_at (f_v 2) (fl_at f_int fl_nil))) (fun x8 => (fl_cons (f_ix (fl_at (f_v 0) (fl_at f_int fl_nil))) (fun x9 => fl_nil))))) (fun x10 => (fl_cons (f_sub (fl_cons (f_ix (fl_at (f_v 1) (fl_at f_int fl_nil))) (fun x11 => (fl_cons (f_ix (fl_at (f_v 0) (fl_at f_int fl_nil))) (fun x12 => fl_nil))))) (fun x13 => fl_nil))))) (fun x14 => fl_nil))))))⟩
def F_sign_of : List PyData → M PyData
  | [a0] => L.sign_of a0
  | _ => bad
theorem ok_sign_of : ZFn P w K mg base 1 T.a_sign_of T.fd_sign_of ["number"] (VSp (lamTs K tfL) mg [.d] false F_sign_of) :=
  vfnD T.F_sign_of sc_sign_of rfl fun cdv hcd A outer s H E S Ez ps0 hG hr tk gl ds hd => match ds, hd with
    | [a0], _ => ⟨0, _, rfl, (s_ret (f_sub (fl_cons (f_callT zint v_int T.n_int bv_int (fa_cons (f_cmp zgt o_gt (fl_at (f_v 0) (fl_at f_int fl_nil))) (fun x1 => fa_nil))) (fun x2 => (fl_cons (f_callT zint v_int T.n_int bv_int (fa_cons (f_cmp zlt o_lt (fl_at (f_v 0) (fl_at f_int fl_nil))) (fun x3 => fa_nil))) (fun x4 => fl_nil))))))⟩
def F_is_piece : List PyData → M PyData
  | [a0, a1] => L.is_piece2 a0 a1
  | _ => bad
theorem ok_is_piece : ZFn P w K mg base 3 T.a_is_piece T.fd_is_piece ["corners", "thing"] (VSp (lamTs K tfL) mg [.d, .d] false F_is_piece) :=
  vfnD T.F_is_piece sc_is_piece rfl fun cdv hcd A outer s H E S Ez ps0 hG hr tk gl ds hd => match ds, hd with
    | [a0, a1], _ => ⟨0, _, rfl, (s_if (FW.t (w_or (t_not (t_val (f_isi .tuple T.n_isinstance (pe_ty .tuple T.n_tuple) (fl_at (f_v 1) fl_nil)))) (w_or1 (t_cmp (zne hr) o_ne (fl_cons (f_callB zlen v_len T.n_len bv_len (fa_at (f_v 1) fa_nil)) (fun x1 => (fl_at f_int fl_nil))))))) (s_ret f_bl) (s_pop (s_if (FW.t (w_or (t_not (t_val (f_callB zall v_all T.n_all bv_all (fa_cons (f_lc sc_is_piece.nd (i_row (f_v 1)) (blkOk_by (own := [("part", 5)]) (N := N_is_piece) (sc := defScope s_is_piece) (by decide +kernel)) (fun _ _ _ _ _ => (zg_name (i := 5) sc_is_piece.nd)) (go_name (i := 5)) ts_nil (fun _ _ _ _ _ t4 => (f_call (ok_is_within T) hG (hr.mono (by decide)) T.m_is_within T.F_is_within.kp T.b_is_within tk0 (fa_at (f_v 5) (fa_at f_int (fa_cons (f_sub (fl_cons (f_callB zlen v_len T.n_len bv_len (fa_at (f_v 0) fa_nil)) (fun x6 => (fl_at f_int fl_nil)))) (fun x7 => fa_nil))))))) (fun x10 => fa_nil))))) (w_or1 (t_not (t_val (f_call (ok_rises T) hG (hr.mono (by decide)) T.m_rises T.F_rises.kp T.b_rises tk (fa_at (f_v 1) fa_nil))))))) (s_ret f_bl) (s_pop (s_asg (f_lc sc_is_piece.nd (i_row (f_v 1)) (blkOk_by (own := [("part", 5)]) (N := N_is_piece) (sc := defScope s_is_piece) (by decide +kernel)) (fun _ _ _ _ _ => (zg_name (i := 5) sc_is_piece.nd)) (go_name (i := 5)) ts_nil (fun _ _ _ _ _ t13 => (f_ix (fl_at (f_v 0) (fl_at (f_v 5) fl_nil))))) (zg_seq (zgs_cons (zg_name (i := 2) sc_is_piece.nd) (zgs_cons (zg_name (i := 3) sc_is_piece.nd) (zgs_cons (zg_name (i := 4) sc_is_piece.nd) zgs_nil)))) (go_q3 (go_name (i := 2)) (go_name (i := 3)) (go_name (i := 4))) (fun u17 => (s_ret (f_cmp (zne hr) o_ne (fl_cons (f_call (ok_turn_of T) hG (hr.mono (by decide)) T.m_turn_of T.F_turn_of.kp T.b_turn_of tk (fa_at (f_v 2) (fa_at (f_v 3) (fa_at (f_v 4) fa_nil)))) (fun x19 => (fl_at f_int fl_nil)))))))))))⟩
def F_lies_in : List PyData → M PyData
  | [a0, a1, a2] => L.lies_in a0 a1 a2
  | _ => bad
theorem ok_lies_in : ZFn P w K mg base 2 T.a_lies_in T.fd_lies_in ["corners", "piece", "corner"] (VSp (lamTs K tfL) mg [.d, .d, .d] false F_lies_in) :=
  vfnD T.F_lies_in sc_lies_in rfl fun cdv hcd A outer s H E S Ez ps0 hG hr tk gl ds hd => match ds, hd with
    | [a0, a1, a2], _ => ⟨1, _, rfl, (s_asg (f_lc sc_lies_in.nd (i_row (f_v 1)) (blkOk_by (own := [("part", 8)]) (N := N_lies_in) (sc := defScope s_lies_in) (by decide +kernel)) (fun _ _ _ _ _ => (zg_name (i := 8) sc_lies_in.nd)) (go_name (i := 8)) ts_nil (fun _ _ _ _ _ t1 => (f_ix (fl_at (f_v 0) (fl_at (f_v 8) fl_nil))))) (zg_seq (zgs_cons (zg_name (i := 5) sc_lies_in.nd) (zgs_cons (zg_name (i := 6) sc_lies_in.nd) (zgs_cons (zg_name (i := 7) sc_lies_in.nd) zgs_nil)))) (go_q3 (go_name (i := 5)) (go_name (i := 6)) (go_name (i := 7))) (fun u5 => (s_set 3 sc_lies_in.nd (f_ix (fl_at (f_v 0) (fl_at (f_v 2) fl_nil))) (fun v7 => (s_setC 4 0 (by rw [gl]; decide) sc_lies_in.nd (n_lst (fa_cons (f_call (ok_sign_of T) hG (hr.mono (by decide)) T.m_sign_of T.F_sign_of.kp T.b_sign_of tk (fa_cons (f_call (ok_turn_of T) hG (hr.mono (by decide)) T.m_turn_of T.F_turn_of.kp T.b_turn_of tk (fa_at (f_v 5) (fa_at (f_v 6) (fa_at (f_v 3) fa_nil)))) (fun x8 => fa_nil))) (fun x9 => (fa_cons (f_call (ok_sign_of T) hG (hr.mono (by decide)) T.m_sign_of T.F_sign_of.kp T.b_sign_of tk (fa_cons (f_call (ok_turn_of T) hG (hr.mono (by decide)) T.m_turn_of T.F_turn_of.kp T.b_turn_of tk (fa_at (f_v 6) (fa_at (f_v 7) (fa_at (f_v 3) fa_nil)))) (fun x10 => fa_nil))) (fun x11 => fa_nil))))) (s_expr (f_app 4 0 (f_call (ok_sign_of T) hG (hr.mono (by decide)) T.m_sign_of T.F_sign_of.kp T.b_sign_of tk (fa_cons (f_call (ok_turn_of T) hG (hr.mono (by decide)) T.m_turn_of T.F_turn_of.kp T.b_turn_of tk (fa_at (f_v 7) (fa_at (f_v 5) (fa_at (f_v 3) fa_nil)))) (fun x12 => fa_nil)))) (fun _u19 => (s_ret (f_not (f_and (f_cmpK (zin hr) (o_in false) (fl_cons (f_neg (fl_at f_int fl_nil)) (fun x16 => (fl_c 4 (.c 0) rfl fl_nil)))) (f_one (f_cmpK (zin hr) (o_in false) (fl_at f_int (fl_c 4 (.c 0) rfl fl_nil))))))))))))))⟩
def F_sides_in : List PyData → M PyData
  | [a0] => L.sides_in a0
  | _ => bad
theorem ok_sides_in : ZFn P w K mg base 1 T.a_sides_in T.fd_sides_in ["piece"] (VSp (lamTs K tfL) mg [.d] false F_sides_in) :=
  vfnD T.F_sides_in sc_sides_in rfl fun cdv hcd A outer s H E S Ez ps0 hG hr tk gl ds hd => match ds, hd with
    | [a0], _ => ⟨0, _, rfl, (s_asg (f_v 0) (zg_seq (zgs_cons (zg_name (i := 1) sc_sides_in.nd) (zgs_cons (zg_name (i := 2) sc_sides_in.nd) (zgs_cons (zg_name (i := 3) sc_sides_in.nd) zgs_nil)))) (go_q3 (go_name (i := 1)) (go_name (i := 2)) (go_name (i := 3))) (fun u1 => (s_ret (f_lst (fa_cons (f_tup (fa_at (f_v 1) (fa_at (f_v 2) fa_nil))) (fun x3 => (fa_cons (f_tup (fa_at (f_v 1) (fa_at (f_v 3) fa_nil))) (fun x4 => (fa_cons (f_tup (fa_at (f_v 2) (fa_at (f_v 3) fa_nil))) (fun x5 => fa_nil))))))))))⟩
def F_are_crossing : List PyData → M PyData
  | [a0, a1, a2] => L.are_crossing a0 a1 a2
  | _ => bad
theorem ok_are_crossing : ZFn P w K mg base 2 T.a_are_crossing T.fd_are_crossing ["corners", "side", "other"] (VSp (lamTs K tfL) mg [.d, .d, .d] false F_are_crossing) :=
  vfnD T.F_are_crossing sc_are_crossing rfl fun cdv hcd A outer s H E S Ez ps0 hG hr tk gl ds hd => match ds, hd with
    | [a0, a1, a2], _ => ⟨0, _, rfl, (s_asg (f_lc sc_are_crossing.nd (i_row (f_v 1)) (blkOk_by (own := [("part", 7)]) (N := N_are_crossing) (sc := defScope s_are_crossing) (by decide +kernel)) (fun _ _ _ _ _ => (zg_name (i := 7) sc_are_crossing.nd)) (go_name (i := 7)) ts_nil (fun _ _ _ _ _ t1 => (f_ix (fl_at (f_v 0) (fl_at (f_v 7) fl_nil))))) (zg_seq (zgs_cons (zg_name (i := 3) sc_are_crossing.nd) (zgs_cons (zg_name (i := 4) sc_are_crossing.nd) zgs_nil))) (go_q2 (go_name (i := 3)) (go_name (i := 4))) (fun u5 => (s_asg (f_lc sc_are_crossing.nd (i_row (f_v 2)) (blkOk_by (own := [("part", 7)]) (N := N_are_crossing) (sc := defScope s_are_crossing) (by decide +kernel)) (fun _ _ _ _ _ => (zg_name (i := 7) sc_are_crossing.nd)) (go_name (i := 7)) ts_nil (fun _ _ _ _ _ t7 => (f_ix (fl_at (f_v 0) (fl_at (f_v 7) fl_nil))))) (zg_seq (zgs_cons (zg_name (i := 5) sc_are_crossing.nd) (zgs_cons (zg_name (i := 6) sc_are_crossing.nd) zgs_nil))) (go_q2 (go_name (i := 5)) (go_name (i := 6))) (fun u11 => (s_if (t_cmp (zne hr) o_ne (fl_cons (f_mul (fl_cons (f_call (ok_sign_of T) hG (hr.mono (by decide)) T.m_sign_of T.F_sign_of.kp T.b_sign_of tk (fa_cons (f_call (ok_turn_of T) hG (hr.mono (by decide)) T.m_turn_of T.F_turn_of.kp T.b_turn_of tk (fa_at (f_v 3) (fa_at (f_v 4) (fa_at (f_v 5) fa_nil)))) (fun x13 => fa_nil))) (fun x14 => (fl_cons (f_call (ok_sign_of T) hG (hr.mono (by decide)) T.m_sign_of T.F_sign_of.kp T.b_sign_of tk (fa_cons (f_call (ok_turn_of T) hG (hr.mono (by decide)) T.m_turn_of T.F_turn_of.kp T.b_turn_of tk (fa_at (f_v 3) (fa_at (f_v 4) (fa_at (f_v 6) fa_nil)))) (fun x15 => fa_nil))) (fun x16 => fl_nil))))) (fun x17 => (fl_cons (f_neg (fl_at f_int fl_nil)) (fun x18 => fl_nil))))) (s_ret f_bl) (s_pop (s_ret (f_cmp (zeq hr) o_eq (fl_cons (f_mul (fl_cons (f_call (ok_sign_of T) hG (hr.mono (by decide)) T.m_sign_of T.F_sign_of.kp T.b_sign_of tk (fa_cons (f_call (ok_turn_of T) hG (hr.mono (by decide)) T.m_turn_of T.F_turn_of.kp T.b_turn_of tk (fa_at (f_v 5) (fa_at (f_v 6) (fa_at (f_v 3) fa_nil)))) (fun x21 => fa_nil))) (fun x22 => (fl_cons (f_call (ok_sign_of T) hG (hr.mono (by decide)) T.m_sign_of T.F_sign_of.kp T.b_sign_of tk (fa_cons (f_call (ok_turn_of T) hG (hr.mono (by decide)) T.m_turn_of T.F_turn_of.kp T.b_turn_of tk (fa_at (f_v 5) (fa_at (f_v 6) (fa_at (f_v 4) fa_nil)))) (fun x23 => fa_nil))) (fun x24 => fl_nil))))) (fun x25 => (fl_cons (f_neg (fl_at f_int fl_nil)) (fun x26 => fl_nil))))))))))))⟩
def F_are_apart : List PyData → M PyData
  | [a0, a1] => L.are_apart a0 a1
  | _ => bad
theorem ok_are_apart : ZFn P w K mg base 3 T.a_are_apart T.fd_are_apart ["corners", "pieces"] (VSp (lamTs K tfL) mg [.d, .d] false F_are_apart) :=
  vfnD T.F_are_apart sc_are_apart rfl fun cdv hcd A outer s H E S Ez ps0 hG hr tk gl ds hd => match ds, hd with
    | [a0, a1], _ => ⟨0, _, rfl, (s_for (emb1 := fun (t1 : Unit) => [some (.d a0), some (.d a1), none, none, none, none, none, none]) (passes_of rfl) (i_row (f_v 1)) (zg_name (i := 2) sc_are_apart.nd) (go_name (i := 2)) (fun u2 t1 => (s_if (t_val (f_callB zany v_any T.n_any bv_any (fa_cons (f_lc sc_are_apart.nd (i_range1 T.n_range (fa_cons (f_callB zlen v_len T.n_len bv_len (fa_at (f_v 0) fa_nil)) (fun x4 => fa_nil))) (blkOk_by (own := [("corner", 5)]) (N := N_are_apart) (sc := defScope s_are_apart) (by decide +kernel)) (fun _ _ _ _ _ => (zg_name (i := 5) sc_are_apart.nd)) (go_name (i := 5)) (ts_one (fun _ _ _ _ _ t5 => (t_cmpK (znin hr) (o_in true) (fl_at (f_v 5) (fl_at (f_v 2) fl_nil))))) (fun _ _ _ _ _ t5 => (f_call (ok_lies_in T) hG (hr.mono (by decide)) T.m_lies_in T.F_lies_in.kp T.b_lies_in tk0 (fa_at (f_v 0) (fa_at (f_v 2) (fa_at (f_v 5) fa_nil)))))) (fun x9 => fa_nil)))) (s_ret f_bl) (s_pop (s_end (Fg.of ⟨rfl, rfl, trivial⟩))))) (Fg.of ⟨rfl, rfl, trivial⟩) (fun t1 => (s_set 3 sc_are_apart.nd (f_sortSC2 hr T.n_sorted sc_are_apart.nd (i_row (f_v 1)) (blkOk_by (own := [("piece", 2), ("side", 4)]) (N := N_are_apart) (sc := defScope s_are_apart) (by decide +kernel)) (fun _ _ _ _ _ => (zg_name (i := 2) sc_are_apart.nd)) (go_name (i := 2)) ts_nil [4] (fun _ _ _ _ _ t13 => (i_row (f_call (ok_sides_in T) hG (hr.mono (by decide)) T.m_sides_in T.F_sides_in.kp T.b_sides_in tk0 (fa_at (f_v 2) fa_nil)))) (fun _ _ _ _ _ => (zg_name (i := 4) sc_are_apart.nd)) (go_name (i := 4)) (fun t13 => ts_nil) (fun _ _ _ _ _ t13 t15 => (f_v 4)) (hz := (fun _ _ _ _ _ => zts_nil))) (fun v12 => (s_ret (f_not (f_callB zany v_any T.n_any bv_any (fa_cons (f_lc2 sc_are_apart.nd (i_enum T.n_enumerate (fa_at (f_v 3) fa_nil)) (blkOk_by (own := [("at", 7), ("side", 4), ("other", 6)]) (N := N_are_apart) (sc := defScope s_are_apart) (by decide +kernel)) (fun _ _ _ _ _ => (zg_tup (zgs_cons (zg_name (i := 7) sc_are_apart.nd) (zgs_cons (zg_name (i := 4) sc_are_apart.nd) zgs_nil)))) (go_t2 (go_name (i := 7)) (go_name (i := 4))) ts_nil [6] (fun _ _ _ _ _ t18 => (i_row (f_slH (fl_at (f_v 3) (fl_at (f_v 7) fl_nil))))) (fun _ _ _ _ _ => (zg_name (i := 6) sc_are_apart.nd)) (go_name (i := 6)) (fun t18 => ts_nil) (fun _ _ _ _ _ t18 t20 => (f_call (ok_are_crossing T) hG (hr.mono (by decide)) T.m_are_crossing T.F_are_crossing.kp T.b_are_crossing tk0 (fa_at (f_v 0) (fa_at (f_v 4) (fa_at (f_v 6) fa_nil))))) (hz := (fun _ _ _ _ _ => zts_nil))) (fun x23 => fa_nil)))))))))⟩
def F_are_corners : List PyData → M PyData
  | [a0] => L.are_corners a0
  | _ => bad
theorem ok_are_corners : ZFn P w K mg base 4 T.a_are_corners T.fd_are_corners ["thing"] (VSp (lamTs K tfL) mg [.d] false F_are_corners) :=
  vfnD T.F_are_corners sc_are_corners rfl fun cdv hcd A outer s H E S Ez ps0 hG hr tk gl ds hd => match ds, hd with
    | [a0], _ => ⟨0, _, rfl, (s_if (FW.t (w_or (t_not (t_val (f_isi .tuple T.n_isinstance (pe_ty .tuple T.n_tuple) (fl_at (f_v 0) fl_nil)))) (w_or1 (t_not (t_chain (fun y1 => (leM y1 (.int 30))) zle o_le zle o_le (fl_at f_int (fl_cons (f_callB zlen v_len T.n_len bv_len (fa_at (f_v 0) fa_nil)) (fun x2 => fl_nil))) (fun y1 => (fl_at (f_of (T.g_MOST_CORNERS rfl rfl rfl)) fl_nil))))))) (s_ret f_bl) (s_pop (s_ret (f_and (f_callB zall v_all T.n_all bv_all (fa_cons (f_lc sc_are_corners.nd (i_row (f_v 0)) (blkOk_by (own := [("one", 1)]) (N := N_are_corners) (sc := defScope s_are_corners) (by decide +kernel)) (fun _ _ _ _ _ => (zg_name (i := 1) sc_are_corners.nd)) (go_name (i := 1)) ts_nil (fun _ _ _ _ _ t10 => (f_call (ok_is_corner T) hG (hr.mono (by decide)) T.m_is_corner T.F_is_corner.kp T.b_is_corner tk0 (fa_at (f_v 1) fa_nil)))) (fun x14 => fa_nil))) (f_one (f_cmp (zeq hr) o_eq (fl_cons (f_lenSet hr T.n_len T.n_set (f_v 0)) (fun x8 => (fl_cons (f_callB zlen v_len T.n_len bv_len (fa_at (f_v 0) fa_nil)) (fun x9 => fl_nil))))))))))⟩
def F_are_pieces : List PyData → M PyData
  | [a0, a1] => L.are_pieces2 a0 a1
  | _ => bad
theorem ok_are_pieces : ZFn P w K mg base 4 T.a_are_pieces T.fd_are_pieces ["corners", "thing"] (VSp (lamTs K tfL) mg [.d, .d] false F_are_pieces) :=
  vfnD T.F_are_pieces sc_are_pieces rfl fun cdv hcd A outer s H E S Ez ps0 hG hr tk gl ds hd => match ds, hd with
    | [a0, a1], _ => ⟨0, _, rfl, (s_if (FW.t (w_or (t_not (t_val (f_isi .tuple T.n_isinstance (pe_ty .tuple T.n_tuple) (fl_at (f_v 1) fl_nil)))) (w_or1 (t_not (t_chain (fun y1 => (leM y1 (.int 40))) zle o_le zle o_le (fl_at f_int (fl_cons (f_callB zlen v_len T.n_len bv_len (fa_at (f_v 1) fa_nil)) (fun x2 => fl_nil))) (fun y1 => (fl_at (f_of (T.g_MOST_PIECES rfl rfl rfl)) fl_nil))))))) (s_ret f_bl) (s_pop (s_ret (f_and (f_callB zall v_all T.n_all bv_all (fa_cons (f_lc sc_are_pieces.nd (i_row (f_v 1)) (blkOk_by (own := [("one", 2)]) (N := N_are_pieces) (sc := defScope s_are_pieces) (by decide +kernel)) (fun _ _ _ _ _ => (zg_name (i := 2) sc_are_pieces.nd)) (go_name (i := 2)) ts_nil (fun _ _ _ _ _ t6 => (f_call (ok_is_piece T) hG (hr.mono (by decide)) T.m_is_piece T.F_is_piece.kp T.b_is_piece tk0 (fa_at (f_v 0) (fa_at (f_v 2) fa_nil))))) (fun x10 => fa_nil))) (f_one (f_call (ok_rises T) hG (hr.mono (by decide)) T.m_rises T.F_rises.kp T.b_rises tk (fa_at (f_v 1) fa_nil)))))))⟩
def F_are_thicks : List PyData → M PyData
  | [a0, a1] => L.are_thicks a0 a1
  | _ => bad
theorem ok_are_thicks : ZFn P w K mg base 3 T.a_are_thicks T.fd_are_thicks ["many", "thing"] (VSp (lamTs K tfL) mg [.d, .d] false F_are_thicks) :=
  vfnD T.F_are_thicks sc_are_thicks rfl fun cdv hcd A outer s H E S Ez ps0 hG hr tk gl ds hd => match ds, hd with
    | [a0, a1], _ => ⟨0, _, rfl, (s_if (FW.t (w_or (t_not (t_val (f_isi .tuple T.n_isinstance (pe_ty .tuple T.n_tuple) (fl_at (f_v 1) fl_nil)))) (w_or1 (t_cmp (zne hr) o_ne (fl_cons (f_callB zlen v_len T.n_len bv_len (fa_at (f_v 1) fa_nil)) (fun x1 => (fl_at (f_v 0) fl_nil))))))) (s_ret f_bl) (s_pop (s_ret (f_callB zall v_all T.n_all bv_all (fa_cons (f_lc sc_are_thicks.nd (i_row (f_v 1)) (blkOk_by (own := [("one", 2)]) (N := N_are_thicks) (sc := defScope s_are_thicks) (by decide +kernel)) (fun _ _ _ _ _ => (zg_name (i := 2) sc_are_thicks.nd)) (go_name (i := 2)) ts_nil (fun _ _ _ _ _ t4 => (f_call (ok_is_within T) hG (hr.mono (by decide)) T.m_is_within T.F_is_within.kp T.b_is_within tk0 (fa_at (f_v 2) (fa_at f_int (fa_at (f_of (T.g_MOST_THICK_plates rfl rfl rfl)) fa_nil)))))) (fun x8 => fa_nil))))))⟩
def F_is_stuff : List PyData → M PyData
  | [a0] => L.is_stuff a0
  | _ => bad
theorem ok_is_stuff : ZFn P w K mg base 3 T.a_is_stuff T.fd_is_stuff ["thing"] (VSp (lamTs K tfL) mg [.d] false F_is_stuff) :=
  vfnD T.F_is_stuff sc_is_stuff rfl fun cdv hcd A outer s H E S Ez ps0 hG hr tk gl ds hd => match ds, hd with
    | [a0], _ => ⟨0, _, rfl, (s_if (FW.t (w_or (t_not (t_val (f_isi .tuple T.n_isinstance (pe_ty .tuple T.n_tuple) (fl_at (f_v 0) fl_nil)))) (w_or1 (t_cmp (zne hr) o_ne (fl_cons (f_callB zlen v_len T.n_len bv_len (fa_at (f_v 0) fa_nil)) (fun x1 => (fl_at f_int fl_nil))))))) (s_ret f_bl) (s_pop (s_ret (f_and (f_call (ok_is_within T) hG (hr.mono (by decide)) T.m_is_within T.F_is_within.kp T.b_is_within tk (fa_cons (f_ix (fl_at (f_v 0) (fl_at f_int fl_nil))) (fun x5 => (fa_at f_int (fa_at (f_of (T.g_MOST_STIFF rfl rfl rfl)) fa_nil))))) (f_one (f_call (ok_is_within T) hG (hr.mono (by decide)) T.m_is_within T.F_is_within.kp T.b_is_within tk (fa_cons (f_ix (fl_at (f_v 0) (fl_at f_int fl_nil))) (fun x4 => (fa_at f_int (fa_at (f_of (T.g_MOST_STIFF rfl rfl rfl)) fa_nil))))))))))⟩
def F_is_plate : List PyData → M PyData
  | [a0] => L.is_plate a0
  | _ => bad
theorem ok_is_plate : ZFn P w K mg base 5 T.a_is_plate T.fd_is_plate ["thing"] (VSp (lamTs K tfL) mg [.d] false F_is_plate) :=
  vfnD T.F_is_plate sc_is_plate rfl fun cdv hcd A outer s H E S Ez ps0 hG hr tk gl ds hd => match ds, hd with
    | [a0], _ => ⟨0, _, rfl, (s_if (FW.t (w_or (t_not (t_val (f_isi .tuple T.n_isinstance (pe_ty .tuple T.n_tuple) (fl_at (f_v 0) fl_nil)))) (w_or1 (t_cmp (zne hr) o_ne (fl_cons (f_callB zlen v_len T.n_len bv_len (fa_at (f_v 0) fa_nil)) (fun x1 => (fl_at f_int fl_nil))))))) (s_ret f_bl) (s_pop (s_asg (f_v 0) (zg_seq (zgs_cons (zg_name (i := 2) sc_is_plate.nd) (zgs_cons (zg_name (i := 3) sc_is_plate.nd) (zgs_cons (zg_name (i := 4) sc_is_plate.nd) (zgs_cons (zg_name (i := 5) sc_is_plate.nd) zgs_nil))))) (go_q4 (go_name (i := 2)) (go_name (i := 3)) (go_name (i := 4)) (go_name (i := 5))) (fun u4 => (s_if (FW.t (w_or (t_not (t_val (f_call (ok_are_corners T) hG (hr.mono (by decide)) T.m_are_corners T.F_are_corners.kp T.b_are_corners tk (fa_at (f_v 2) fa_nil)))) (w_or1 (t_not (t_val (f_call (ok_are_pieces T) hG (hr.mono (by decide)) T.m_are_pieces T.F_are_pieces.kp T.b_are_pieces tk (fa_at (f_v 2) (fa_at (f_v 3) fa_nil)))))))) (s_ret f_bl) (s_pop (s_if (FW.t (w_or (t_not (t_val (f_call (ok_are_thicks T) hG (hr.mono (by decide)) T.m_are_thicks T.F_are_thicks.kp T.b_are_thicks tk (fa_cons (f_callB zlen v_len T.n_len bv_len (fa_at (f_v 3) fa_nil)) (fun x8 => (fa_at (f_v 4) fa_nil)))))) (w_or1 (t_not (t_val (f_call (ok_is_stuff T) hG (hr.mono (by decide)) T.m_is_stuff T.F_is_stuff.kp T.b_is_stuff tk (fa_at (f_v 5) fa_nil))))))) (s_ret f_bl) (s_pop (s_set 1 sc_is_plate.nd (f_sortSC2 hr T.n_sorted sc_is_plate.nd (i_row (f_v 3)) (blkOk_by (own := [("piece", 6), ("corner", 7)]) (N := N_is_plate) (sc := defScope s_is_plate) (by decide +kernel)) (fun _ _ _ _ _ => (zg_name (i := 6) sc_is_plate.nd)) (go_name (i := 6)) ts_nil [7] (fun _ _ _ _ _ t12 => (i_row (f_v 6))) (fun _ _ _ _ _ => (zg_name (i := 7) sc_is_plate.nd)) (go_name (i := 7)) (fun t12 => ts_nil) (fun _ _ _ _ _ t12 t14 => (f_v 7)) (hz := (fun _ _ _ _ _ => zts_nil))) (fun v11 => (s_ret (f_and (f_cmp (zeq hr) o_eq (fl_at (f_v 1) (fl_cons (f_listRg1 T.n_list T.n_range (fl_cons (f_callB zlen v_len T.n_len bv_len (fa_at (f_v 2) fa_nil)) (fun x17 => fl_nil))) (fun x18 => fl_nil)))) (f_one (f_call (ok_are_apart T) hG (hr.mono (by decide)) T.m_are_apart T.F_are_apart.kp T.b_are_apart tk (fa_at (f_v 2) (fa_at (f_v 3) fa_nil))))))))))))))))⟩
def F_need_plate : List PyData → M PyData
  | [a0] => L.need_plate a0
  | _ => bad
theorem ok_need_plate : ZFn P w K mg base 6 T.a_need_plate T.fd_need_plate ["plate"] (VSp (lamTs K tfL) mg [.d] false F_need_plate) :=
  vfnD T.F_need_plate sc_need_plate rfl fun cdv hcd A outer s H E S Ez ps0 hG hr tk gl ds hd => match ds, hd with
    | [a0], _ => ⟨0, _, rfl, (s_if (t_not (t_val (f_call (ok_is_plate T) hG (hr.mono (by decide)) T.m_is_plate T.F_is_plate.kp T.b_is_plate tk (fa_at (f_v 0) fa_nil)))) (s_raise tk PySem.F.excBase_ValueError T.x_NoPlate T.m_NoPlate T.k_NoPlate (raises_own T.s_NoPlate T.t_NoPlate)) (s_pop s_end0))⟩
def F_need_piece : List PyData → M PyData
  | [a0, a1] => L.need_piece a0 a1
  | _ => bad
theorem ok_need_piece : ZFn P w K mg base 3 T.a_need_piece T.fd_need_piece ["plate", "thing"] (VSp (lamTs K tfL) mg [.d, .d] false F_need_piece) :=
  vfnD T.F_need_piece sc_need_piece rfl fun cdv hcd A outer s H E S Ez ps0 hG hr tk gl ds hd => match ds, hd with
    | [a0, a1], _ => ⟨0, _, rfl, (s_if (t_not (t_val (f_call (ok_is_within T) hG (hr.mono (by decide)) T.m_is_within T.F_is_within.kp T.b_is_within tk (fa_at (f_v 1) (fa_at f_int (fa_cons (f_sub (fl_cons (f_callB zlen v_len T.n_len bv_len (fa_cons (f_ix (fl_at (f_v 0) (fl_at f_int fl_nil))) (fun x1 => fa_nil))) (fun x2 => (fl_at f_int fl_nil)))) (fun x3 => fa_nil))))))) (s_raise tk PySem.F.excBase_ValueError T.x_NoPiece T.m_NoPiece T.k_NoPiece (raises_own T.s_NoPiece T.t_NoPiece)) (s_pop s_end0))⟩
def F_thickened_by : List PyData → M PyData
  | [a0, a1, a2] => L.thickened_by a0 a1 a2
  | _ => bad
theorem ok_thickened_by : ZFn P w K mg base 1 T.a_thickened_by T.fd_thickened_by ["plate", "piece", "thick"] (VSp (lamTs K tfL) mg [.d, .d, .d] false F_thickened_by) :=
  vfnD T.F_thickened_by sc_thickened_by rfl fun cdv hcd A outer s H E S Ez ps0 hG hr tk gl ds hd => match ds, hd with
    | [a0, a1, a2], _ => ⟨0, _, rfl, (s_asg (f_v 0) (zg_seq (zgs_cons (zg_name (i := 3) sc_thickened_by.nd) (zgs_cons (zg_name (i := 4) sc_thickened_by.nd) (zgs_cons (zg_name (i := 5) sc_thickened_by.nd) (zgs_cons (zg_name (i := 6) sc_thickened_by.nd) zgs_nil))))) (go_q4 (go_name (i := 3)) (go_name (i := 4)) (go_name (i := 5)) (go_name (i := 6))) (fun u1 => (s_ret (f_tup (fa_at (f_v 3) (fa_at (f_v 4) (fa_cons (f_add (fl_cons (f_add (fl_cons (f_slH (fl_at (f_v 5) (fl_at (f_v 1) fl_nil))) (fun x3 => (fl_cons (f_tup (fa_at (f_v 2) fa_nil)) (fun x4 => fl_nil))))) (fun x5 => (fl_cons (f_slL (fl_at (f_v 5) (fl_cons (f_add (fl_at (f_v 1) (fl_at f_int fl_nil))) (fun x6 => fl_nil)))) (fun x7 => fl_nil))))) (fun x8 => (fa_at (f_v 6) fa_nil)))))))))⟩
def F_need_thick : List PyData → M PyData
  | [a0] => L.need_thick a0
  | _ => bad
theorem ok_need_thick : ZFn P w K mg base 3 T.a_need_thick T.fd_need_thick ["thing"] (VSp (lamTs K tfL) mg [.d] false F_need_thick) :=
  vfnD T.F_need_thick sc_need_thick rfl fun cdv hcd A outer s H E S Ez ps0 hG hr tk gl ds hd => match ds, hd with
    | [a0], _ => ⟨0, _, rfl, (s_if (t_not (t_val (f_call (ok_is_within T) hG (hr.mono (by decide)) T.m_is_within T.F_is_within.kp T.b_is_within tk (fa_at (f_v 0) (fa_at f_int (fa_at (f_of (T.g_MOST_THICK_sums rfl rfl rfl)) fa_nil)))))) (s_raise tk PySem.F.excBase_ValueError T.x_NoThick T.m_NoThick T.k_NoThick (raises_own T.s_NoThick T.t_NoThick)) (s_pop s_end0))⟩
def F_thickened : List PyData → M PyData
  | [a0, a1, a2] => L.thickened a0 a1 a2
  | _ => bad
theorem ok_thickened : ZFn P w K mg base 7 T.a_thickened T.fd_thickened ["plate", "piece", "thick"] (VSp (lamTs K tfL) mg [.d, .d, .d] false F_thickened) :=
  vfnD T.F_thickened sc_thickened rfl fun cdv hcd A outer s H E S Ez ps0 hG hr tk gl ds hd => match ds, hd with
    | [a0, a1, a2], _ => ⟨0, _, rfl, (s_expr (f_call (ok_need_plate T) hG (hr.mono (by decide)) T.m_need_plate T.F_need_plate.kp T.b_need_plate tk (fa_at (f_v 0) fa_nil)) (fun _u4 => (s_expr (f_call (ok_need_piece T) hG (hr.mono (by decide)) T.m_need_piece T.F_need_piece.kp T.b_need_piece tk (fa_at (f_v 0) (fa_at (f_v 1) fa_nil))) (fun _u3 => (s_expr (f_call (ok_need_thick T) hG (hr.mono (by decide)) T.m_need_thick T.F_need_thick.kp T.b_need_thick tk (fa_at (f_v 2) fa_nil)) (fun _u2 => (s_ret (f_call (ok_thickened_by T) hG (hr.mono (by decide)) T.m_thickened_by T.F_thickened_by.kp T.b_thickened_by tk (fa_at (f_v 0) (fa_at (f_v 1) (fa_at (f_v 2) fa_nil)))))))))))⟩
def F__law_cell_at : List PyData → M PyData
  | [a0, a1] => L.law_cell_at a0 a1
  | _ => bad
theorem ok__law_cell_at : ZFn P w K mg base 1 T.a__law_cell_at T.fd__law_cell_at ["_law_script", "_law_k"] (VSp (lamTs K tfL) mg [.k, .d] false F__law_cell_at) :=
  vfnD T.F__law_cell_at sc__law_cell_at rfl fun cdv hcd A outer s H E S Ez ps0 hG hr tk gl ds hd => match ds, hd with
    | [a0, a1], _ => ⟨0, _, rfl, (s_if (t_cmp zlt o_lt (fl_at (f_v 1) (fl_cons (f_callB zlen v_len T.n_len bv_len (fa_c 0 (.k (unl a0)) fa_nil)) (fun x1 => fl_nil)))) (s_ret (f_ix (fl_c 0 (.k (unl a0)) rfl (fl_at (f_v 1) fl_nil)))) (s_pop (s_ret f_int)))⟩
def F__law_state : List PyData → M PyData
  | [a0, a1] => L.law_state a0 a1
  | _ => bad
theorem ok__law_state : ZFn P w K mg base 2 T.a__law_state T.fd__law_state ["_law_script", "_law_k"] (VSp (lamTs K tfL) mg [.k, .d] true F__law_state) :=
  vfnD T.F__law_state sc__law_state rfl fun cdv hcd A outer s H E S Ez ps0 hG hr tk gl ds hd => match ds, hd with
    | [a0, a1], _ => ⟨0, _, rfl, (s_set 2 sc__law_state.nd (f_call (ok__law_cell_at T) hG (hr.mono (by decide)) T.m__law_cell_at T.F__law_cell_at.kp T.b__law_cell_at tk (fa_c 0 (.k (unl a0)) (fa_at (f_v 1) fa_nil))) (fun v1 => (s_retL (n_lst (fa_cons (f_callB zmax v_max T.n_max bv_max (fa_at f_int (fa_cons (f_sub (fl_at (f_v 2) (fl_cons (f_pow (fl_at f_int (fl_at f_int fl_nil))) (fun x2 => fl_nil)))) (fun x3 => fa_nil)))) (fun x4 => (fa_cons (f_add (fl_cons (f_mod (fl_at (f_v 2) (fl_at f_int fl_nil))) (fun x5 => (fl_at f_int fl_nil)))) (fun x6 => (fa_at f_int fa_nil)))))))))⟩
def F__law_choice : List PyData → M PyData
  | [a0] => L.law_choice a0
  | _ => bad
theorem ok__law_choice : ZFn P w K mg base 1 T.a__law_choice T.fd__law_choice ["_law_state_here", "_law_many"] (VSp (lamTs K tfL) mg [.c, .d] false F__law_choice) :=
  vfnD T.F__law_choice sc__law_choice rfl fun cdv hcd A outer s H E S Ez ps0 hG hr tk gl ds hd => match ds, hd with
    | [a0], _ => ⟨0, _, rfl, (s_if (t_cmp zgt o_gt (fl_cons (f_ix (fl_c 0 (.c 0) rfl (fl_at f_int fl_nil))) (fun x2 => (fl_at f_int fl_nil)))) (s_set 3 sc__law_choice.nd (f_mod (fl_cons (f_ix (fl_c 0 (.c 0) rfl (fl_at f_int fl_nil))) (fun x6 => (fl_at (f_v 1) fl_nil)))) (fun v4 => (s_sub 0 0 (f_fdiv (fl_cons (f_ix (fl_c 0 (.c 0) rfl (fl_at f_int fl_nil))) (fun x8 => (fl_at (f_v 1) fl_nil)))) f_int (s_ret (f_v 3))))) (s_pop (s_sub 0 0 (f_add (fl_cons (f_ix (fl_c 0 (.c 0) rfl (fl_at f_int fl_nil))) (fun x13 => (fl_at f_int fl_nil)))) f_int (s_sub 0 0 (f_mod (fl_cons (f_add (fl_cons (f_add (fl_cons (f_mul (fl_cons (f_ix (fl_c 0 (.c 0) rfl (fl_at f_int fl_nil))) (fun x15 => (fl_at f_int fl_nil)))) (fun x16 => (fl_at f_int fl_nil)))) (fun x17 => (fl_cons (f_ix (fl_c 0 (.c 0) rfl (fl_at f_int fl_nil))) (fun x19 => fl_nil))))) (fun x20 => (fl_at f_int fl_nil)))) f_int (s_set 2 sc__law_choice.nd (f_mod (fl_cons (f_add (fl_cons (f_add (fl_cons (f_mul (fl_cons (f_ix (fl_c 0 (.c 0) rfl (fl_at f_int fl_nil))) (fun x23 => (fl_cons (f_ix (fl_c 0 (.c 0) rfl (fl_at f_int fl_nil))) (fun x25 => fl_nil))))) (fun x26 => (fl_cons (f_mul (fl_at f_int (fl_cons (f_ix (fl_c 0 (.c 0) rfl (fl_at f_int fl_nil))) (fun x28 => fl_nil)))) (fun x29 => fl_nil))))) (fun x30 => (fl_at f_int fl_nil)))) (fun x31 => (fl_at f_int fl_nil)))) (fun v21 => (s_set 2 sc__law_choice.nd (f_mod (fl_cons (f_add (fl_cons (f_mul (fl_at (f_v 2) (fl_at (f_v 2) fl_nil))) (fun x33 => (fl_cons (f_mul (fl_at f_int (fl_at (f_v 2) fl_nil))) (fun x34 => fl_nil))))) (fun x35 => (fl_at f_int fl_nil)))) (fun v32 => (s_ret (f_mod (fl_cons (f_fdiv (fl_at (f_v 2) (fl_at f_int fl_nil))) (fun x36 => (fl_at (f_v 1) fl_nil)))))))))))))⟩
def F__law_order : List PyData → M PyData
  | [a0] => L.law_order a0
  | _ => bad
theorem ok__law_order : ZFn P w K mg base 2 T.a__law_order T.fd__law_order ["_law_state_here", "_law_many"] (VSp (lamTs K tfL) mg [.c, .d] false F__law_order) :=
  vfnD T.F__law_order sc__law_order rfl fun cdv hcd A outer s H E S Ez ps0 hG hr tk gl ds hd => match ds, hd with
    | [a0], _ => ⟨2, _, rfl, (s_parCC (i := 2) (j := 3) (by rw [gl]; decide) (by rw [gl]; decide) sc__law_order.nd (n_listRg1 T.n_list T.n_range (fl_at (f_v 1) fl_nil)) (n_lst fa_nil) (s_while (emb1 := fun (t1 : Unit) => [some (.c 0), some (.d a0), some (.c 1), some (.c 2)]) (passes_of rfl) (fun t1 => (t_cmpK (zneR hr) (o_eqK true) (fl_c 2 (.c 1) rfl (fl_cons (f_lst fa_nil) (fun x2 => fl_nil))))) (fun t1 => (s_expr (f_app 3 2 (f_pop 2 1 (f_call (ok__law_choice T) hG (hr.mono (by decide)) T.m__law_choice T.F__law_choice.kp T.b__law_choice tk (fa_c 0 (.c 0) (fa_cons (f_callB zlen v_len T.n_len bv_len (fa_c 2 (.c 1) fa_nil)) (fun x5 => fa_nil)))))) (fun _u9 => (s_end (Fg.of ⟨rfl, rfl, rfl, rfl, trivial⟩))))) (Fg.of ⟨rfl, rfl, rfl, rfl, trivial⟩) (fun t1 => (s_lock 3 2 (by rw [gl]; decide) (fun xs10 => (s_ret (f_v 3)))))))⟩
def F__law_shapes : List PyData → M PyData
  | [] => L.law_shapes
  | _ => bad
theorem ok__law_shapes : ZFn P w K mg base 1 T.a__law_shapes T.fd__law_shapes [] (VSp (lamTs K tfL) mg [] false F__law_shapes) :=
  vfnD T.F__law_shapes sc__law_shapes rfl fun cdv hcd A outer s H E S Ez ps0 hG hr tk gl ds hd => match ds, hd with
    | [], _ => ⟨0, _, rfl, (s_set 0 sc__law_shapes.nd (f_tup (fa_cons (f_tup (fa_cons (f_tup (fa_at f_int (fa_at f_int fa_nil))) (fun x2 => (fa_cons (f_tup (fa_at f_int (fa_at f_int fa_nil))) (fun x3 => (fa_cons (f_tup (fa_at f_int (fa_at f_int fa_nil))) (fun x4 => fa_nil))))))) (fun x5 => (fa_cons (f_tup (fa_cons (f_tup (fa_at f_int (fa_at f_int (fa_at f_int fa_nil)))) (fun x6 => fa_nil))) (fun x7 => fa_nil))))) (fun v1 => (s_set 1 sc__law_shapes.nd (f_tup (fa_cons (f_tup (fa_cons (f_tup (fa_at f_int (fa_at f_int fa_nil))) (fun x9 => (fa_cons (f_tup (fa_at f_int (fa_at f_int fa_nil))) (fun x10 => (fa_cons (f_tup (fa_at f_int (fa_at f_int fa_nil))) (fun x11 => (fa_cons (f_tup (fa_at f_int (fa_at f_int fa_nil))) (fun x12 => fa_nil))))))))) (fun x13 => (fa_cons (f_tup (fa_cons (f_tup (fa_at f_int (fa_at f_int (fa_at f_int fa_nil)))) (fun x14 => (fa_cons (f_tup (fa_at f_int (fa_at f_int (fa_at f_int fa_nil)))) (fun x15 => fa_nil))))) (fun x16 => fa_nil))))) (fun v8 => (s_set 2 sc__law_shapes.nd (f_tup (fa_cons (f_tup (fa_cons (f_tup (fa_at f_int (fa_at f_int fa_nil))) (fun x18 => (fa_cons (f_tup (fa_at f_int (fa_at f_int fa_nil))) (fun x19 => (fa_cons (f_tup (fa_at f_int (fa_at f_int fa_nil))) (fun x20 => (fa_cons (f_tup (fa_at f_int (fa_at f_int fa_nil))) (fun x21 => fa_nil))))))))) (fun x22 => (fa_cons (f_tup (fa_cons (f_tup (fa_at f_int (fa_at f_int (fa_at f_int fa_nil)))) (fun x23 => (fa_cons (f_tup (fa_at f_int (fa_at f_int (fa_at f_int fa_nil)))) (fun x24 => (fa_cons (f_tup (fa_at f_int (fa_at f_int (fa_at f_int fa_nil)))) (fun x25 => fa_nil))))))) (fun x26 => fa_nil))))) (fun v17 => (s_set 3 sc__law_shapes.nd (f_tup (fa_cons (f_tup (fa_cons (f_tup (fa_at f_int (fa_at f_int fa_nil))) (fun x28 => (fa_cons (f_tup (fa_at f_int (fa_at f_int fa_nil))) (fun x29 => (fa_cons (f_tup (fa_at f_int (fa_cons (f_neg (fl_at f_int fl_nil)) (fun x30 => fa_nil)))) (fun x31 => (fa_cons (f_tup (fa_cons (f_neg (fl_at f_int fl_nil)) (fun x32 => (fa_at f_int fa_nil)))) (fun x33 => (fa_cons (f_tup (fa_cons (f_neg (fl_at f_int fl_nil)) (fun x34 => (fa_cons (f_neg (fl_at f_int fl_nil)) (fun x35 => fa_nil))))) (fun x36 => fa_nil))))))))))) (fun x37 => (fa_cons (f_tup (fa_cons (f_tup (fa_at f_int (fa_at f_int (fa_at f_int fa_nil)))) (fun x38 => (fa_cons (f_tup (fa_at f_int (fa_at f_int (fa_at f_int fa_nil)))) (fun x39 => fa_nil))))) (fun x40 => fa_nil))))) (fun v27 => (s_set 4 sc__law_shapes.nd (f_tup (fa_cons (f_tup (fa_cons (f_tup (fa_at f_int (fa_at f_int fa_nil))) (fun x42 => (fa_cons (f_tup (fa_at f_int (fa_at f_int fa_nil))) (fun x43 => (fa_cons (f_tup (fa_at f_int (fa_at f_int fa_nil))) (fun x44 => (fa_cons (f_tup (fa_at f_int (fa_at f_int fa_nil))) (fun x45 => (fa_cons (f_tup (fa_at f_int (fa_at f_int fa_nil))) (fun x46 => (fa_cons (f_tup (fa_at f_int (fa_at f_int fa_nil))) (fun x47 => fa_nil))))))))))))) (fun x48 => (fa_cons (f_tup (fa_cons (f_tup (fa_at f_int (fa_at f_int (fa_at f_int fa_nil)))) (fun x49 => (fa_cons (f_tup (fa_at f_int (fa_at f_int (fa_at f_int fa_nil)))) (fun x50 => fa_nil))))) (fun x51 => fa_nil))))) (fun v41 => (s_set 5 sc__law_shapes.nd (f_tup (fa_cons (f_tup (fa_cons (f_tup (fa_at f_int (fa_at f_int fa_nil))) (fun x53 => (fa_cons (f_tup (fa_at f_int (fa_at f_int fa_nil))) (fun x54 => (fa_cons (f_tup (fa_at f_int (fa_at f_int fa_nil))) (fun x55 => (fa_cons (f_tup (fa_at f_int (fa_at f_int fa_nil))) (fun x56 => (fa_cons (f_tup (fa_at f_int (fa_at f_int fa_nil))) (fun x57 => fa_nil))))))))))) (fun x58 => (fa_cons (f_tup (fa_cons (f_tup (fa_at f_int (fa_at f_int (fa_at f_int fa_nil)))) (fun x59 => (fa_cons (f_tup (fa_at f_int (fa_at f_int (fa_at f_int fa_nil)))) (fun x60 => (fa_cons (f_tup (fa_at f_int (fa_at f_int (fa_at f_int fa_nil)))) (fun x61 => fa_nil))))))) (fun x62 => fa_nil))))) (fun v52 => (s_set 6 sc__law_shapes.nd (f_tup (fa_cons (f_tup (fa_cons (f_tup (fa_at f_int (fa_at f_int fa_nil))) (fun x64 => (fa_cons (f_tup (fa_at f_int (fa_at f_int fa_nil))) (fun x65 => (fa_cons (f_tup (fa_at f_int (fa_at f_int fa_nil))) (fun x66 => (fa_cons (f_tup (fa_cons (f_neg (fl_at f_int fl_nil)) (fun x67 => (fa_at f_int fa_nil)))) (fun x68 => (fa_cons (f_tup (fa_at f_int (fa_cons (f_neg (fl_at f_int fl_nil)) (fun x69 => fa_nil)))) (fun x70 => fa_nil))))))))))) (fun x71 => (fa_cons (f_tup (fa_cons (f_tup (fa_at f_int (fa_at f_int (fa_at f_int fa_nil)))) (fun x72 => (fa_cons (f_tup (fa_at f_int (fa_at f_int (fa_at f_int fa_nil)))) (fun x73 => (fa_cons (f_tup (fa_at f_int (fa_at f_int (fa_at f_int fa_nil)))) (fun x74 => (fa_cons (f_tup (fa_at f_int (fa_at f_int (fa_at f_int fa_nil)))) (fun x75 => fa_nil))))))))) (fun x76 => fa_nil))))) (fun v63 => (s_set 7 sc__law_shapes.nd (f_tup (fa_cons (f_tup (fa_cons (f_tup (fa_at f_int (fa_at f_int fa_nil))) (fun x78 => (fa_cons (f_tup (fa_at f_int (fa_at f_int fa_nil))) (fun x79 => (fa_cons (f_tup (fa_at f_int (fa_at f_int fa_nil))) (fun x80 => (fa_cons (f_tup (fa_at f_int (fa_at f_int fa_nil))) (fun x81 => (fa_cons (f_tup (fa_at f_int (fa_at f_int fa_nil))) (fun x82 => (fa_cons (f_tup (fa_at f_int (fa_at f_int fa_nil))) (fun x83 => fa_nil))))))))))))) (fun x84 => (fa_cons (f_tup (fa_cons (f_tup (fa_at f_int (fa_at f_int (fa_at f_int fa_nil)))) (fun x85 => (fa_cons (f_tup (fa_at f_int (fa_at f_int (fa_at f_int fa_nil)))) (fun x86 => (fa_cons (f_tup (fa_at f_int (fa_at f_int (fa_at f_int fa_nil)))) (fun x87 => fa_nil))))))) (fun x88 => fa_nil))))) (fun v77 => (s_ret (f_lst (fa_at (f_v 0) (fa_at (f_v 1) (fa_at (f_v 3) (fa_at (f_v 4) (fa_at (f_v 2) (fa_at (f_v 5) (fa_at (f_v 7) (fa_at (f_v 6) fa_nil))))))))))))))))))))))))))⟩
def F__law_plate : List PyData → M PyData
  | [a0] => L.law_plate a0
  | _ => bad
theorem ok__law_plate : ZFn P w K mg base 3 T.a__law_plate T.fd__law_plate ["_law_state_here", "_law_most"] (VSp (lamTs K tfL) mg [.c, .d] false F__law_plate) :=
  vfnD T.F__law_plate sc__law_plate rfl fun cdv hcd A outer s H E S Ez ps0 hG hr tk gl ds hd => match ds, hd with
    | [a0], _ => ⟨1, _, rfl, (s_asg (f_ix (fl_cons (f_callK0 (dv := []) (ok__law_shapes T) hG (hr.mono (by decide)) T.m__law_shapes T.F__law_shapes.kp T.bk__law_shapes_0 tk kw_nil) (fun x1 => (fl_cons (f_call (ok__law_choice T) hG (hr.mono (by decide)) T.m__law_choice T.F__law_choice.kp T.b__law_choice tk (fa_c 0 (.c 0) (fa_at (f_v 1) fa_nil))) (fun x2 => fl_nil))))) (zg_seq (zgs_cons (zg_name (i := 6) sc__law_plate.nd) (zgs_cons (zg_name (i := 7) sc__law_plate.nd) zgs_nil))) (go_q2 (go_name (i := 6)) (go_name (i := 7))) (fun u3 => (s_par3 (i := 8) (j := 9) (l := 10) sc__law_plate.nd (fa_cons (f_add (fl_at f_int (fl_cons (f_call (ok__law_choice T) hG (hr.mono (by decide)) T.m__law_choice T.F__law_choice.kp T.b__law_choice tk (fa_c 0 (.c 0) (fa_at f_int fa_nil))) (fun x6 => fl_nil)))) (fun x7 => (fa_cons (f_sub (fl_cons (f_call (ok__law_choice T) hG (hr.mono (by decide)) T.m__law_choice T.F__law_choice.kp T.b__law_choice tk (fa_c 0 (.c 0) (fa_at f_int fa_nil))) (fun x8 => (fl_at f_int fl_nil)))) (fun x9 => (fa_cons (f_sub (fl_cons (f_call (ok__law_choice T) hG (hr.mono (by decide)) T.m__law_choice T.F__law_choice.kp T.b__law_choice tk (fa_c 0 (.c 0) (fa_at f_int fa_nil))) (fun x10 => (fl_at f_int fl_nil)))) (fun x11 => fa_nil)))))) (fun u5 => (s_par3 (i := 11) (j := 12) (l := 13) sc__law_plate.nd (fa_cons (f_sub (fl_cons (f_call (ok__law_choice T) hG (hr.mono (by decide)) T.m__law_choice T.F__law_choice.kp T.b__law_choice tk (fa_c 0 (.c 0) (fa_at f_int fa_nil))) (fun x13 => (fl_at f_int fl_nil)))) (fun x14 => (fa_cons (f_sub (fl_cons (f_call (ok__law_choice T) hG (hr.mono (by decide)) T.m__law_choice T.F__law_choice.kp T.b__law_choice tk (fa_c 0 (.c 0) (fa_at f_int fa_nil))) (fun x15 => (fl_at f_int fl_nil)))) (fun x16 => (fa_cons (f_sub (fl_cons (f_call (ok__law_choice T) hG (hr.mono (by decide)) T.m__law_choice T.F__law_choice.kp T.b__law_choice tk (fa_c 0 (.c 0) (fa_at f_int fa_nil))) (fun x17 => (fl_at f_int fl_nil)))) (fun x18 => fa_nil)))))) (fun u12 => (s_join (emb1 := fun (t22 : PyData × PyData × PyData × PyData) => [some (.c 0), some (.d a0), none, none, none, none, some (.d u3.1), some (.d u3.2), some (.d t22.1), some (.d t22.2.1), some (.d t22.2.2.1), some (.d t22.2.2.2), some (.d u12.2.1), some (.d u12.2.2), none, none, none, none, none]) (t_cmp (zeq hr) o_eq (fl_cons (f_mul (fl_at (f_v 8) (fl_at (f_v 11) fl_nil))) (fun x19 => (fl_cons (f_mul (fl_at (f_v 9) (fl_at (f_v 10) fl_nil))) (fun x20 => fl_nil))))) (s_asg (f_tup (fa_at f_int (fa_at (f_v 9) (fa_at f_int (fa_at f_int fa_nil))))) (zg_seq (zgs_cons (zg_name (i := 8) sc__law_plate.nd) (zgs_cons (zg_name (i := 9) sc__law_plate.nd) (zgs_cons (zg_name (i := 10) sc__law_plate.nd) (zgs_cons (zg_name (i := 11) sc__law_plate.nd) zgs_nil))))) (go_q4 (go_name (i := 8)) (go_name (i := 9)) (go_name (i := 10)) (go_name (i := 11))) (fun u23 => (s_end (Fg.of ⟨rfl, rfl, rfl, rfl, rfl, rfl, rfl, rfl, rfl, rfl, trivial⟩)))) (s_end (Fg.of ⟨rfl, rfl, rfl, rfl, rfl, rfl, rfl, rfl, rfl, rfl, trivial⟩)) (fun t22 => (s_set 2 sc__law_plate.nd (f_call (ok__law_order T) hG (hr.mono (by decide)) T.m__law_order T.F__law_order.kp T.b__law_order tk (fa_c 0 (.c 0) (fa_cons (f_callB zlen v_len T.n_len bv_len (fa_at (f_v 6) fa_nil)) (fun x26 => fa_nil)))) (fun v25 => (s_setC 3 1 (by rw [gl]; decide) sc__law_plate.nd (n_rep (fl_cons (f_lst (fa_cons (f_tup (fa_at f_int (fa_at f_int fa_nil))) (fun x27 => fa_nil))) (fun x28 => (fl_cons (f_callB zlen v_len T.n_len bv_len (fa_at (f_v 6) fa_nil)) (fun x29 => fl_nil))))) (s_for (emb1 := fun (t30 : Unit) => [some (.c 0), some (.d a0), some (.d v25), some (.c 1), none, none, some (.d u3.1), some (.d u3.2), some (.d t22.1), some (.d t22.2.1), some (.d t22.2.2.1), some (.d t22.2.2.2), some (.d u12.2.1), some (.d u12.2.2), none, none, none, none, none]) (passes_of rfl) (i_enum T.n_enumerate (fa_at (f_v 6) fa_nil)) (zg_tup (zgs_cons (zg_name (i := 14) sc__law_plate.nd) (zgs_cons (zg_tup (zgs_cons (zg_name (i := 15) sc__law_plate.nd) (zgs_cons (zg_name (i := 16) sc__law_plate.nd) zgs_nil))) zgs_nil))) (go_t2 (go_name (i := 14)) (go_t2 (go_name (i := 15)) (go_name (i := 16)))) (fun u31 t30 => (s_sub 3 1 (f_tup (fa_cons (f_add (fl_cons (f_add (fl_cons (f_mul (fl_at (f_v 8) (fl_at (f_v 15) fl_nil))) (fun x33 => (fl_cons (f_mul (fl_at (f_v 9) (fl_at (f_v 16) fl_nil))) (fun x34 => fl_nil))))) (fun x35 => (fl_at (f_v 12) fl_nil)))) (fun x36 => (fa_cons (f_add (fl_cons (f_add (fl_cons (f_mul (fl_at (f_v 10) (fl_at (f_v 15) fl_nil))) (fun x37 => (fl_cons (f_mul (fl_at (f_v 11) (fl_at (f_v 16) fl_nil))) (fun x38 => fl_nil))))) (fun x39 => (fl_at (f_v 13) fl_nil)))) (fun x40 => fa_nil))))) (f_ix (fl_at (f_v 2) (fl_at (f_v 14) fl_nil))) (s_end (Fg.of ⟨rfl, rfl, rfl, rfl, rfl, rfl, rfl, rfl, rfl, rfl, rfl, rfl, trivial⟩)))) (Fg.of ⟨rfl, rfl, rfl, rfl, rfl, rfl, rfl, rfl, rfl, rfl, rfl, rfl, trivial⟩) (fun t30 => (s_set 4 sc__law_plate.nd (f_callB zsort v_sorted T.n_sorted bv_sorted (fa_cons (f_lc sc__law_plate.nd (i_row (f_v 7)) (blkOk_by (own := [("_law_piece", 17)]) (N := N__law_plate) (sc := defScope s__law_plate) (by decide +kernel)) (fun _ _ _ _ _ => (zg_name (i := 17) sc__law_plate.nd)) (go_name (i := 17)) ts_nil (fun _ _ _ _ _ t44 => (f_callT ztuple v_tuple T.n_tuple bv_tuple (fa_cons (f_callB zsort v_sorted T.n_sorted bv_sorted (fa_cons (f_lc sc__law_plate.nd (i_row (f_v 17)) (blkOk_by (own := [("_law_at", 14)]) (by first | decide +kernel | rfl)) (fun _ _ _ _ _ => (zg_name (i := 14) sc__law_plate.nd)) (go_name (i := 14)) ts_nil (fun _ _ _ _ _ t46 => (f_ix (fl_at (f_v 2) (fl_at (f_v 14) fl_nil))))) (fun x50 => fa_nil))) (fun x51 => fa_nil))))) (fun x54 => fa_nil))) (fun v43 => (s_set 5 sc__law_plate.nd (f_callT ztuple v_tuple T.n_tuple bv_tuple (fa_cons (f_lc sc__law_plate.nd (i_row (f_v 4)) (blkOk_by (own := [("_law_row", 18)]) (N := N__law_plate) (sc := defScope s__law_plate) (by decide +kernel)) (fun _ _ _ _ _ => (zg_name (i := 18) sc__law_plate.nd)) (go_name (i := 18)) ts_nil (fun _ _ _ _ _ t56 => (f_add (fl_at f_int (fl_cons (f_call (ok__law_choice T) hG (hr.mono (by decide)) T.m__law_choice T.F__law_choice.kp T.b__law_choice tk0 (fa_c 0 (.c 0) (fa_cons (f_ix (fl_cons (f_lst (fa_at f_int (fa_at f_int fa_nil))) (fun x58 => (fl_cons (f_call (ok__law_choice T) hG (hr.mono (by decide)) T.m__law_choice T.F__law_choice.kp T.b__law_choice tk0 (fa_c 0 (.c 0) (fa_at f_int fa_nil))) (fun x59 => fl_nil))))) (fun x60 => fa_nil)))) (fun x61 => fl_nil)))))) (fun x64 => fa_nil))) (fun v55 => (s_ret (f_tup (fa_cons (f_callT ztuple v_tuple T.n_tuple bv_tuple (fa_c 3 (.c 1) fa_nil)) (fun x66 => (fa_cons (f_callT ztuple v_tuple T.n_tuple bv_tuple (fa_at (f_v 4) fa_nil)) (fun x67 => (fa_at (f_v 5) (fa_cons (f_tup (fa_cons (f_call (ok__law_choice T) hG (hr.mono (by decide)) T.m__law_choice T.F__law_choice.kp T.b__law_choice tk (fa_c 0 (.c 0) (fa_at f_int fa_nil))) (fun x68 => (fa_cons (f_add (fl_at f_int (fl_cons (f_call (ok__law_choice T) hG (hr.mono (by decide)) T.m__law_choice T.F__law_choice.kp T.b__law_choice tk (fa_c 0 (.c 0) (fa_at f_int fa_nil))) (fun x69 => fl_nil)))) (fun x70 => fa_nil))))) (fun x71 => fa_nil))))))))))))))))))))))))))⟩
def F__law_same : List PyData → M PyData
  | [a0, a1] => L.law_same a0 a1
  | _ => bad
theorem ok__law_same : ZFn P w K mg base 1 T.a__law_same T.fd__law_same ["_law_found", "_law_due"] (VSp (lamTs K tfL) mg [.d, .d] false F__law_same) :=
  vfnD T.F__law_same sc__law_same rfl fun cdv hcd A outer s H E S Ez ps0 hG hr tk gl ds hd => match ds, hd with
    | [a0, a1], _ => ⟨0, _, rfl, (s_ret (f_cmp (zeq hr) o_eq (fl_cons (f_callB (zrepr hr hG.1) v_repr T.n_repr bv_repr (fa_at (f_v 0) fa_nil)) (fun x1 => (fl_cons (f_callB (zrepr hr hG.1) v_repr T.n_repr bv_repr (fa_at (f_v 1) fa_nil)) (fun x2 => fl_nil))))))⟩
def F__law_odd : List PyData → M PyData
  | [] => L.law_odd
  | _ => bad
theorem ok__law_odd : ZFn P w K mg base 2 T.a__law_odd T.fd__law_odd ["_law_state_here"] (VSp (lamTs K tfL) mg [.c] false F__law_odd) :=
  vfnD T.F__law_odd sc__law_odd rfl fun cdv hcd A outer s H E S Ez ps0 hG hr tk gl ds hd => match ds, hd with
    | [], _ => ⟨0, _, rfl, (s_set 1 sc__law_odd.nd (f_lst (fa_at f_non (fa_at f_bl (fa_at f_bl (fa_at f_int (fa_at f_int (fa_cons (f_neg (fl_at f_int fl_nil)) (fun x2 => (fa_cons (f_pow (fl_at f_int (fl_at f_int fl_nil))) (fun x3 => (fa_at f_str (fa_at f_str (fa_cons (f_tup fa_nil) (fun x4 => (fa_cons (f_lst fa_nil) (fun x5 => (fa_cons f_dict0 (fun x6 => (fa_cons (f_tup (fa_at f_int (fa_at f_int fa_nil))) (fun x7 => (fa_cons (f_tup (fa_at f_int (fa_at f_int fa_nil))) (fun x8 => (fa_cons (f_lst (fa_at f_int (fa_at f_int fa_nil))) (fun x9 => fa_nil)))))))))))))))))))))))) (fun v1 => (s_ret (f_ix (fl_cons (f_add (fl_at (f_v 1) (fl_cons (f_lst (fa_cons (f_tup (fa_cons (f_tup (fa_at f_int (fa_at f_int fa_nil))) (fun x10 => fa_nil))) (fun x11 => (fa_cons (f_tup (fa_at f_int (fa_at f_int fa_nil))) (fun x12 => (fa_cons (f_tup (fa_at f_int (fa_at f_int fa_nil))) (fun x13 => (fa_cons (f_tup (fa_at f_int (fa_at f_int fa_nil))) (fun x14 => (fa_cons (f_tup (fa_at f_bl (fa_at f_int fa_nil))) (fun x15 => fa_nil))))))))))) (fun x16 => fl_nil)))) (fun x17 => (fl_cons (f_call (ok__law_choice T) hG (hr.mono (by decide)) T.m__law_choice T.F__law_choice.kp T.b__law_choice tk (fa_c 0 (.c 0) (fa_at f_int fa_nil))) (fun x18 => fl_nil))))))))⟩
theorem okx__law_kind : FnX P w K mg base 1 T.a__law_kind T.fd__law_kind "_law_e" exNames L.law_kind :=
  vfnX T.F__law_kind sc__law_kind fun cdv A outer s H p n S hr hn hx =>
    have gl : ([] : List Addr).length = 0 := rfl
    ⟨0, _, rfl, (s_set 1 sc__law_kind.nd (f_lst (fa_cons (f_isX 0 T.xt hx hn T.n_isinstance T.m_NoWhole) (fun x2 => (fa_cons (f_isX 0 T.xt hx hn T.n_isinstance T.m_NoFraction) (fun x3 => (fa_cons (f_isX 0 T.xt hx hn T.n_isinstance T.m_NoRows) (fun x4 => (fa_cons (f_isX 0 T.xt hx hn T.n_isinstance T.m_NoPlate) (fun x5 => fa_nil))))))))) (fun v1 => (s_set 1 sc__law_kind.nd (f_add (fl_at (f_v 1) (fl_cons (f_lst (fa_cons (f_isX 0 T.xt hx hn T.n_isinstance T.m_NoMotions) (fun x7 => (fa_cons (f_isX 0 T.xt hx hn T.n_isinstance T.m_NoLoads) (fun x8 => (fa_cons (f_isX 0 T.xt hx hn T.n_isinstance T.m_NoHolding) (fun x9 => fa_nil))))))) (fun x10 => fl_nil)))) (fun v6 => (s_set 1 sc__law_kind.nd (f_add (fl_at (f_v 1) (fl_cons (f_lst (fa_cons (f_isX 0 T.xt hx hn T.n_isinstance T.m_NoWays) (fun x12 => (fa_cons (f_isX 0 T.xt hx hn T.n_isinstance T.m_NoWay) (fun x13 => (fa_cons (f_isX 0 T.xt hx hn T.n_isinstance T.m_NoPiece) (fun x14 => (fa_cons (f_isX 0 T.xt hx hn T.n_isinstance T.m_NoStresses) (fun x15 => fa_nil))))))))) (fun x16 => fl_nil)))) (fun v11 => (s_set 1 sc__law_kind.nd (f_add (fl_at (f_v 1) (fl_cons (f_lst (fa_cons (f_isX 0 T.xt hx hn T.n_isinstance T.m_NoBalance) (fun x18 => (fa_cons (f_isX 0 T.xt hx hn T.n_isinstance T.m_NoRest) (fun x19 => (fa_cons (f_isX 0 T.xt hx hn T.n_isinstance T.m_NoRounds) (fun x20 => (fa_cons (f_isX 0 T.xt hx hn T.n_isinstance T.m_NoFrame) (fun x21 => fa_nil))))))))) (fun x22 => fl_nil)))) (fun v17 => (s_set 1 sc__law_kind.nd (f_add (fl_at (f_v 1) (fl_cons (f_lst (fa_cons (f_isX 0 T.xt hx hn T.n_isinstance T.m_NoLot) (fun x24 => (fa_cons (f_isX 0 T.xt hx hn T.n_isinstance T.m_NoInner) (fun x25 => (fa_cons (f_isX 0 T.xt hx hn T.n_isinstance T.m_NoTurning) (fun x26 => (fa_cons (f_isX 0 T.xt hx hn T.n_isinstance T.m_NoFirm) (fun x27 => fa_nil))))))))) (fun x28 => fl_nil)))) (fun v23 => (s_set 1 sc__law_kind.nd (f_add (fl_at (f_v 1) (fl_cons (f_lst (fa_cons (f_isX 0 T.xt hx hn T.n_isinstance T.m_NoThick) (fun x30 => (fa_cons (f_isX 0 T.xt hx hn T.n_isinstance T.m_NoDeed) (fun x31 => (fa_cons (f_isX 0 T.xt hx hn T.n_isinstance T.m_NoDeeds) (fun x32 => (fa_cons (f_isX 0 T.xt hx hn T.n_isinstance T.m_NotHeld) (fun x33 => fa_nil))))))))) (fun x34 => fl_nil)))) (fun v29 => (s_set 1 sc__law_kind.nd (f_add (fl_at (f_v 1) (fl_cons (f_lst (fa_cons (f_isX 0 T.xt hx hn T.n_isinstance T.m_NoLine) (fun x36 => (fa_cons (f_isX 0 T.xt hx hn T.n_isinstance T.m_TooMany) (fun x37 => (fa_cons (f_isX 0 T.xt hx hn T.n_isinstance T.m_NoText) (fun x38 => fa_nil))))))) (fun x39 => fl_nil)))) (fun v35 => (s_set 2 sc__law_kind.nd (f_lst (fa_at f_str (fa_at f_str (fa_at f_str (fa_at f_str (fa_at f_str (fa_at f_str (fa_at f_str (fa_at f_str (fa_at f_str (fa_at f_str (fa_at f_str fa_nil)))))))))))) (fun v40 => (s_set 2 sc__law_kind.nd (f_add (fl_at (f_v 2) (fl_cons (f_lst (fa_at f_str (fa_at f_str (fa_at f_str (fa_at f_str (fa_at f_str (fa_at f_str (fa_at f_str (fa_at f_str (fa_at f_str (fa_at f_str (fa_at f_str fa_nil)))))))))))) (fun x42 => fl_nil)))) (fun v41 => (s_if (FW.t (w_or (t_cmp (zneU (units64H hr)) o_ne (fl_cons (f_meth PySem.F.plainAttrs_list PySem.F.slot_list_count PySem.F.type_list_count (mt_count (room65H hr)) (f_v 1) (fun x43 => (fa_at f_bl fa_nil))) (fun x44 => (fl_at f_int fl_nil)))) (w_or1 (t_not (t_val (f_isV 0 T.xt hx hn T.n_isinstance T.n_ValueError)))))) (s_ret (f_tup (fa_at f_str fa_nil))) (s_pop (s_if (t_val (f_ix (fl_at (f_v 1) (fl_at f_int fl_nil)))) (s_ret f_bad) (s_pop (s_ret (f_if (t_val (f_ix (fl_at (f_v 1) (fl_at f_int fl_nil)))) f_bad (f_tup (fa_cons (f_ix (fl_cons (f_add (fl_at (f_v 2) (fl_cons (f_lst (fa_at f_str (fa_at f_str fa_nil))) (fun x49 => fl_nil)))) (fun x50 => (fl_cons (f_meth PySem.F.plainAttrs_list PySem.F.slot_list_index PySem.F.type_list_index (mt_indexO (room65H hr)) (f_v 1) (fun x51 => (fa_at f_bl fa_nil))) (fun x52 => fl_nil))))) (fun x53 => fa_nil)))))))))))))))))))))))))))⟩
noncomputable def said__law_said (kl : Nat) (hk : 1 ≤ kl + 1) : SaidD P w K mg base (lamTs K tfL) kl "_law_said" exNames (fun d => (lstK [.d d])) L.law_kind := {
      a := "_law_call",
      fo := "_law_found",
      e := "_law_e",
      word := "_law_kind",
      y := "_law_e",
      ret := _,
      pf := _,
      pa := _,
      pc := _,
      pas := _,
      pE := _,
      pw := _,
      pe := _,
      pcw := _,
      pr := _,
      ph := _,
      pt := _,
      pr2 := _,
      pg := _,
      sg := _,
      g := T.a__law_said,
      gw := T.a__law_kind,
      PE := T.e_PlateError,
      fdg := T.fd__law_said,
      fdw := T.fd__law_kind,
      kw := 1,
      F := T.F__law_said,
      Sc := sc__law_said,
      hm := T.m__law_said,
      hb := T.b__law_said,
      hW := okx__law_kind T,
      hkl := hk,
      hmw := T.m__law_kind,
      hkw := T.F__law_kind.kp,
      hbw := T.b__law_kind,
      hPE := T.m_PlateError,
      exm := T.xe,
      la := rfl,
      lf := rfl,
      le := rfl,
      lP := rfl,
      lw := rfl,
      da := by decide,
      ca := by decide,
      de := by decide,
      ce := by decide,
      dw := by decide,
      hret := fun cdv A outer s H E B S hG hr d => (f_lst (fa_at (f_v 1) fa_nil)) }
def F__law_whole : List PyData → M PyData
  | [a0] => L.law_whole a0
  | _ => bad
theorem ok__law_whole : ZFn P w K mg base 1 T.a__law_whole T.fd__law_whole ["_law_thing"] (VSp (lamTs K tfL) mg [.d] false F__law_whole) :=
  vfnD T.F__law_whole sc__law_whole rfl fun cdv hcd A outer s H E S Ez ps0 hG hr tk gl ds hd => match ds, hd with
    | [a0], _ => ⟨0, _, rfl, (s_ret (f_and (f_isi .int T.n_isinstance (pe_ty .int T.n_int) (fl_at (f_v 0) fl_nil)) (f_one (f_not (f_isi .bool T.n_isinstance (pe_ty .bool T.n_bool) (fl_at (f_v 0) fl_nil))))))⟩
def F__law_bad_plates : List PyData → M PyData
  | [a0, a1] => L.law_bad_plates a0 a1
  | _ => bad
theorem ok__law_bad_plates : ZFn P w K mg base 1 T.a__law_bad_plates T.fd__law_bad_plates ["_law_plate_here", "_law_odd_here"] (VSp (lamTs K tfL) mg [.d, .d] false F__law_bad_plates) :=
  vfnD T.F__law_bad_plates sc__law_bad_plates rfl fun cdv hcd A outer s H E S Ez ps0 hG hr tk gl ds hd => match ds, hd with
    | [a0, a1], _ => ⟨1, _, rfl, (s_asg (f_v 0) (zg_seq (zgs_cons (zg_name (i := 3) sc__law_bad_plates.nd) (zgs_cons (zg_name (i := 4) sc__law_bad_plates.nd) (zgs_cons (zg_name (i := 5) sc__law_bad_plates.nd) (zgs_cons (zg_name (i := 6) sc__law_bad_plates.nd) zgs_nil))))) (go_q4 (go_name (i := 3)) (go_name (i := 4)) (go_name (i := 5)) (go_name (i := 6))) (fun u1 => (s_setC 2 0 (by rw [gl]; decide) sc__law_bad_plates.nd (n_lst (fa_at f_non (fa_cons (f_tup fa_nil) (fun x3 => (fa_cons (f_callT zlist v_list T.n_list bv_list (fa_at (f_v 0) fa_nil)) (fun x4 => (fa_cons (f_slH (fl_at (f_v 0) (fl_at f_int fl_nil))) (fun x5 => (fa_cons (f_add (fl_at (f_v 0) (fl_cons (f_tup (fa_at f_int fa_nil)) (fun x6 => fl_nil)))) (fun x7 => (fa_cons (f_tup (fa_cons (f_callT zlist v_list T.n_list bv_list (fa_at (f_v 3) fa_nil)) (fun x8 => (fa_at (f_v 4) (fa_at (f_v 5) (fa_at (f_v 6) fa_nil)))))) (fun x9 => (fa_at (f_v 1) fa_nil))))))))))))) (s_setC 2 0 (by rw [gl]; decide) sc__law_bad_plates.nd (n_cat (fl_c 2 (.c 0) rfl (fl_cons (f_lst (fa_cons (f_tup (fa_at (f_v 3) (fa_at (f_v 4) (fa_at (f_v 5) (fa_cons (f_tup (fa_at f_int (fa_at f_int fa_nil))) (fun x10 => fa_nil)))))) (fun x11 => (fa_cons (f_tup (fa_at (f_v 3) (fa_at (f_v 4) (fa_at (f_v 5) (fa_cons (f_tup (fa_at f_int (fa_at f_int fa_nil))) (fun x12 => fa_nil)))))) (fun x13 => fa_nil))))) (fun x14 => fl_nil)))) (s_expr (f_app 2 0 (f_tup (fa_at (f_v 3) (fa_cons (f_tup fa_nil) (fun x16 => (fa_cons (f_tup fa_nil) (fun x17 => (fa_at (f_v 6) fa_nil)))))))) (fun _u39 => (s_setC 2 0 (by rw [gl]; decide) sc__law_bad_plates.nd (n_cat (fl_c 2 (.c 0) rfl (fl_cons (f_lst (fa_cons (f_tup (fa_at (f_v 3) (fa_at (f_v 4) (fa_cons (f_slL (fl_at (f_v 5) (fl_at f_int fl_nil))) (fun x20 => (fa_at (f_v 6) fa_nil)))))) (fun x21 => (fa_cons (f_tup (fa_at (f_v 3) (fa_at (f_v 4) (fa_cons (f_repT (fl_cons (f_tup (fa_at f_int fa_nil)) (fun x22 => (fl_cons (f_callB zlen v_len T.n_len bv_len (fa_at (f_v 4) fa_nil)) (fun x23 => fl_nil))))) (fun x24 => (fa_at (f_v 6) fa_nil)))))) (fun x25 => fa_nil))))) (fun x26 => fl_nil)))) (s_ret (f_cat (fl_c 2 (.c 0) rfl (fl_cons (f_lst (fa_cons (f_tup (fa_cons (f_add (fl_at (f_v 3) (fl_cons (f_tup (fa_cons (f_tup (fa_at f_int (fa_at f_int fa_nil))) (fun x28 => fa_nil))) (fun x29 => fl_nil)))) (fun x30 => (fa_at (f_v 4) (fa_at (f_v 5) (fa_at (f_v 6) fa_nil)))))) (fun x31 => (fa_cons (f_tup (fa_at (f_v 3) (fa_cons (f_repT (fl_at (f_v 4) (fl_at f_int fl_nil))) (fun x32 => (fa_cons (f_repT (fl_at (f_v 5) (fl_at f_int fl_nil))) (fun x33 => (fa_at (f_v 6) fa_nil))))))) (fun x34 => fa_nil))))) (fun x35 => fl_nil))))))))))))⟩
def F_law : List PyData → M PyData
  | [a0] => L.law17 a0
  | _ => bad
theorem ok_law (TB : TBs K mg base) : ZFn P w K mg base 10 T.a_law T.fd_law ["_law_script"] (VSp (lamTs K tfL) mg [.k] false F_law) :=
  vfnD T.F_law sc_law rfl fun cdv hcd A outer s H E S Ez ps0 hG hr tk gl ds hd => match ds, hd with
    | [a0], _ => ⟨1, _, rfl, (s_for (emb1 := fun (t1 : Unit) => [some (.k (unl a0)), none, none, none, none, none, none, none, none, none]) (passes_of rfl) (i_range1 T.n_range (fa_cons (f_callB zmax v_max T.n_max bv_max (fa_at f_int (fa_cons (f_callB zmin v_min T.n_min bv_min (fa_cons (f_callB zlen v_len T.n_len bv_len (fa_c 0 (.k (unl a0)) fa_nil)) (fun x2 => (fa_at f_int fa_nil)))) (fun x3 => fa_nil)))) (fun x4 => fa_nil))) (zg_name (i := 1) sc_law.nd) (go_name (i := 1)) (fun u5 t1 => (s_setC 2 0 (by rw [gl]; decide) sc_law.nd (n_call (ok__law_state T) hG (hr.mono (by decide)) T.m__law_state T.F__law_state.kp T.b__law_state tk (fa_c 0 (.k (unl a0)) (fa_at (f_v 1) fa_nil))) (s_parN (fun h => zs_parU2 (i := 6) (j := 7) sc_law.nd h) (fp_d (f_call (ok__law_plate T) hG (hr.mono (by decide)) T.m__law_plate T.F__law_plate.kp T.b__law_plate tk (fa_c 2 (.c 0) (fa_at f_int fa_nil))) (fun v7 => (fp_d (f_call (ok__law_odd T) hG (hr.mono (by decide)) T.m__law_odd T.F__law_odd.kp T.b__law_odd tk (fa_c 2 (.c 0) fa_nil)) (fun v8 => (fp_nil (s_set 3 sc_law.nd (f_callB (zrepr hr hG.1) v_repr T.n_repr bv_repr (fa_at (f_v 6) fa_nil)) (fun v9 => (s_for (emb1 := fun (t10 : Unit) => [some (.k (unl a0)), some (.d u5), some (.c 0), some (.d v9), none, none, some (.d v7), some (.d v8), none, none]) (passes_of rfl) (i_range1 T.n_range (fa_cons (f_callB zlen v_len T.n_len bv_len (fa_cons (f_ix (fl_at (f_v 6) (fl_at f_int fl_nil))) (fun x11 => fa_nil))) (fun x12 => fa_nil))) (zg_name (i := 4) sc_law.nd) (go_name (i := 4)) (fun u13 t10 => (s_for (emb1 := fun (t15 : Unit) => [some (.k (unl a0)), some (.d u5), some (.c 0), some (.d v9), some (.d u13), none, some (.d v7), some (.d v8), none, none]) (passes_of rfl) (i_row (f_lst (fa_at f_int (fa_at f_int (fa_cons (f_add (fl_at f_int (fl_cons (f_call (ok__law_choice T) hG (hr.mono (by decide)) T.m__law_choice T.F__law_choice.kp T.b__law_choice tk (fa_c 2 (.c 0) (fa_at f_int fa_nil))) (fun x16 => fl_nil)))) (fun x17 => (fa_cons (f_ix (fl_cons (f_ix (fl_at (f_v 6) (fl_at f_int fl_nil))) (fun x18 => (fl_at (f_v 4) fl_nil)))) (fun x19 => fa_nil)))))))) (zg_name (i := 8) sc_law.nd) (go_name (i := 8)) (fun u20 t15 => (s_set 9 sc_law.nd (f_add (fl_cons (f_add (fl_cons (f_slH (fl_cons (f_ix (fl_at (f_v 6) (fl_at f_int fl_nil))) (fun x23 => (fl_at (f_v 4) fl_nil)))) (fun x24 => (fl_cons (f_tup (fa_at (f_v 8) fa_nil)) (fun x25 => fl_nil))))) (fun x26 => (fl_cons (f_slL (fl_cons (f_ix (fl_at (f_v 6) (fl_at f_int fl_nil))) (fun x27 => (fl_cons (f_add (fl_at (f_v 4) (fl_at f_int fl_nil))) (fun x28 => fl_nil))))) (fun x29 => fl_nil))))) (fun v22 => (s_if (t_not (t_val (f_call (ok__law_same T) hG (hr.mono (by decide)) T.m__law_same T.F__law_same.kp T.b__law_same tk (fa_cons (f_call (ok_thickened T) hG (hr.mono (by decide)) T.m_thickened T.F_thickened.kp T.b_thickened tk (fa_at (f_v 6) (fa_at (f_v 4) (fa_at (f_v 8) fa_nil)))) (fun x30 => (fa_cons (f_tup (fa_cons (f_ix (fl_at (f_v 6) (fl_at f_int fl_nil))) (fun x31 => (fa_cons (f_ix (fl_at (f_v 6) (fl_at f_int fl_nil))) (fun x32 => (fa_at (f_v 9) (fa_cons (f_ix (fl_at (f_v 6) (fl_at f_int fl_nil))) (fun x33 => fa_nil)))))))) (fun x34 => fa_nil))))))) (s_ret f_bl) (s_pop (s_end (Fg.of ⟨rfl, rfl, rfl, rfl, rfl, rfl, rfl, trivial⟩))))))) (Fg.of ⟨rfl, rfl, rfl, rfl, rfl, rfl, rfl, trivial⟩) (fun t15 => (s_end (Fg.of ⟨rfl, rfl, rfl, rfl, rfl, rfl, trivial⟩))))) (Fg.of ⟨rfl, rfl, rfl, rfl, rfl, rfl, trivial⟩) (fun t10 => (s_for (emb1 := fun (t37 : Unit) => [some (.k (unl a0)), some (.d u5), some (.c 0), some (.d v9), none, none, some (.d v7), some (.d v8), none, none]) (passes_of rfl) (i_row (f_lst (fa_cons (f_neg (fl_at f_int fl_nil)) (fun x38 => (fa_cons (f_callB zlen v_len T.n_len bv_len (fa_cons (f_ix (fl_at (f_v 6) (fl_at f_int fl_nil))) (fun x39 => fa_nil))) (fun x40 => (fa_at f_bl (fa_at f_non (fa_at f_str (fa_cons (f_tup (fa_at f_int fa_nil)) (fun x41 => fa_nil))))))))))) (zg_name (i := 5) sc_law.nd) (go_name (i := 5)) (fun u42 t37 => (s_if (t_cmp (zne hr) o_ne (fl_cons (f_said (said__law_said T 7 (by decide)) (TB ("law", none) (by decide)) (code_at T.F_law T.q_law hcd) (lamTs_mem (x := "law") (by decide)) hG (hr.mono (by decide)) (fun qg sg s g cdg f c' E sZ HZ B S0 EZ hG hr tk => (f_call (ok_thickened T) hG (hr.mono (by decide)) T.m_thickened T.F_thickened.kp T.b_thickened tk (fa_at (f_v 6) (fa_at (f_v 5) (fa_at f_int fa_nil)))))) (fun x44 => (fl_cons (f_tup (fa_at f_str fa_nil)) (fun x45 => fl_nil))))) (s_ret f_bl) (s_pop (s_end (Fg.of ⟨rfl, rfl, rfl, rfl, rfl, rfl, trivial⟩))))) (Fg.of ⟨rfl, rfl, rfl, rfl, rfl, rfl, trivial⟩) (fun t37 => (s_for (emb1 := fun (t48 : Unit) => [some (.k (unl a0)), some (.d u5), some (.c 0), some (.d v9), none, none, some (.d v7), some (.d v8), none, none]) (passes_of rfl) (i_row (f_lst (fa_at f_int (fa_at f_int (fa_cons (f_neg (fl_at f_int fl_nil)) (fun x49 => (fa_at f_bl (fa_at f_non (fa_at f_str (fa_cons (f_tup (fa_at f_int fa_nil)) (fun x50 => (fa_cons (f_if (t_not (t_val (f_call (ok__law_whole T) hG (hr.mono (by decide)) T.m__law_whole T.F__law_whole.kp T.b__law_whole tk (fa_at (f_v 7) fa_nil)))) (f_v 7) f_int) (fun x52 => fa_nil))))))))))))) (zg_name (i := 5) sc_law.nd) (go_name (i := 5)) (fun u53 t48 => (s_if (t_cmp (zne hr) o_ne (fl_cons (f_said (said__law_said T 7 (by decide)) (TB ("law", none) (by decide)) (code_at T.F_law T.q_law hcd) (lamTs_mem (x := "law") (by decide)) hG (hr.mono (by decide)) (fun qg sg s g cdg f c' E sZ HZ B S0 EZ hG hr tk => (f_call (ok_thickened T) hG (hr.mono (by decide)) T.m_thickened T.F_thickened.kp T.b_thickened tk (fa_at (f_v 6) (fa_at f_int (fa_at (f_v 5) fa_nil)))))) (fun x55 => (fl_cons (f_tup (fa_at f_str fa_nil)) (fun x56 => fl_nil))))) (s_ret f_bl) (s_pop (s_end (Fg.of ⟨rfl, rfl, rfl, rfl, rfl, rfl, trivial⟩))))) (Fg.of ⟨rfl, rfl, rfl, rfl, rfl, rfl, trivial⟩) (fun t48 => (s_for (emb1 := fun (t59 : Unit) => [some (.k (unl a0)), some (.d u5), some (.c 0), some (.d v9), none, none, some (.d v7), some (.d v8), none, none]) (passes_of rfl) (i_row (f_call (ok__law_bad_plates T) hG (hr.mono (by decide)) T.m__law_bad_plates T.F__law_bad_plates.kp T.b__law_bad_plates tk (fa_at (f_v 6) (fa_at (f_v 7) fa_nil)))) (zg_name (i := 5) sc_law.nd) (go_name (i := 5)) (fun u60 t59 => (s_if (t_cmp (zne hr) o_ne (fl_cons (f_said (said__law_said T 7 (by decide)) (TB ("law", none) (by decide)) (code_at T.F_law T.q_law hcd) (lamTs_mem (x := "law") (by decide)) hG (hr.mono (by decide)) (fun qg sg s g cdg f c' E sZ HZ B S0 EZ hG hr tk => (f_call (ok_thickened T) hG (hr.mono (by decide)) T.m_thickened T.F_thickened.kp T.b_thickened tk (fa_at (f_v 5) (fa_cons (f_neg (fl_at f_int fl_nil)) (fun x62 => (fa_at f_int fa_nil))))))) (fun x63 => (fl_cons (f_tup (fa_at f_str fa_nil)) (fun x64 => fl_nil))))) (s_ret f_bl) (s_pop (s_end (Fg.of ⟨rfl, rfl, rfl, rfl, rfl, rfl, trivial⟩))))) (Fg.of ⟨rfl, rfl, rfl, rfl, rfl, rfl, trivial⟩) (fun t59 => (s_if (t_cmp (zne hr) o_ne (fl_cons (f_callB (zrepr hr hG.1) v_repr T.n_repr bv_repr (fa_at (f_v 6) fa_nil)) (fun x67 => (fl_at (f_v 3) fl_nil)))) (s_ret f_bl) (s_pop (s_end (Fg.of ⟨rfl, trivial⟩)))))))))))))))))))))) (Fg.of ⟨rfl, trivial⟩) (fun t1 => (s_ret f_bl)))⟩
end
end K
set_option exponentiation.threshold 20000
namespace K
open PySem PySem.Spec V ZL L2
theorem thicks_run2 {P : Pl} (h : PlOk P) {i : Nat} (hi : i < P.ps.length) {t : Int} {α : Type} {k : PyData → M α} : (slH (eTh P.th) (.int (i : Int)) >>= fun x3 => tupK [.d (.int t)] >>= fun x4 => addM x3 x4 >>= fun x5 => slL (eTh P.th) (.int ((i : Int) + 1)) >>= fun x7 => addM x5 x7 >>= k) = k (eTh (thk P i t).th) := thicks_run h hi
theorem law_true (ns : List Int) (h : ns.length ≤ 63) : ∃ s', L.law17 (.list (ns.map PyData.int)) [] = .ok (.bool true) s' := by
  unfold L.law17
  refine law_end ?_
  simp only [fin_bind, bind_assoc', unl, len_list, pure_bind', min_int, max_int, List.length_map]
  refine law_cells ns h 4 (n := 0) (fun k st g => ?_) ?_
  · refine AtL.zero ?_
    refine At.gen (plate (by decide) (by decide)) ?_
    rintro _ ⟨P, rfl, D⟩
    have ok := D.ok
    have n6 := D.n6
    have k4 := D.k4
    have k1 := ok.k1
    have tl := ok.tl
    refine At.gen odd_in.sub ?_
    intro o ho
    have rp := repr_eq ((tq_pl ok).q.ok (by omega) (by omega) (by omega))
    rw [rp, pure_bind', pl_1, pure_bind', len_ps, pure_bind', range_nat (by omega), pure_bind']
    refine Tr.for0 (At []) (fun x hx => ?_) ?_
    · obtain ⟨i, hi, rfl⟩ := List.mem_map.mp hx
      have hi := List.mem_range.mp hi
      refine ⟨_, rfl, ?_⟩
      refine At.gen (choice (by decide) (by decide)) ?_
      rintro _ ⟨w, rfl, w0, w1⟩
      simp only [add_int, pure_bind', pl_2, th_at (show i < P.th.length by omega), lstK_4, rowM_list]
      have tb := ok.th _ (List.getElem_mem (show i < P.th.length by omega))
      rw [forM_nx (fun x hx => ?_)]
      · simp only [pure_bind', flk_nx]
        exact Tr.pure fun s hs => ⟨rfl, hs⟩
      · obtain ⟨t, rfl, ht⟩ : ∃ t : Int, x = .int t ∧ 1 ≤ t ∧ t ≤ 9 := by
          simp only [List.mem_cons, List.not_mem_nil, or_false] at hx
          rcases hx with rfl | rfl | rfl | rfl
          · exact ⟨_, rfl, by decide, by decide⟩
          · exact ⟨_, rfl, by decide, by decide⟩
          · exact ⟨_, rfl, by omega, by omega⟩
          · exact ⟨_, rfl, tb⟩
        refine ⟨_, rfl, ?_⟩
        rw [thicks_run2 ok hi, thickened_ok ok hi ht, pure_bind', pl_0, pure_bind', pl_3, pure_bind', tupK_4, pure_bind', show PyData.tuple [eCs P.cs, ePs P.ps, eTh (thk P i t).th, eLm P] = ePl (thk P i t) from rfl, same_eq ((tq_pl (thk_ok ok hi ht)).q.ok (by omega) (by omega) (by omega)), sub_pure]
        simp
    · rw [flk_nx]
      simp only [neg_int, pure_bind', pl_1, len_ps, tupK_1, lstK_6, rowM_list]
      rw [forM_nx (fun x hx => ?_)]
      · simp only [pure_bind', flk_nx, law_whole_eq, sub_pure, toB_bool, tNot_pure, tupK_1]
        have eo : ∀ {α : Type} (k : PyData → M α), ((bif !isW o then (Pure.pure o : M PyData) else Pure.pure (.int 0)) >>= k) = k (bif !isW o then o else .int 0) := fun k => by cases isW o <;> rfl
        rw [eo, lstK_8, pure_bind', rowM_list, pure_bind', forM_nx (fun x hx => ?_)]
        · simp only [pure_bind', flk_nx]
          rw [bad_plates_eq ok, pure_bind', rowM_list, pure_bind', forM_nx (fun x hx => ?_)]
          · simp only [pure_bind', flk_nx, rp, ne_str, decide_true, Bool.not_true, cond_false]
            exact Tr.pure fun s hs => ⟨rfl, hs.l.ln⟩
          · refine ⟨_, rfl, ?_⟩
            rw [thickened_plate (bad_plate ok n6 ho hx), sub_raise, said_raise (by decide +kernel) kind_plate, pure_bind', ne_plate]
            rfl
        · refine ⟨_, rfl, ?_⟩
          have hw : L.is_within x (.int 1) (.int 9) = pure (.bool false) := by
            simp only [List.mem_cons, List.not_mem_nil, or_false] at hx
            rcases hx with rfl | rfl | rfl | rfl | rfl | rfl | rfl | rfl
            · exact within_false (by decide)
            · exact within_false (by decide)
            · exact within_false (by decide)
            · exact nw_within rfl
            · exact nw_within rfl
            · exact nw_within rfl
            · exact nw_within rfl
            · cases q : isW o with
              | true => exact within_false (by decide)
              | false => exact nw_within q
          have ht := thickened_thick ok (i := 0) (by omega) hw
          rw [show ((0 : Nat) : Int) = 0 from rfl] at ht
          rw [ht, sub_raise, said_raise (by decide +kernel) kind_thick, pure_bind', ne_thick]
          rfl
      · refine ⟨_, rfl, ?_⟩
        have hw : L.is_within x (.int 0) (.int ((P.ps.length : Int) - 1)) = pure (.bool false) := by
          simp only [List.mem_cons, List.not_mem_nil, or_false] at hx
          rcases hx with rfl | rfl | rfl | rfl | rfl | rfl
          · exact within_false (by omega)
          · exact within_false (by omega)
          · exact nw_within rfl
          · exact nw_within rfl
          · exact nw_within rfl
          · exact nw_within rfl
        rw [thickened_piece ok hw, sub_raise, said_raise (by decide +kernel) kind_piece, pure_bind', ne_piece]
        rfl
  · simp only [flk_nx, pure_bind', fin_rt]
    exact Tr.pure fun s hs => rfl
end K
namespace Hd
open PySem PySem.Spec PyProof.Rows L2 ZL V K
def d_is_whole : He.DefD := ⟨("is_whole", none), "is_whole", "is_whole", defArgs s_is_whole, defBody s_is_whole, defScope s_is_whole, [], []⟩
def d_is_within : He.DefD := ⟨("is_within", none), "is_within", "is_within", defArgs s_is_within, defBody s_is_within, defScope s_is_within, [], []⟩
def d_rises : He.DefD := ⟨("rises", none), "rises", "rises", defArgs s_rises, defBody s_rises, defScope s_rises, [], []⟩
def d_is_corner : He.DefD := ⟨("is_corner", none), "is_corner", "is_corner", defArgs s_is_corner, defBody s_is_corner, defScope s_is_corner, [], []⟩
def d_turn_of : He.DefD := ⟨("turn_of", none), "turn_of", "turn_of", defArgs s_turn_of, defBody s_turn_of, defScope s_turn_of, [], []⟩
def d_sign_of : He.DefD := ⟨("sign_of", none), "sign_of", "sign_of", defArgs s_sign_of, defBody s_sign_of, defScope s_sign_of, [], []⟩
def d_is_piece : He.DefD := ⟨("is_piece", none), "is_piece", "is_piece", defArgs s_is_piece, defBody s_is_piece, defScope s_is_piece, [], []⟩
def d_lies_in : He.DefD := ⟨("lies_in", none), "lies_in", "lies_in", defArgs s_lies_in, defBody s_lies_in, defScope s_lies_in, [], []⟩
def d_sides_in : He.DefD := ⟨("sides_in", none), "sides_in", "sides_in", defArgs s_sides_in, defBody s_sides_in, defScope s_sides_in, [], []⟩
def d_are_crossing : He.DefD := ⟨("are_crossing", none), "are_crossing", "are_crossing", defArgs s_are_crossing, defBody s_are_crossing, defScope s_are_crossing, [], []⟩
def d_are_apart : He.DefD := ⟨("are_apart", none), "are_apart", "are_apart", defArgs s_are_apart, defBody s_are_apart, defScope s_are_apart, [], []⟩
def d_are_corners : He.DefD := ⟨("are_corners", none), "are_corners", "are_corners", defArgs s_are_corners, defBody s_are_corners, defScope s_are_corners, [], []⟩
def d_are_pieces : He.DefD := ⟨("are_pieces", none), "are_pieces", "are_pieces", defArgs s_are_pieces, defBody s_are_pieces, defScope s_are_pieces, [], []⟩
def d_are_thicks : He.DefD := ⟨("are_thicks", none), "are_thicks", "are_thicks", defArgs s_are_thicks, defBody s_are_thicks, defScope s_are_thicks, [], []⟩
def d_is_stuff : He.DefD := ⟨("is_stuff", none), "is_stuff", "is_stuff", defArgs s_is_stuff, defBody s_is_stuff, defScope s_is_stuff, [], []⟩
def d_is_plate : He.DefD := ⟨("is_plate", none), "is_plate", "is_plate", defArgs s_is_plate, defBody s_is_plate, defScope s_is_plate, [], []⟩
def d_need_plate : He.DefD := ⟨("need_plate", none), "need_plate", "need_plate", defArgs s_need_plate, defBody s_need_plate, defScope s_need_plate, [], []⟩
def d_need_piece : He.DefD := ⟨("need_piece", none), "need_piece", "need_piece", defArgs s_need_piece, defBody s_need_piece, defScope s_need_piece, [], []⟩
def d_thickened_by : He.DefD := ⟨("thickened_by", none), "thickened_by", "thickened_by", defArgs s_thickened_by, defBody s_thickened_by, defScope s_thickened_by, [], []⟩
def d_need_thick : He.DefD := ⟨("need_thick", none), "need_thick", "need_thick", defArgs s_need_thick, defBody s_need_thick, defScope s_need_thick, [], []⟩
def d_thickened : He.DefD := ⟨("thickened", none), "thickened", "thickened", defArgs s_thickened, defBody s_thickened, defScope s_thickened, [], []⟩
def d__law_cell_at : He.DefD := ⟨("_law_cell_at", none), "_law_cell_at", "_law_cell_at", defArgs s__law_cell_at, defBody s__law_cell_at, defScope s__law_cell_at, [], []⟩
def d__law_state : He.DefD := ⟨("_law_state", none), "_law_state", "_law_state", defArgs s__law_state, defBody s__law_state, defScope s__law_state, [], []⟩
def d__law_choice : He.DefD := ⟨("_law_choice", none), "_law_choice", "_law_choice", defArgs s__law_choice, defBody s__law_choice, defScope s__law_choice, [], []⟩
def d__law_order : He.DefD := ⟨("_law_order", none), "_law_order", "_law_order", defArgs s__law_order, defBody s__law_order, defScope s__law_order, [], []⟩
def d__law_shapes : He.DefD := ⟨("_law_shapes", none), "_law_shapes", "_law_shapes", defArgs s__law_shapes, defBody s__law_shapes, defScope s__law_shapes, [], []⟩
def d__law_plate : He.DefD := ⟨("_law_plate", none), "_law_plate", "_law_plate", defArgs s__law_plate, defBody s__law_plate, defScope s__law_plate, [], []⟩
def d__law_same : He.DefD := ⟨("_law_same", none), "_law_same", "_law_same", defArgs s__law_same, defBody s__law_same, defScope s__law_same, [], []⟩
def d__law_odd : He.DefD := ⟨("_law_odd", none), "_law_odd", "_law_odd", defArgs s__law_odd, defBody s__law_odd, defScope s__law_odd, [], []⟩
def d__law_kind : He.DefD := ⟨("_law_kind", none), "_law_kind", "_law_kind", defArgs s__law_kind, defBody s__law_kind, defScope s__law_kind, [], []⟩
def d__law_said : He.DefD := ⟨("_law_said", none), "_law_said", "_law_said", defArgs s__law_said, defBody s__law_said, defScope s__law_said, [], []⟩
def d__law_whole : He.DefD := ⟨("_law_whole", none), "_law_whole", "_law_whole", defArgs s__law_whole, defBody s__law_whole, defScope s__law_whole, [], []⟩
def d__law_bad_plates : He.DefD := ⟨("_law_bad_plates", none), "_law_bad_plates", "_law_bad_plates", defArgs s__law_bad_plates, defBody s__law_bad_plates, defScope s__law_bad_plates, [], []⟩
def d_law : He.DefD := ⟨("law", none), "law", "law", defArgs s_law, defBody s_law, defScope s_law, [], []⟩
def fn0 : List He.DefD := [d_is_whole, d_is_within, d_rises, d_is_corner, d_turn_of, d_sign_of, d_is_piece, d_lies_in, d_sides_in, d_are_crossing, d_are_apart, d_are_corners, d_are_pieces, d_are_thicks, d_is_stuff, d_is_plate, d_need_plate, d_need_piece, d_thickened_by, d_need_thick, d_thickened, d__law_cell_at, d__law_state, d__law_choice, d__law_order, d__law_shapes, d__law_plate, d__law_same, d__law_odd, d__law_kind]
def fn1 : List He.DefD := [d__law_said, d__law_whole, d__law_bad_plates, d_law]
def fn : List He.DefD := fn0 ++ fn1
def fa0 : List He.Fa := [.glo "is_whole", .glo "is_within", .glo "rises", .glo "is_corner", .glo "turn_of", .glo "sign_of", .glo "is_piece", .glo "lies_in", .glo "sides_in", .glo "are_crossing", .glo "are_apart", .glo "are_corners", .glo "are_pieces", .glo "are_thicks", .glo "is_stuff", .glo "is_plate", .glo "need_plate", .glo "need_piece", .glo "thickened_by", .glo "need_thick", .glo "thickened", .glo "_law_cell_at", .glo "_law_state", .glo "_law_choice", .glo "_law_order", .glo "_law_shapes", .glo "_law_plate", .glo "_law_same", .glo "_law_odd", .glo "_law_kind"]
def fa1 : List He.Fa := [.glo "_law_said", .glo "_law_whole", .glo "_law_bad_plates", .glo "law", .free "ValueError", .free "all", .free "any", .free "bool", .free "enumerate", .free "int", .free "isinstance", .free "len", .free "list", .free "max", .free "min", .free "range", .free "repr", .free "set", .free "sorted", .free "tuple", .free "zip", .glo "NoBalance", .glo "NoDeed", .glo "NoDeeds", .glo "NoFirm", .glo "NoFraction", .glo "NoFrame", .glo "NoHolding", .glo "NoInner", .glo "NoLine"]
def fa2 : List He.Fa := [.glo "NoLoads", .glo "NoLot", .glo "NoMotions", .glo "NoPiece", .exc "NoPiece", .glo "NoPlate", .exc "NoPlate", .glo "NoRest", .glo "NoRounds", .glo "NoRows", .glo "NoStresses", .glo "NoText", .glo "NoThick", .exc "NoThick", .glo "NoTurning", .glo "NoWay", .glo "NoWays", .glo "NoWhole", .glo "NotHeld", .glo "PlateError", .glo "TooMany"]
def fa : List He.Fa := fa0 ++ fa1 ++ fa2
def ex0 : List (PySem.W.Frag → Bool) := [constB "MOST_CORNERS" (.int 30), constB "MOST_PIECES" (.int 40), constB "MOST_SPAN" (.int 100), constB "MOST_STIFF" (.int 9), constB "MOST_THICK_plates" (.int 9), constB "MOST_THICK_sums" (.int 9), exTabB exNames "PlateError"]
def ex : List (PySem.W.Frag → Bool) := ex0
def names0 : List PySem.Str := ["PlateError", "NoWhole", "NoFraction", "NoRows", "NoPlate", "NoMotions", "NoLoads", "NoHolding", "NoWays", "NoWay", "NoPiece", "NoStresses", "NoBalance", "NoRest", "NoRounds", "NoFrame", "NoLot", "NoInner", "NoTurning", "NoFirm", "NoThick", "NoDeed", "NoDeeds", "NotHeld", "NoLine", "TooMany", "NoText", "is_whole", "is_within", "rises"]
def names1 : List PySem.Str := ["MOST_CORNERS", "MOST_PIECES", "MOST_SPAN", "MOST_THICK_plates", "MOST_STIFF", "is_corner", "turn_of", "sign_of", "is_piece", "lies_in", "sides_in", "are_crossing", "are_apart", "are_corners", "are_pieces", "are_thicks", "is_stuff", "is_plate", "need_plate", "need_piece", "MOST_THICK_sums", "thickened_by", "need_thick", "thickened", "_law_cell_at", "_law_state", "_law_choice", "_law_order", "_law_shapes", "_law_plate"]
def names2 : List PySem.Str := ["_law_same", "_law_odd", "_law_kind", "_law_said", "_law_whole", "_law_bad_plates"]
def names : List PySem.Str := names0 ++ names1 ++ names2
abbrev R : PySem.W.OpenRow := PySem.W.OpenLaw.row PySem.Challenge.rw_platerest_k67_other_thicknesses
abbrev hk : PySem.W.Hook := He.hookX 4 fa fn [] _root_.K.tfL (exAll ex _root_.K.tfL)
def ob (s : PySem.W.SharedT) : He.AlX := He.obsX 4 fa fn [] _root_.K.tfL (exAll ex _root_.K.tfL) (HandSHeadRun.getT s)
theorem ob_eq (s : PySem.W.SharedT) : ob s = hk.obs s.abs := He.obsX_eq (HandSHeadRun.getT_eq s)
theorem run (w : World) : HandSHeadRun.RunEq R (PySem.W.view R.prog [71]) hk ob 9000 names w := by
  intro os
  kernel_rfl
theorem facts {K : PySem.W.Frag} {h : Heap} {mg : Str → Option Value} (X : K.In h) (G : h.Ns mainGlobals mg) {w : World} (c : SaysL fa fn ex _root_.K.tfL w h K) : ∃ T : Txt K mg, T.a_law = He.ga K "law" ∧ ∀ (s : Shared) (u : Value), BindsTo s T.fd_law ⟨[u], []⟩ [("_law_script", u)] := by
  obtain ⟨fd0, F0⟩ := c.d.def_ 0 (d := d_is_whole) rfl
  obtain ⟨fd1, F1⟩ := c.d.def_ 1 (d := d_is_within) rfl
  obtain ⟨fd2, F2⟩ := c.d.def_ 2 (d := d_rises) rfl
  obtain ⟨fd3, F3⟩ := c.d.def_ 3 (d := d_is_corner) rfl
  obtain ⟨fd4, F4⟩ := c.d.def_ 4 (d := d_turn_of) rfl
  obtain ⟨fd5, F5⟩ := c.d.def_ 5 (d := d_sign_of) rfl
  obtain ⟨fd6, F6⟩ := c.d.def_ 6 (d := d_is_piece) rfl
  obtain ⟨fd7, F7⟩ := c.d.def_ 7 (d := d_lies_in) rfl
  obtain ⟨fd8, F8⟩ := c.d.def_ 8 (d := d_sides_in) rfl
  obtain ⟨fd9, F9⟩ := c.d.def_ 9 (d := d_are_crossing) rfl
  obtain ⟨fd10, F10⟩ := c.d.def_ 10 (d := d_are_apart) rfl
  obtain ⟨fd11, F11⟩ := c.d.def_ 11 (d := d_are_corners) rfl
  obtain ⟨fd12, F12⟩ := c.d.def_ 12 (d := d_are_pieces) rfl
  obtain ⟨fd13, F13⟩ := c.d.def_ 13 (d := d_are_thicks) rfl
  obtain ⟨fd14, F14⟩ := c.d.def_ 14 (d := d_is_stuff) rfl
  obtain ⟨fd15, F15⟩ := c.d.def_ 15 (d := d_is_plate) rfl
  obtain ⟨fd16, F16⟩ := c.d.def_ 16 (d := d_need_plate) rfl
  obtain ⟨fd17, F17⟩ := c.d.def_ 17 (d := d_need_piece) rfl
  obtain ⟨fd18, F18⟩ := c.d.def_ 18 (d := d_thickened_by) rfl
  obtain ⟨fd19, F19⟩ := c.d.def_ 19 (d := d_need_thick) rfl
  obtain ⟨fd20, F20⟩ := c.d.def_ 20 (d := d_thickened) rfl
  obtain ⟨fd21, F21⟩ := c.d.def_ 21 (d := d__law_cell_at) rfl
  obtain ⟨fd22, F22⟩ := c.d.def_ 22 (d := d__law_state) rfl
  obtain ⟨fd23, F23⟩ := c.d.def_ 23 (d := d__law_choice) rfl
  obtain ⟨fd24, F24⟩ := c.d.def_ 24 (d := d__law_order) rfl
  obtain ⟨fd25, F25⟩ := c.d.def_ 25 (d := d__law_shapes) rfl
  obtain ⟨fd26, F26⟩ := c.d.def_ 26 (d := d__law_plate) rfl
  obtain ⟨fd27, F27⟩ := c.d.def_ 27 (d := d__law_same) rfl
  obtain ⟨fd28, F28⟩ := c.d.def_ 28 (d := d__law_odd) rfl
  obtain ⟨fd29, F29⟩ := c.d.def_ 29 (d := d__law_kind) rfl
  obtain ⟨fd30, F30⟩ := c.d.def_ 30 (d := d__law_said) rfl
  obtain ⟨fd31, F31⟩ := c.d.def_ 31 (d := d__law_whole) rfl
  obtain ⟨fd32, F32⟩ := c.d.def_ 32 (d := d__law_bad_plates) rfl
  obtain ⟨fd33, F33⟩ := c.d.def_ 33 (d := d_law) rfl
  exact ⟨{
      a_is_whole := He.ga K "is_whole",
      fd_is_whole := fd0,
      F_is_whole := F0,
      m_is_whole := He.glo_ok X G (c.d.fact 0 (f := .glo "is_whole") rfl),
      b_is_whole := (FunD.bindsN F0 fun _ _ _ _ _ _ us hl => match us, hl with | [_], _ => rfl),
      a_is_within := He.ga K "is_within",
      fd_is_within := fd1,
      F_is_within := F1,
      m_is_within := He.glo_ok X G (c.d.fact 1 (f := .glo "is_within") rfl),
      b_is_within := (FunD.bindsN F1 fun _ _ _ _ _ _ us hl => match us, hl with | [_, _, _], _ => rfl),
      a_rises := He.ga K "rises",
      fd_rises := fd2,
      F_rises := F2,
      m_rises := He.glo_ok X G (c.d.fact 2 (f := .glo "rises") rfl),
      b_rises := (FunD.bindsN F2 fun _ _ _ _ _ _ us hl => match us, hl with | [_], _ => rfl),
      a_is_corner := He.ga K "is_corner",
      fd_is_corner := fd3,
      F_is_corner := F3,
      m_is_corner := He.glo_ok X G (c.d.fact 3 (f := .glo "is_corner") rfl),
      b_is_corner := (FunD.bindsN F3 fun _ _ _ _ _ _ us hl => match us, hl with | [_], _ => rfl),
      a_turn_of := He.ga K "turn_of",
      fd_turn_of := fd4,
      F_turn_of := F4,
      m_turn_of := He.glo_ok X G (c.d.fact 4 (f := .glo "turn_of") rfl),
      b_turn_of := (FunD.bindsN F4 fun _ _ _ _ _ _ us hl => match us, hl with | [_, _, _], _ => rfl),
      a_sign_of := He.ga K "sign_of",
      fd_sign_of := fd5,
      F_sign_of := F5,
      m_sign_of := He.glo_ok X G (c.d.fact 5 (f := .glo "sign_of") rfl),
      b_sign_of := (FunD.bindsN F5 fun _ _ _ _ _ _ us hl => match us, hl with | [_], _ => rfl),
      a_is_piece := He.ga K "is_piece",
      fd_is_piece := fd6,
      F_is_piece := F6,
      m_is_piece := He.glo_ok X G (c.d.fact 6 (f := .glo "is_piece") rfl),
      b_is_piece := (FunD.bindsN F6 fun _ _ _ _ _ _ us hl => match us, hl with | [_, _], _ => rfl),
      a_lies_in := He.ga K "lies_in",
      fd_lies_in := fd7,
      F_lies_in := F7,
      m_lies_in := He.glo_ok X G (c.d.fact 7 (f := .glo "lies_in") rfl),
      b_lies_in := (FunD.bindsN F7 fun _ _ _ _ _ _ us hl => match us, hl with | [_, _, _], _ => rfl),
      a_sides_in := He.ga K "sides_in",
      fd_sides_in := fd8,
      F_sides_in := F8,
      m_sides_in := He.glo_ok X G (c.d.fact 8 (f := .glo "sides_in") rfl),
      b_sides_in := (FunD.bindsN F8 fun _ _ _ _ _ _ us hl => match us, hl with | [_], _ => rfl),
      a_are_crossing := He.ga K "are_crossing",
      fd_are_crossing := fd9,
      F_are_crossing := F9,
      m_are_crossing := He.glo_ok X G (c.d.fact 9 (f := .glo "are_crossing") rfl),
      b_are_crossing := (FunD.bindsN F9 fun _ _ _ _ _ _ us hl => match us, hl with | [_, _, _], _ => rfl),
      a_are_apart := He.ga K "are_apart",
      fd_are_apart := fd10,
      F_are_apart := F10,
      m_are_apart := He.glo_ok X G (c.d.fact 10 (f := .glo "are_apart") rfl),
      b_are_apart := (FunD.bindsN F10 fun _ _ _ _ _ _ us hl => match us, hl with | [_, _], _ => rfl),
      a_are_corners := He.ga K "are_corners",
      fd_are_corners := fd11,
      F_are_corners := F11,
      m_are_corners := He.glo_ok X G (c.d.fact 11 (f := .glo "are_corners") rfl),
      b_are_corners := (FunD.bindsN F11 fun _ _ _ _ _ _ us hl => match us, hl with | [_], _ => rfl),
      a_are_pieces := He.ga K "are_pieces",
      fd_are_pieces := fd12,
      F_are_pieces := F12,
      m_are_pieces := He.glo_ok X G (c.d.fact 12 (f := .glo "are_pieces") rfl),
      b_are_pieces := (FunD.bindsN F12 fun _ _ _ _ _ _ us hl => match us, hl with | [_, _], _ => rfl),
      a_are_thicks := He.ga K "are_thicks",
      fd_are_thicks := fd13,
      F_are_thicks := F13,
      m_are_thicks := He.glo_ok X G (c.d.fact 13 (f := .glo "are_thicks") rfl),
      b_are_thicks := (FunD.bindsN F13 fun _ _ _ _ _ _ us hl => match us, hl with | [_, _], _ => rfl),
      a_is_stuff := He.ga K "is_stuff",
      fd_is_stuff := fd14,
      F_is_stuff := F14,
      m_is_stuff := He.glo_ok X G (c.d.fact 14 (f := .glo "is_stuff") rfl),
      b_is_stuff := (FunD.bindsN F14 fun _ _ _ _ _ _ us hl => match us, hl with | [_], _ => rfl),
      a_is_plate := He.ga K "is_plate",
      fd_is_plate := fd15,
      F_is_plate := F15,
      m_is_plate := He.glo_ok X G (c.d.fact 15 (f := .glo "is_plate") rfl),
      b_is_plate := (FunD.bindsN F15 fun _ _ _ _ _ _ us hl => match us, hl with | [_], _ => rfl),
      a_need_plate := He.ga K "need_plate",
      fd_need_plate := fd16,
      F_need_plate := F16,
      m_need_plate := He.glo_ok X G (c.d.fact 16 (f := .glo "need_plate") rfl),
      b_need_plate := (FunD.bindsN F16 fun _ _ _ _ _ _ us hl => match us, hl with | [_], _ => rfl),
      a_need_piece := He.ga K "need_piece",
      fd_need_piece := fd17,
      F_need_piece := F17,
      m_need_piece := He.glo_ok X G (c.d.fact 17 (f := .glo "need_piece") rfl),
      b_need_piece := (FunD.bindsN F17 fun _ _ _ _ _ _ us hl => match us, hl with | [_, _], _ => rfl),
      a_thickened_by := He.ga K "thickened_by",
      fd_thickened_by := fd18,
      F_thickened_by := F18,
      m_thickened_by := He.glo_ok X G (c.d.fact 18 (f := .glo "thickened_by") rfl),
      b_thickened_by := (FunD.bindsN F18 fun _ _ _ _ _ _ us hl => match us, hl with | [_, _, _], _ => rfl),
      a_need_thick := He.ga K "need_thick",
      fd_need_thick := fd19,
      F_need_thick := F19,
      m_need_thick := He.glo_ok X G (c.d.fact 19 (f := .glo "need_thick") rfl),
      b_need_thick := (FunD.bindsN F19 fun _ _ _ _ _ _ us hl => match us, hl with | [_], _ => rfl),
      a_thickened := He.ga K "thickened",
      fd_thickened := fd20,
      F_thickened := F20,
      m_thickened := He.glo_ok X G (c.d.fact 20 (f := .glo "thickened") rfl),
      b_thickened := (FunD.bindsN F20 fun _ _ _ _ _ _ us hl => match us, hl with | [_, _, _], _ => rfl),
      a__law_cell_at := He.ga K "_law_cell_at",
      fd__law_cell_at := fd21,
      F__law_cell_at := F21,
      m__law_cell_at := He.glo_ok X G (c.d.fact 21 (f := .glo "_law_cell_at") rfl),
      b__law_cell_at := (FunD.bindsN F21 fun _ _ _ _ _ _ us hl => match us, hl with | [_, _], _ => rfl),
      a__law_state := He.ga K "_law_state",
      fd__law_state := fd22,
      F__law_state := F22,
      m__law_state := He.glo_ok X G (c.d.fact 22 (f := .glo "_law_state") rfl),
      b__law_state := (FunD.bindsN F22 fun _ _ _ _ _ _ us hl => match us, hl with | [_, _], _ => rfl),
      a__law_choice := He.ga K "_law_choice",
      fd__law_choice := fd23,
      F__law_choice := F23,
      m__law_choice := He.glo_ok X G (c.d.fact 23 (f := .glo "_law_choice") rfl),
      b__law_choice := (FunD.bindsN F23 fun _ _ _ _ _ _ us hl => match us, hl with | [_, _], _ => rfl),
      a__law_order := He.ga K "_law_order",
      fd__law_order := fd24,
      F__law_order := F24,
      m__law_order := He.glo_ok X G (c.d.fact 24 (f := .glo "_law_order") rfl),
      b__law_order := (FunD.bindsN F24 fun _ _ _ _ _ _ us hl => match us, hl with | [_, _], _ => rfl),
      a__law_shapes := He.ga K "_law_shapes",
      fd__law_shapes := fd25,
      F__law_shapes := F25,
      m__law_shapes := He.glo_ok X G (c.d.fact 25 (f := .glo "_law_shapes") rfl),
      b__law_shapes := (FunD.bindsN F25 fun _ _ _ _ _ _ us hl => match us, hl with | [], _ => rfl),
      a__law_plate := He.ga K "_law_plate",
      fd__law_plate := fd26,
      F__law_plate := F26,
      m__law_plate := He.glo_ok X G (c.d.fact 26 (f := .glo "_law_plate") rfl),
      b__law_plate := (FunD.bindsN F26 fun _ _ _ _ _ _ us hl => match us, hl with | [_, _], _ => rfl),
      a__law_same := He.ga K "_law_same",
      fd__law_same := fd27,
      F__law_same := F27,
      m__law_same := He.glo_ok X G (c.d.fact 27 (f := .glo "_law_same") rfl),
      b__law_same := (FunD.bindsN F27 fun _ _ _ _ _ _ us hl => match us, hl with | [_, _], _ => rfl),
      a__law_odd := He.ga K "_law_odd",
      fd__law_odd := fd28,
      F__law_odd := F28,
      m__law_odd := He.glo_ok X G (c.d.fact 28 (f := .glo "_law_odd") rfl),
      b__law_odd := (FunD.bindsN F28 fun _ _ _ _ _ _ us hl => match us, hl with | [_], _ => rfl),
      a__law_kind := He.ga K "_law_kind",
      fd__law_kind := fd29,
      F__law_kind := F29,
      m__law_kind := He.glo_ok X G (c.d.fact 29 (f := .glo "_law_kind") rfl),
      b__law_kind := (FunD.bindsN F29 fun _ _ _ _ _ _ us hl => match us, hl with | [_], _ => rfl),
      a__law_said := He.ga K "_law_said",
      fd__law_said := fd30,
      F__law_said := F30,
      m__law_said := He.glo_ok X G (c.d.fact 30 (f := .glo "_law_said") rfl),
      b__law_said := (FunD.bindsN F30 fun _ _ _ _ _ _ us hl => match us, hl with | [_], _ => rfl),
      a__law_whole := He.ga K "_law_whole",
      fd__law_whole := fd31,
      F__law_whole := F31,
      m__law_whole := He.glo_ok X G (c.d.fact 31 (f := .glo "_law_whole") rfl),
      b__law_whole := (FunD.bindsN F31 fun _ _ _ _ _ _ us hl => match us, hl with | [_], _ => rfl),
      a__law_bad_plates := He.ga K "_law_bad_plates",
      fd__law_bad_plates := fd32,
      F__law_bad_plates := F32,
      m__law_bad_plates := He.glo_ok X G (c.d.fact 32 (f := .glo "_law_bad_plates") rfl),
      b__law_bad_plates := (FunD.bindsN F32 fun _ _ _ _ _ _ us hl => match us, hl with | [_, _], _ => rfl),
      a_law := He.ga K "law",
      fd_law := fd33,
      F_law := F33,
      m_law := He.glo_ok X G (c.d.fact 33 (f := .glo "law") rfl),
      b_law := (FunD.bindsN F33 fun _ _ _ _ _ _ us hl => match us, hl with | [_], _ => rfl),
      n_ValueError := He.free_ok X G (c.d.fact 34 (f := .free "ValueError") rfl),
      n_all := He.free_ok X G (c.d.fact 35 (f := .free "all") rfl),
      n_any := He.free_ok X G (c.d.fact 36 (f := .free "any") rfl),
      n_bool := He.free_ok X G (c.d.fact 37 (f := .free "bool") rfl),
      n_enumerate := He.free_ok X G (c.d.fact 38 (f := .free "enumerate") rfl),
      n_int := He.free_ok X G (c.d.fact 39 (f := .free "int") rfl),
      n_isinstance := He.free_ok X G (c.d.fact 40 (f := .free "isinstance") rfl),
      n_len := He.free_ok X G (c.d.fact 41 (f := .free "len") rfl),
      n_list := He.free_ok X G (c.d.fact 42 (f := .free "list") rfl),
      n_max := He.free_ok X G (c.d.fact 43 (f := .free "max") rfl),
      n_min := He.free_ok X G (c.d.fact 44 (f := .free "min") rfl),
      n_range := He.free_ok X G (c.d.fact 45 (f := .free "range") rfl),
      n_repr := He.free_ok X G (c.d.fact 46 (f := .free "repr") rfl),
      n_set := He.free_ok X G (c.d.fact 47 (f := .free "set") rfl),
      n_sorted := He.free_ok X G (c.d.fact 48 (f := .free "sorted") rfl),
      n_tuple := He.free_ok X G (c.d.fact 49 (f := .free "tuple") rfl),
      n_zip := He.free_ok X G (c.d.fact 50 (f := .free "zip") rfl),
      e_NoBalance := He.ga K "NoBalance",
      m_NoBalance := He.glo_ok X G (c.d.fact 51 (f := .glo "NoBalance") rfl),
      e_NoDeed := He.ga K "NoDeed",
      m_NoDeed := He.glo_ok X G (c.d.fact 52 (f := .glo "NoDeed") rfl),
      e_NoDeeds := He.ga K "NoDeeds",
      m_NoDeeds := He.glo_ok X G (c.d.fact 53 (f := .glo "NoDeeds") rfl),
      e_NoFirm := He.ga K "NoFirm",
      m_NoFirm := He.glo_ok X G (c.d.fact 54 (f := .glo "NoFirm") rfl),
      e_NoFraction := He.ga K "NoFraction",
      m_NoFraction := He.glo_ok X G (c.d.fact 55 (f := .glo "NoFraction") rfl),
      e_NoFrame := He.ga K "NoFrame",
      m_NoFrame := He.glo_ok X G (c.d.fact 56 (f := .glo "NoFrame") rfl),
      e_NoHolding := He.ga K "NoHolding",
      m_NoHolding := He.glo_ok X G (c.d.fact 57 (f := .glo "NoHolding") rfl),
      e_NoInner := He.ga K "NoInner",
      m_NoInner := He.glo_ok X G (c.d.fact 58 (f := .glo "NoInner") rfl),
      e_NoLine := He.ga K "NoLine",
      m_NoLine := He.glo_ok X G (c.d.fact 59 (f := .glo "NoLine") rfl),
      e_NoLoads := He.ga K "NoLoads",
      m_NoLoads := He.glo_ok X G (c.d.fact 60 (f := .glo "NoLoads") rfl),
      e_NoLot := He.ga K "NoLot",
      m_NoLot := He.glo_ok X G (c.d.fact 61 (f := .glo "NoLot") rfl),
      e_NoMotions := He.ga K "NoMotions",
      m_NoMotions := He.glo_ok X G (c.d.fact 62 (f := .glo "NoMotions") rfl),
      e_NoPiece := He.ga K "NoPiece",
      m_NoPiece := He.glo_ok X G (c.d.fact 63 (f := .glo "NoPiece") rfl),
      x_NoPiece := (He.exc_ok (c.d.fact 64 (f := .exc "NoPiece") rfl)).1,
      k_NoPiece := (He.exc_ok (c.d.fact 64 (f := .exc "NoPiece") rfl)).2.1,
      s_NoPiece := (He.exc_ok (c.d.fact 64 (f := .exc "NoPiece") rfl)).2.2.1,
      t_NoPiece := (He.exc_ok (c.d.fact 64 (f := .exc "NoPiece") rfl)).2.2.2,
      e_NoPlate := He.ga K "NoPlate",
      m_NoPlate := He.glo_ok X G (c.d.fact 65 (f := .glo "NoPlate") rfl),
      x_NoPlate := (He.exc_ok (c.d.fact 66 (f := .exc "NoPlate") rfl)).1,
      k_NoPlate := (He.exc_ok (c.d.fact 66 (f := .exc "NoPlate") rfl)).2.1,
      s_NoPlate := (He.exc_ok (c.d.fact 66 (f := .exc "NoPlate") rfl)).2.2.1,
      t_NoPlate := (He.exc_ok (c.d.fact 66 (f := .exc "NoPlate") rfl)).2.2.2,
      e_NoRest := He.ga K "NoRest",
      m_NoRest := He.glo_ok X G (c.d.fact 67 (f := .glo "NoRest") rfl),
      e_NoRounds := He.ga K "NoRounds",
      m_NoRounds := He.glo_ok X G (c.d.fact 68 (f := .glo "NoRounds") rfl),
      e_NoRows := He.ga K "NoRows",
      m_NoRows := He.glo_ok X G (c.d.fact 69 (f := .glo "NoRows") rfl),
      e_NoStresses := He.ga K "NoStresses",
      m_NoStresses := He.glo_ok X G (c.d.fact 70 (f := .glo "NoStresses") rfl),
      e_NoText := He.ga K "NoText",
      m_NoText := He.glo_ok X G (c.d.fact 71 (f := .glo "NoText") rfl),
      e_NoThick := He.ga K "NoThick",
      m_NoThick := He.glo_ok X G (c.d.fact 72 (f := .glo "NoThick") rfl),
      x_NoThick := (He.exc_ok (c.d.fact 73 (f := .exc "NoThick") rfl)).1,
      k_NoThick := (He.exc_ok (c.d.fact 73 (f := .exc "NoThick") rfl)).2.1,
      s_NoThick := (He.exc_ok (c.d.fact 73 (f := .exc "NoThick") rfl)).2.2.1,
      t_NoThick := (He.exc_ok (c.d.fact 73 (f := .exc "NoThick") rfl)).2.2.2,
      e_NoTurning := He.ga K "NoTurning",
      m_NoTurning := He.glo_ok X G (c.d.fact 74 (f := .glo "NoTurning") rfl),
      e_NoWay := He.ga K "NoWay",
      m_NoWay := He.glo_ok X G (c.d.fact 75 (f := .glo "NoWay") rfl),
      e_NoWays := He.ga K "NoWays",
      m_NoWays := He.glo_ok X G (c.d.fact 76 (f := .glo "NoWays") rfl),
      e_NoWhole := He.ga K "NoWhole",
      m_NoWhole := He.glo_ok X G (c.d.fact 77 (f := .glo "NoWhole") rfl),
      e_NotHeld := He.ga K "NotHeld",
      m_NotHeld := He.glo_ok X G (c.d.fact 78 (f := .glo "NotHeld") rfl),
      e_PlateError := He.ga K "PlateError",
      m_PlateError := He.glo_ok X G (c.d.fact 79 (f := .glo "PlateError") rfl),
      e_TooMany := He.ga K "TooMany",
      m_TooMany := He.glo_ok X G (c.d.fact 80 (f := .glo "TooMany") rfl),
      g_MOST_CORNERS := fun hK hM hg => const_ok X G (c.x 0) hK hM hg (by decide),
      g_MOST_PIECES := fun hK hM hg => const_ok X G (c.x 1) hK hM hg (by decide),
      g_MOST_SPAN := fun hK hM hg => const_ok X G (c.x 2) hK hM hg (by decide),
      g_MOST_STIFF := fun hK hM hg => const_ok X G (c.x 3) hK hM hg (by decide),
      g_MOST_THICK_plates := fun hK hM hg => const_ok X G (c.x 4) hK hM hg (by decide),
      g_MOST_THICK_sums := fun hK hM hg => const_ok X G (c.x 5) hK hM hg (by decide),
      q_law := rfl,
      xt := (exTab_ok X G (c.x 6)).1,
      xe := (exTab_ok X G (c.x 6)).2,
      bk__law_shapes_0 := (FunD.zbn0 F25 0 [] [] fun _ _ _ _ _ _ us ws h1 h2 => match us, h1, ws, h2 with | [], _, [], _ => rfl) }, rfl, fun s u => FunD.bindsA (ps := ["_law_script"]) F33 (fun _ _ _ _ _ _ us hl => match us, hl with | [_], _ => rfl) s [u] rfl⟩
end Hd
open PySem PySem.W PySem.Calls PyProof.Rows
set_option maxRecDepth 100000 in
set_option maxHeartbeats 0 in
theorem PySem.Challenge.cw_platerest_k67_other_thicknesses_holds : PySem.Challenge.rw_platerest_k67_other_thicknesses.Holds := by
  w_on; o_law
  refine HandSHeadRun.head_any (r := OpenLaw.row PySem.Challenge.rw_platerest_k67_other_thicknesses) (q := view (OpenLaw.row PySem.Challenge.rw_platerest_k67_other_thicknesses).prog [71]) (H := Hd.hk) (ob := Hd.ob) (M := 9000) (loose := Hd.names) (d := HandSHeadRun.topDef (OpenLaw.row PySem.Challenge.rw_platerest_k67_other_thicknesses).prog 71) (kwd := []) Hd.ob_eq
    (by kernel_rfl) (fun s => by kernel_rfl) Hd.run (by kernel_rfl) (by kernel_rfl) (by kernel_rfl) (by rfl) (by first | assumption | decide +kernel) (by decide +kernel) ⟨rfl, rfl, rfl, rfl, rfl, by decide +kernel⟩ ?hw ?hc
  case hw => w_witness2
  case hc =>
    refine ZL.zwalkL (l := PySem.Challenge.rw_platerest_k67_other_thicknesses) (n := 63) (k := 10) (x := "_law_script") _root_.K.tfL rfl (by decide) (by kernel_rfl) ⟨rfl, by decide, by decide⟩ ?F
    intro w mg fa h Y G hmg0
    obtain ⟨K, KX, c⟩ := Y
    have hmg : mg ("law" : PySem.Str) = some (.ref fa) := by
      have e : (HandSHeadRun.topDef (OpenLaw.row PySem.Challenge.rw_platerest_k67_other_thicknesses).prog 71).name = ("law" : PySem.Str) := by kernel_rfl
      rw [← e]
      exact hmg0
    obtain ⟨T, ea, hb⟩ := Hd.facts KX G c
    have e := hmg.symm.trans T.m_law
    cases e
    exact ⟨K, T.fd_law, _, KX, ZL.SaysL.tabs c, hb, fun ns hl => _root_.K.law_true ns hl, fun base _ _ TB => _root_.K.ok_law T TB⟩
