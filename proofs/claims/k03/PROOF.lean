import PyProof.Rows.All
import Wide.All
import OpenK.AllK
import Wide.FinOn
import HandS.ForExc
import HandS.Comp
import HandS.Dict
import HandS.Iter
import HandS.Walk
import HandS.IsInst
import HandS.TupAny
import HandS.Wide
import HandS.Text
import HandS.Defaults
import PyProof.ReprRoads
import HandS.Lambda
import HandS.RaiseMore
import HandS.ExcCtx
import HandS.Deep
import HandS.Style
import KE.GoesEnum
import HandS.Conv
import KE.KUnpackStar
import HandS.TryOnly
import HandS.SortInts
import HandS.TupSets
import HandS.Steps
import HandS.TupMul
import KE.KDictZip
import HandS.SetBool
import HandS.Head0
import HandS.Head1
import HandS.Head2
import HandS.HeadEnd
import HandS.HeadHook1
import HandS.HeadHook2
import HandS.TupLe
import HandS.ExcIs
import HandS.HotCalls
import HandS.HeadHook3
import HandS.HeadHook4
import HandS.EndTab
import HandS.More
import HandS.ListEq
import HandS.Flow
import HandS.OwnIter
import PySem.Challenge.RW_platerest_k03_fractions_refused
set_option Elab.async false
set_option linter.all false
set_option maxRecDepth 100000
set_option maxHeartbeats 4000000
namespace ZL
open PySem PySem.Spec PyProof.Rows L2
inductive Z where
  | d (x : PyData)
  | r (a : Addr)
  | k (xs : List PyData)
abbrev zi (i : Int) : Z := .d (.int i)
abbrev zb (b : Bool) : Z := .d (.bool b)
abbrev zt (xs : List PyData) : Z := .d (.tuple xs)
abbrev zl (xs : List PyData) : Z := .d (.list xs)
abbrev zs (x : Str) : Z := .d (.str x)
def SqF (H : Hp) (a : Addr) (xs : List V) : Prop := ∃ o, H a = some (.frz o (.lst xs))
def SqK (K : PySem.W.Frag) (H : Hp) (a : Addr) (xs : List V) : Prop :=
  (∃ o, H a = some (.frz o (.lst xs))) ∨
    ∃ (o : Obj) (its : Array Value) (n : Nat), K.lookup a = some o ∧ o.cls = .type "list" ∧ o.dict = none ∧ o.data = .seq its n ∧ its.size ≤ sizeLine ∧ Vals xs its.toList
theorem SqF.l {K : PySem.W.Frag} {H : Hp} {a : Addr} {xs : List V} (h : SqF H a xs) : SqL K H a xs := .inl (.inr h)
theorem SqK.l {K : PySem.W.Frag} {H : Hp} {a : Addr} {xs : List V} (h : SqK K H a xs) : SqL K H a xs := by
  rcases h with h | h
  · exact .inl (.inr h)
  · exact .inr h
mutual
inductive Fz (K : PySem.W.Frag) (H : Hp) : V → PyData → Prop
  | non : Fz K H .non .none
  | bl (b : Bool) : Fz K H (.bl b) (.bool b)
  | int (i : Int) : Fz K H (.int i) (.int i)
  | str (x : Str) : Fz K H (.str x) (.str x)
  | lst {a : Addr} {xs : List V} {ds : List PyData} : SqF H a xs → FzAll K H xs ds → Fz K H (.ref a) (.list ds)
  | tup {a : Addr} {xs : List V} {ds : List PyData} : SqT K H a xs → FzAll K H xs ds → Fz K H (.ref a) (.tuple ds)
  | dic {a : Addr} {o : Obj} {kvs : List (Key × V)} {ds : List (Int × PyData)} : H a = some (.frz o (.dK kvs)) → kvs.map (·.1) = ds.map (fun p => Sum.inl p.1) → FzAll K H (kvs.map (·.2)) (ds.map (·.2)) → Fz K H (.ref a) (.dict (ds.map fun p => (.int p.1, p.2)))
inductive FzAll (K : PySem.W.Frag) (H : Hp) : List V → List PyData → Prop
  | nil : FzAll K H [] []
  | cons {v : V} {vs : List V} {d : PyData} {ds : List PyData} : Fz K H v d → FzAll K H vs ds → FzAll K H (v :: vs) (d :: ds)
end
structure Le (H H' : Hp) : Prop where
  tup : ∀ b xs, H b = some (.tup xs) → H' b = some (.tup xs)
  frz : ∀ b o u, H b = some (.frz o u) → H' b = some (.frz o u)
theorem Le.refl (H : Hp) : Le H H := ⟨fun _ _ h => h, fun _ _ _ h => h⟩
theorem Le.trans {H H1 H2 : Hp} (a : Le H H1) (b : Le H1 H2) : Le H H2 := ⟨fun c xs h => b.tup c xs (a.tup c xs h), fun c o u h => b.frz c o u (a.frz c o u h)⟩
theorem Le.same {H H' : Hp} (h : Same H H') : Le H H' := ⟨fun _ _ e => h _ _ e, fun _ _ _ e => h _ _ e⟩
section
variable {K : PySem.W.Frag} {H H' : Hp}
theorem SqF.le (l : Le H H') {a : Addr} {xs : List V} (h : SqF H a xs) : SqF H' a xs := let ⟨o, h⟩ := h; ⟨o, l.frz _ _ _ h⟩
theorem SqK.le (l : Le H H') {a : Addr} {xs : List V} (h : SqK K H a xs) : SqK K H' a xs := by
  rcases h with ⟨o, h⟩ | h
  · exact .inl ⟨o, l.frz _ _ _ h⟩
  · exact .inr h
theorem sqT_le (l : Le H H') {a : Addr} {xs : List V} (h : SqT K H a xs) : SqT K H' a xs := by
  rcases h with (h | ⟨o, h⟩) | h
  · exact .inl (.inl (l.tup _ _ h))
  · exact .inl (.inr ⟨o, l.frz _ _ _ h⟩)
  · exact .inr h
mutual
theorem Fz.le (l : Le H H') : ∀ {d : PyData} {v : V}, Fz K H v d → Fz K H' v d
  | _, _, .non => .non
  | _, _, .bl b => .bl b
  | _, _, .int i => .int i
  | _, _, .str x => .str x
  | _, _, .lst s h => .lst (s.le l) (FzAll.le l h)
  | _, _, .tup s h => .tup (sqT_le l s) (FzAll.le l h)
  | _, _, .dic e k h => .dic (l.frz _ _ _ e) k (FzAll.le l h)
theorem FzAll.le (l : Le H H') : ∀ {ds : List PyData} {vs : List V}, FzAll K H vs ds → FzAll K H' vs ds
  | _, _, .nil => .nil
  | _, _, .cons h t => .cons (Fz.le l h) (FzAll.le l t)
end
theorem FzAll.length : ∀ {ds : List PyData} {vs : List V}, FzAll K H vs ds → vs.length = ds.length
  | _, _, .nil => rfl
  | _, _, .cons _ t => congrArg Nat.succ (FzAll.length t)
theorem FzAll.append : ∀ {ds : List PyData} {vs : List V} {es : List PyData} {us : List V}, FzAll K H vs ds → FzAll K H us es → FzAll K H (vs ++ us) (ds ++ es)
  | _, _, _, _, .nil, h => h
  | _, _, _, _, .cons h t, q => .cons h (FzAll.append t q)
theorem FzAll.one {v : V} {d : PyData} (h : Fz K H v d) : FzAll K H [v] [d] := .cons h .nil
theorem FzAll.take : ∀ (n : Nat) {ds : List PyData} {vs : List V}, FzAll K H vs ds → FzAll K H (vs.take n) (ds.take n)
  | 0, _, _, _ => .nil
  | n + 1, _, _, .nil => .nil
  | n + 1, _, _, .cons h t => .cons h (FzAll.take n t)
theorem FzAll.drop : ∀ (n : Nat) {ds : List PyData} {vs : List V}, FzAll K H vs ds → FzAll K H (vs.drop n) (ds.drop n)
  | 0, _, _, h => h
  | n + 1, _, _, .nil => .nil
  | n + 1, _, _, .cons h t => FzAll.drop n t
theorem FzAll.set : ∀ (n : Nat) {ds : List PyData} {vs : List V} {v : V} {d : PyData}, Fz K H v d → FzAll K H vs ds → FzAll K H (vs.set n v) (ds.set n d)
  | _, _, _, _, _, _, .nil => .nil
  | 0, _, _, _, _, q, .cons h t => .cons q t
  | n + 1, _, _, _, _, q, .cons h t => .cons h (FzAll.set n q t)
theorem FzAll.get : ∀ {ds : List PyData} {vs : List V} {i : Nat} {d : PyData}, FzAll K H vs ds → ds[i]? = some d → ∃ v, vs[i]? = some v ∧ Fz K H v d
  | _, _, _, _, .nil, e => by simp at e
  | _, _, 0, _, .cons h t, e => by simp at e; subst e; exact ⟨_, rfl, h⟩
  | _, _, i + 1, _, .cons h t, e => by
    obtain ⟨v, e1, q⟩ := FzAll.get (i := i) t (by simpa using e)
    exact ⟨v, by simpa using e1, q⟩
theorem FzAll.get' : ∀ {ds : List PyData} {vs : List V} {i : Nat} {v : V}, FzAll K H vs ds → vs[i]? = some v → ∃ d, ds[i]? = some d ∧ Fz K H v d
  | _, _, _, _, .nil, e => by simp at e
  | _, _, 0, _, .cons h t, e => by simp at e; subst e; exact ⟨_, rfl, h⟩
  | _, _, i + 1, _, .cons h t, e => by
    obtain ⟨v, e1, q⟩ := FzAll.get' (i := i) t (by simpa using e)
    exact ⟨v, by simpa using e1, q⟩
theorem FzAll.ofInts : ∀ (ns : List Int), FzAll K H (ns.map V.int) (ns.map PyData.int)
  | [] => .nil
  | n :: r => .cons (.int n) (FzAll.ofInts r)
theorem FzAll.bools : ∀ {bs : List Bool} {vs : List V}, FzAll K H vs (bs.map PyData.bool) → vs = bs.map V.bl
  | [], _, h => by cases h; rfl
  | n :: r, _, h => by
    cases h with
    | cons h t => cases h; rw [FzAll.bools t]; rfl
end
inductive Cell where
  | lst (xs : List PyData)
  | tab (dss : List (List PyData))
  | own (p : Addr) (m : Nat)
  | tbl (q : Str)
  | dct (kvs : List (Int × PyData))
abbrev Sto := Addr → Option Cell
def Sto.put (S : Sto) (a : Addr) (c : Cell) : Sto := fun b => if b = a then some c else S b
theorem put_same {S : Sto} {a : Addr} {c : Cell} : S.put a c a = some c := by unfold Sto.put; rw [if_pos rfl]
theorem put_ne {S : Sto} {a b : Addr} {c : Cell} (h : b ≠ a) : S.put a c b = S b := by unfold Sto.put; rw [if_neg h]
def CellOk (K : PySem.W.Frag) (S : Sto) (H : Hp) (a : Addr) : Cell → Prop
  | .lst ds => ∃ xs, H a = some (.lst xs) ∧ FzAll K H xs ds
  | .tab dss => ∃ as : List Addr, H a = some (.lst (as.map V.ref)) ∧ as.length = dss.length ∧ ∀ m b ds, as[m]? = some b → dss[m]? = some ds → S b = some (.own a m) ∧ ∃ xs, H b = some (.lst xs) ∧ FzAll K H xs ds
  | .own p m => (∃ xs, H a = some (.lst xs)) ∧ (∃ dss, S p = some (.tab dss)) ∧ ∃ as : List Addr, H p = some (.lst (as.map V.ref)) ∧ as[m]? = some a
  | .tbl q => LamX.TabS H a q
  | .dct ds => ∃ kvs : List (Key × V), H a = some (.dK kvs) ∧ kvs.map (·.1) = ds.map (fun p => Sum.inl p.1) ∧ FzAll K H (kvs.map (·.2)) (ds.map (·.2))
def RS0 (K : PySem.W.Frag) (S : Sto) (H : Hp) : Prop := ∀ a c, S a = some c → CellOk K S H a c
def Step (S S' : Sto) (H H' : Hp) : Prop := ∀ b o, H b = some o → S b = none → H' b = some o ∧ S' b = none
theorem Step.refl (S : Sto) (H : Hp) : Step S S H H := fun _ _ h e => ⟨h, e⟩
theorem Step.trans {S S1 S2 : Sto} {H H1 H2 : Hp} (a : Step S S1 H H1) (b : Step S1 S2 H1 H2) : Step S S2 H H2 := fun c o h e => let ⟨h1, e1⟩ := a c o h e; b c o h1 e1
section
variable {K : PySem.W.Frag} {S S' : Sto} {H H' : Hp}
theorem CellOk.is {a : Addr} {c : Cell} (h : CellOk K S H a c) : (∃ xs, H a = some (.lst xs)) ∨ (∃ ps, H a = some (.tbl ps)) ∨ ∃ kvs, H a = some (.dK kvs) := by
  cases c with
  | lst ds => obtain ⟨xs, q, _⟩ := h; exact .inl ⟨xs, q⟩
  | tab dss => obtain ⟨as, q, _⟩ := h; exact .inl ⟨_, q⟩
  | own p m => exact .inl h.1
  | tbl q => obtain ⟨ps, q, _⟩ := h; exact .inr (.inl ⟨ps, q⟩)
  | dct ds => obtain ⟨kvs, q, _⟩ := h; exact .inr (.inr ⟨kvs, q⟩)
structure Ln (H H' : Hp) : Prop where
  le : Le H H'
  tb : ∀ b ps, H b = some (.tbl ps) → H' b = some (.tbl ps)
  cd : ∀ b q, H b = some (LamX.CodeO b q) → H' b = some (LamX.CodeO b q)
  dk : ∀ b kvs, H b = some (.dK kvs) → H' b = some (.dK kvs)
theorem Ln.same (h : Same H H') : Ln H H' := ⟨.same h, fun b ps e => h b _ e, fun b q e => h b _ e, fun b q e => h b _ e⟩
theorem Ln.refl (H : Hp) : Ln H H := ⟨.refl _, fun _ _ e => e, fun _ _ e => e, fun _ _ e => e⟩
theorem Ln.but {a : Addr} {o : HO} {u : HO} (h : H a = some u) (h1 : ∀ xs, u ≠ .tup xs) (h2 : ∀ ob v, u ≠ .frz ob v) (h3 : ∀ ps, u ≠ .tbl ps) (h4 : ∀ q, u ≠ LamX.CodeO a q) (h5 : ∀ kvs, u ≠ .dK kvs) : Ln H (upd H a o) := by
  have ne : ∀ {b : Addr} {v : HO}, H b = some v → (b = a → u ≠ v) → b ≠ a := fun {b v} e n z => by
    have := n z
    rw [z, h] at e
    exact this (Option.some.inj e)
  exact ⟨⟨fun b xs e => by rw [upd_ne (ne e fun _ => h1 xs)]; exact e, fun b ob v e => by rw [upd_ne (ne e fun _ => h2 ob v)]; exact e⟩, fun b ps e => by rw [upd_ne (ne e fun _ => h3 ps)]; exact e,
    fun b q e => by rw [upd_ne (ne e fun z => by rw [z]; exact h4 q)]; exact e, fun b kvs e => by rw [upd_ne (ne e fun _ => h5 kvs)]; exact e⟩
theorem tabS_ln {a : Addr} {q : Str} (h : LamX.TabS H a q) (l : Ln H H') : LamX.TabS H' a q := by
  obtain ⟨ps, h1, h2, h3⟩ := h
  refine ⟨ps, l.tb _ _ h1, h2, fun pos cv hc => ?_⟩
  obtain ⟨c, e1, e2⟩ := h3 pos cv hc
  exact ⟨c, e1, l.cd _ _ e2⟩
theorem CellOk.keep {a : Addr} {c : Cell} (h : CellOk K S H a c) (l : Ln H H') (k : ∀ b xs, (b = a ∨ (∃ m, S b = some (.own a m)) ∨ ∃ m, S a = some (.own b m)) → H b = some (.lst xs) → H' b = some (.lst xs)) (o : ∀ b m, S b = some (.own a m) → S' b = some (.own a m)) (t : ∀ p m, c = .own p m → S a = some c ∧ ∀ dss, S p = some (.tab dss) → ∃ dss', S' p = some (.tab dss')) : CellOk K S' H' a c := by
  cases c with
  | lst ds => obtain ⟨xs, q, f⟩ := h; exact ⟨xs, k a xs (.inl rfl) q, f.le l.le⟩
  | tab dss =>
    obtain ⟨as, q, e, r⟩ := h
    refine ⟨as, k a _ (.inl rfl) q, e, fun m b ds h1 h2 => ?_⟩
    obtain ⟨h3, xs, h4, f⟩ := r m b ds h1 h2
    exact ⟨o b m h3, xs, k b xs (.inr (.inl ⟨m, h3⟩)) h4, f.le l.le⟩
  | own p m =>
    obtain ⟨⟨xs, q⟩, ⟨dss, ep⟩, as, hp, e⟩ := h
    obtain ⟨h1, h2⟩ := t p m rfl
    exact ⟨⟨xs, k a xs (.inl rfl) q⟩, h2 dss ep, as, k p _ (.inr (.inr ⟨m, h1⟩)) hp, e⟩
  | tbl q => exact tabS_ln h l
  | dct ds => obtain ⟨kvs, q, e, f⟩ := h; exact ⟨kvs, l.dk _ _ q, e, f.le l.le⟩
theorem CellOk.all {a : Addr} {c : Cell} (h : CellOk K S H a c) (e : S a = some c) (l : Ln H H') (k : ∀ b xs, S b ≠ none → H b = some (.lst xs) → H' b = some (.lst xs)) (o : ∀ b d, S b = some d → S' b = some d) : CellOk K S' H' a c := by
  refine h.keep l (fun b xs q hb => k b xs ?_ hb) (fun b m q => o _ _ q) fun p m q => ⟨e, fun dss q => ⟨dss, o _ _ q⟩⟩
  rcases q with rfl | ⟨m, q⟩ | ⟨m, q⟩
  · rw [e]; exact fun z => nomatch z
  · rw [q]; exact fun z => nomatch z
  · rw [e] at q
    cases q
    obtain ⟨_, ⟨dss, ep⟩, _⟩ := h
    rw [ep]; exact fun z => nomatch z
theorem RS0.notin (r : RS0 K S H) {b : Addr} {o : HO} (h : H b = some o) (n : ∀ xs, o ≠ .lst xs) (n2 : ∀ ps, o ≠ .tbl ps := by intro _ z; exact nomatch z) (n3 : ∀ kvs, o ≠ .dK kvs := by intro _ z; exact nomatch z) : S b = none := by
  cases e : S b with
  | none => rfl
  | some c =>
    rcases (r b _ e).is with ⟨xs, q⟩ | ⟨ps, q⟩ | ⟨kvs, q⟩
    · rw [h] at q
      exact absurd (Option.some.inj q) (n xs)
    · rw [h] at q
      exact absurd (Option.some.inj q) (n2 ps)
    · rw [h] at q
      exact absurd (Option.some.inj q) (n3 kvs)
theorem Step.le (r : RS0 K S H) (s : Step S S' H H') : Le H H' :=
  ⟨fun b xs h => (s b _ h (r.notin h fun _ z => nomatch z)).1, fun b o u h => (s b _ h (r.notin h fun _ z => nomatch z)).1⟩
theorem RS0.fresh (r : RS0 K S H) {p : Addr} (h : H p = none) : S p = none := by
  cases e : S p with
  | none => rfl
  | some c =>
    rcases (r p _ e).is with ⟨xs, q⟩ | ⟨xs, q⟩ | ⟨xs, q⟩ <;> (rw [h] at q; cases q)
theorem RS0.same (r : RS0 K S H) (h : Same H H') : RS0 K S H' := fun a c e => (r a c e).all e (Ln.same h) (fun b xs _ q => h _ _ q) fun _ _ q => q
theorem same_fresh {p : Addr} {o : HO} (h : H p = none) : Same H (upd H p o) := fun b u e => by rw [upd_ne (ne_of_none e h)]; exact e
theorem step_same (h : Same H H') : Step S S H H' := fun b o e n => ⟨h _ _ e, n⟩
theorem RS0.new (r : RS0 K S H) {p : Addr} {xs : List V} {ds : List PyData} (h : H p = none) (f : FzAll K H xs ds) : RS0 K (S.put p (.lst ds)) (upd H p (.lst xs)) := fun a c e => by
  by_cases q : a = p
  · subst q
    rw [put_same] at e; cases e
    exact ⟨xs, upd_same, f.le (.same (same_fresh h))⟩
  · rw [put_ne q] at e
    refine (r a c e).all e (Ln.same (same_fresh h)) (fun b xs _ q => same_fresh h b _ q) fun b d q => ?_
    rw [put_ne fun z => by rw [z, r.fresh h] at q; cases q]; exact q
theorem step_new {p : Addr} {o : HO} {c : Cell} (h : H p = none) : Step S (S.put p c) H (upd H p o) := fun b u e n => ⟨same_fresh h b u e, by rw [put_ne (ne_of_none e h)]; exact n⟩
theorem le_set {a : Addr} {xs ys : List V} (h : H a = some (.lst xs)) : Le H (upd H a (.lst ys)) :=
  ⟨fun b zs e => by rw [upd_ne (ne_of e h fun z => nomatch z)]; exact e, fun b o u e => by rw [upd_ne (ne_of e h fun z => nomatch z)]; exact e⟩
theorem ln_set {a : Addr} {xs : List V} {o : HO} (h : H a = some (.lst xs)) : Ln H (upd H a o) := .but h (fun _ z => nomatch z) (fun _ _ z => nomatch z) (fun _ z => nomatch z) (fun q z => by unfold LamX.CodeO at z; cases z) fun _ z => nomatch z
theorem RS0.set (r : RS0 K S H) {a : Addr} {es : List PyData} {xs : List V} {ds : List PyData} (e : S a = some (.lst es)) (f : FzAll K H xs ds) : RS0 K (S.put a (.lst ds)) (upd H a (.lst xs)) := by
  obtain ⟨ys, h, _⟩ := r a _ e
  intro b c e'
  by_cases q : b = a
  · subst q
    rw [put_same] at e'; cases e'
    exact ⟨xs, upd_same, f.le (le_set h)⟩
  · rw [put_ne q] at e'
    refine (r b c e').keep (ln_set h) (fun x zs hx hz => ?_) (fun x m hx => ?_) fun p m hp => ⟨e', fun dss hd => ⟨dss, ?_⟩⟩
    · have : x ≠ a := by
        rcases hx with rfl | ⟨m, hx⟩ | ⟨m, hx⟩
        · exact q
        · intro z; rw [z, e] at hx; cases hx
        · intro z
          rw [e'] at hx
          cases hx
          obtain ⟨_, ⟨dss, ep⟩, _⟩ := r b _ e'
          rw [z, e] at ep; cases ep
      rw [upd_ne this]; exact hz
    · rw [put_ne fun z => by rw [z, e] at hx; cases hx]; exact hx
    · rw [put_ne fun z => by rw [z, e] at hd; cases hd]; exact hd
theorem step_set {a : Addr} {c c' : Cell} {o : HO} (e : S a = some c) : Step S (S.put a c') H (upd H a o) := fun b u h n => by
  have ne : b ≠ a := fun z => by rw [z, e] at n; cases n
  exact ⟨by rw [upd_ne ne]; exact h, by rw [put_ne ne]; exact n⟩
end
structure Bs where
  S0 : Sto
  H0 : Hp
def RS (K : PySem.W.Frag) (B : Bs) (S : Sto) (H : Hp) : Prop := RS0 K S H ∧ Step B.S0 S B.H0 H
theorem RS.step {K : PySem.W.Frag} {B : Bs} {S S' : Sto} {H H' : Hp} (r : RS K B S H) (r' : RS0 K S' H') (s : Step S S' H H') : RS K B S' H' := ⟨r', r.2.trans s⟩
inductive RZ (K : PySem.W.Frag) (H : Hp) : V → Z → Prop
  | d {v : V} {x : PyData} : Fz K H v x → RZ K H v (.d x)
  | r (a : Addr) : RZ K H (.ref a) (.r a)
  | k {a : Addr} {xs : List V} {ds : List PyData} : SqK K H a xs → FzAll K H xs ds → RZ K H (.ref a) (.k ds)
inductive RZs (K : PySem.W.Frag) (H : Hp) : List V → List Z → Prop
  | nil : RZs K H [] []
  | cons {v : V} {vs : List V} {z : Z} {zs : List Z} : RZ K H v z → RZs K H vs zs → RZs K H (v :: vs) (z :: zs)
abbrev ZEnv := List (Option Z)
inductive RE (K : PySem.W.Frag) (H : Hp) : ZEnv → L2.St → Prop
  | nil : RE K H [] []
  | non {o : Option V} {ρ : ZEnv} {σ : L2.St} : RE K H ρ σ → RE K H (none :: ρ) (o :: σ)
  | val {z : Z} {v : V} {ρ : ZEnv} {σ : L2.St} : RZ K H v z → RE K H ρ σ → RE K H (some z :: ρ) (some v :: σ)
section
variable {K : PySem.W.Frag} {H H' : Hp}
theorem RZ.le (l : Le H H') {v : V} {z : Z} : RZ K H v z → RZ K H' v z
  | .d h => .d (h.le l)
  | .r a => .r a
  | .k s h => .k (s.le l) (h.le l)
theorem RZs.le (l : Le H H') : ∀ {vs : List V} {zs : List Z}, RZs K H vs zs → RZs K H' vs zs
  | _, _, .nil => .nil
  | _, _, .cons h t => .cons (h.le l) (RZs.le l t)
theorem RE.le (l : Le H H') : ∀ {ρ : ZEnv} {σ : L2.St}, RE K H ρ σ → RE K H' ρ σ
  | _, _, .nil => .nil
  | _, _, .non t => .non (RE.le l t)
  | _, _, .val h t => .val (h.le l) (RE.le l t)
theorem RE.get : ∀ {ρ : ZEnv} {σ : L2.St} {i : Nat} {z : Z}, RE K H ρ σ → ρ[i]? = some (some z) → ∃ v, σ[i]? = some (some v) ∧ RZ K H v z
  | _, _, _, _, .nil, e => by simp at e
  | _, _, 0, _, .non _, e => by simp at e
  | _, _, 0, _, .val h t, e => by simp at e; subst e; exact ⟨_, rfl, h⟩
  | _, _, i + 1, _, .non t, e => by
    obtain ⟨v, e1, q⟩ := RE.get (i := i) t (by simpa using e)
    exact ⟨v, by simpa using e1, q⟩
  | _, _, i + 1, _, .val h t, e => by
    obtain ⟨v, e1, q⟩ := RE.get (i := i) t (by simpa using e)
    exact ⟨v, by simpa using e1, q⟩
theorem RE.set : ∀ {ρ : ZEnv} {σ : L2.St} (i : Nat) {v : V} {z : Z}, RZ K H v z → RE K H ρ σ → RE K H (ρ.set i (some z)) (σ.set i (some v))
  | _, _, _, _, _, _, .nil => .nil
  | _, _, 0, _, _, q, .non t => .val q t
  | _, _, 0, _, _, q, .val h t => .val q t
  | _, _, i + 1, _, _, q, .non t => .non (RE.set i q t)
  | _, _, i + 1, _, _, q, .val h t => .val h (RE.set i q t)
theorem RE.unset : ∀ {ρ : ZEnv} {σ : L2.St} (i : Nat) {o : Option V}, RE K H ρ σ → RE K H (ρ.set i none) (σ.set i o)
  | _, _, _, _, .nil => .nil
  | _, _, 0, _, .non t => .non t
  | _, _, 0, _, .val h t => .non t
  | _, _, i + 1, _, .non t => .non (RE.unset i t)
  | _, _, i + 1, _, .val h t => .val h (RE.unset i t)
def zwipe (ρ : ZEnv) : List Nat → ZEnv
  | [] => ρ
  | v :: vs => (zwipe ρ vs).set v none
theorem RE.wipe {ρ : ZEnv} {σ : L2.St} (h : RE K H ρ σ) : ∀ vs : List Nat, RE K H (zwipe ρ vs) (wipe σ vs)
  | [] => h
  | v :: vs => RE.unset v (RE.wipe h vs)
def zstart (N : List Str) (zs : List Z) : ZEnv := zs.map some ++ List.replicate (N.length - zs.length) none
theorem RE.nones : ∀ (n : Nat), RE K H (List.replicate n none) (List.replicate n none)
  | 0 => .nil
  | n + 1 => .non (RE.nones n)
theorem RE.starts : ∀ {vs : List V} {zs : List Z} {ρ : ZEnv} {σ : L2.St}, RZs K H vs zs → RE K H ρ σ → RE K H (zs.map some ++ ρ) (vs.map some ++ σ)
  | _, _, _, _, .nil, h => h
  | _, _, _, _, .cons q t, h => .val q (RE.starts t h)
theorem RZs.length : ∀ {vs : List V} {zs : List Z}, RZs K H vs zs → vs.length = zs.length
  | _, _, .nil => rfl
  | _, _, .cons _ t => congrArg Nat.succ (RZs.length t)
theorem RE.start {N : List Str} {vs : List V} {zs : List Z} (h : RZs K H vs zs) : RE K H (zstart N zs) (start N vs) := by
  unfold zstart L2.start
  rw [h.length]
  exact RE.starts h (RE.nones _)
end
abbrev ZQ := Z → Sto → Prop
abbrev ZT := ZEnv → Sto → ZQ → Prop
abbrev ZA := ZEnv → Sto → (List Z → Sto → Prop) → Prop
abbrev ZB := ZEnv → Sto → (Bool → Sto → Prop) → Prop
def low (K : PySem.W.Frag) (B : Bs) (t : ZT) : TE := fun σ H Q => ∃ ρ S, RE K H ρ σ ∧ RS K B S H ∧ t ρ S fun z S' => ∀ v H', Step S S' H H' → RZ K H' v z → RS K B S' H' → Q v H'
def lowA (K : PySem.W.Frag) (B : Bs) (t : ZA) : TA := fun σ H Q => ∃ ρ S, RE K H ρ σ ∧ RS K B S H ∧ t ρ S fun zs S' => ∀ vs H', Step S S' H H' → RZs K H' vs zs → RS K B S' H' → Q vs H'
def lowB (K : PySem.W.Frag) (B : Bs) (t : ZB) : TT := fun σ H Q => ∃ ρ S, RE K H ρ σ ∧ RS K B S H ∧ t ρ S fun b S' => ∀ H', Step S S' H H' → RS K B S' H' → Q b H'
structure ZE (X : Cx) (B : Bs) (e : Expr) (t : ZT) : Prop where
  mono : ∀ {ρ S} {Q Q' : ZQ}, (∀ z S', Q z S' → Q' z S') → t ρ S Q → t ρ S Q'
  pe : PE X e (low X.K B t)
structure ZAs (X : Cx) (B : Bs) (es : List Expr) (t : ZA) : Prop where
  mono : ∀ {ρ S} {Q Q' : List Z → Sto → Prop}, (∀ z S', Q z S' → Q' z S') → t ρ S Q → t ρ S Q'
  pa : PA X es (lowA X.K B t)
structure ZTe (X : Cx) (B : Bs) (e : Expr) (t : ZB) : Prop where
  mono : ∀ {ρ S} {Q Q' : Bool → Sto → Prop}, (∀ z S', Q z S' → Q' z S') → t ρ S Q → t ρ S Q'
  pt : PT X e (lowB X.K B t)
structure ZW (X : Cx) (B : Bs) (e : Expr) (t : ZB) : Prop where
  mono : ∀ {ρ S} {Q Q' : Bool → Sto → Prop}, (∀ z S', Q z S' → Q' z S') → t ρ S Q → t ρ S Q'
  pw : PW X e (lowB X.K B t)
theorem PE.imp {X : Cx} {e : Expr} {t t' : TE} (h : PE X e t) (q : ∀ σ H Q, t' σ H Q → t σ H Q) : PE X e t' := ⟨fun pins s σ H Q I w => h.run pins s σ H Q I (q σ H Q w)⟩
theorem PA.imp {X : Cx} {e : List Expr} {t t' : TA} (h : PA X e t) (q : ∀ σ H Q, t' σ H Q → t σ H Q) : PA X e t' := ⟨fun pos pins s σ H Q I w => h.run pos pins s σ H Q I (q σ H Q w)⟩
theorem PT.imp {X : Cx} {e : Expr} {t t' : TT} (h : PT X e t) (q : ∀ σ H Q, t' σ H Q → t σ H Q) : PT X e t' := ⟨fun pins s σ H Q I w => h.run pins s σ H Q I (q σ H Q w)⟩
theorem PW.imp {X : Cx} {e : Expr} {t t' : TT} (h : PW X e t) (q : ∀ σ H Q, t' σ H Q → t σ H Q) : PW X e t' := ⟨fun wh pins s σ H Q I w => h.run wh pins s σ H Q I (q σ H Q w)⟩
theorem PS.imp {X : Cx} {e : Stmt} {t t' : TS} (h : PS X e t) (q : ∀ D σ H, t' D σ H → t D σ H) : PS X e t' := ⟨fun pins s σ H D I w => h.run pins s σ H D I (q D σ H w)⟩
theorem PSs.imp {X : Cx} {e : List Stmt} {t t' : TS} (h : PSs X e t) (q : ∀ D σ H, t' D σ H → t D σ H) : PSs X e t' := ⟨fun pins s σ H D I w => h.run pins s σ H D I (q D σ H w)⟩
section
variable {X : Cx} {B : Bs} {e a b : Expr} {es : List Expr} {ta tb : ZT} {t : ZA} {tc : ZB}
theorem ZE.go (h : ZE X B e ta) {ρ : ZEnv} {S : Sto} {σ : L2.St} {H : Hp} {R : ZQ} {Q : VK} (hE : RE X.K H ρ σ) (hS : RS X.K B S H) (w : ta ρ S R)
    (k : ∀ z S' v H', R z S' → Step S S' H H' → RE X.K H' ρ σ → RS X.K B S' H' → RZ X.K H' v z → Q v H') : low X.K B ta σ H Q :=
  ⟨ρ, S, hE, hS, h.mono (fun z S' r v H' st rz rs => k z S' v H' r st (hE.le (st.le hS.1)) rs rz) w⟩
theorem ZAs.go (h : ZAs X B es t) {ρ : ZEnv} {S : Sto} {σ : L2.St} {H : Hp} {R : List Z → Sto → Prop} {Q : List V → Hp → Prop} (hE : RE X.K H ρ σ) (hS : RS X.K B S H) (w : t ρ S R)
    (k : ∀ z S' v H', R z S' → Step S S' H H' → RE X.K H' ρ σ → RS X.K B S' H' → RZs X.K H' v z → Q v H') : lowA X.K B t σ H Q :=
  ⟨ρ, S, hE, hS, h.mono (fun z S' r v H' st rz rs => k z S' v H' r st (hE.le (st.le hS.1)) rs rz) w⟩
theorem ZTe.go (h : ZTe X B e tc) {ρ : ZEnv} {S : Sto} {σ : L2.St} {H : Hp} {R : Bool → Sto → Prop} {Q : Bool → Hp → Prop} (hE : RE X.K H ρ σ) (hS : RS X.K B S H) (w : tc ρ S R)
    (k : ∀ z S' H', R z S' → Step S S' H H' → RE X.K H' ρ σ → RS X.K B S' H' → Q z H') : lowB X.K B tc σ H Q :=
  ⟨ρ, S, hE, hS, h.mono (fun z S' r H' st rs => k z S' H' r st (hE.le (st.le hS.1)) rs) w⟩
theorem ZW.go (h : ZW X B e tc) {ρ : ZEnv} {S : Sto} {σ : L2.St} {H : Hp} {R : Bool → Sto → Prop} {Q : Bool → Hp → Prop} (hE : RE X.K H ρ σ) (hS : RS X.K B S H) (w : tc ρ S R)
    (k : ∀ z S' H', R z S' → Step S S' H H' → RE X.K H' ρ σ → RS X.K B S' H' → Q z H') : lowB X.K B tc σ H Q :=
  ⟨ρ, S, hE, hS, h.mono (fun z S' r H' st rs => k z S' H' r st (hE.le (st.le hS.1)) rs) w⟩
abbrev ZR2 := Z → Z → Sto → ZQ → Prop
def lowR (K : PySem.W.Frag) (B : Bs) (r : ZR2) : R2 := fun x y H Q => ∃ z1 z2 S, RZ K H x z1 ∧ RZ K H y z2 ∧ RS K B S H ∧ r z1 z2 S fun z S' => ∀ v H', Step S S' H H' → RZ K H' v z → RS K B S' H' → Q v H'
structure ZOp (X : Cx) (f : Value → Value → Sem Value) (r : ZR2) : Prop where
  mono : ∀ {x y S} {Q Q' : ZQ}, (∀ z S', Q z S' → Q' z S') → r x y S Q → r x y S Q'
  op : ∀ B, OpR X f (lowR X.K B r)
def zOp (r : ZR2) (ta tb : ZT) : ZT := fun ρ S Q => ta ρ S fun x S1 => tb ρ S1 fun y S2 => r x y S2 Q
theorem low_op {f : Value → Value → Sem Value} {r : ZR2} (ho : ZOp X f r) (ha : ZE X B a ta) (hb : ZE X B b tb) : ∀ σ H Q, low X.K B (zOp r ta tb) σ H Q → tOp (lowR X.K B r) (low X.K B ta) (low X.K B tb) σ H Q := by
  rintro σ H Q ⟨ρ, S, hE, hS, h⟩
  refine ha.go hE hS h fun x S1 v1 H1 h1 st1 E1 R1 z1 => ?_
  refine hb.go E1 R1 h1 fun y S2 v2 H2 h2 st2 E2 R2 z2 => ?_
  exact ⟨x, y, S2, z1.le (st2.le R1.1), z2, R2, ho.mono (fun z S' q v H' st rz rs => q v H' ((st1.trans st2).trans st) rz rs) h2⟩
theorem zOp_mono {f : Value → Value → Sem Value} {r : ZR2} (ho : ZOp X f r) (ha : ZE X B a ta) (hb : ZE X B b tb) {ρ : ZEnv} {S : Sto} {Q Q' : ZQ} (q : ∀ z S', Q z S' → Q' z S') (h : zOp r ta tb ρ S Q) : zOp r ta tb ρ S Q' :=
  ha.mono (fun x S1 h1 => hb.mono (fun y S2 h2 => ho.mono q h2) h1) h
theorem ze_op {op : Operator} {r : ZR2} {pos : Pos} (ho : ZOp X (binaryOp op) r) (ha : ZE X B a ta) (hb : ZE X B b tb) : ZE X B (.BinOp a op b pos) (zOp r ta tb) :=
  ⟨zOp_mono ho ha hb, PE.imp (pe_op (ho.op B) ha.pe hb.pe) (low_op ho ha hb)⟩
theorem ze_cmp {op : CmpOp} {r : ZR2} {pos : Pos} (ho : ZOp X (compareOp op) r) (ha : ZE X B a ta) (hb : ZE X B b tb) (hm : behindInMarks op b = false := by first | rfl | exact nomark _) : ZE X B (.Compare a [op] [b] pos) (zOp r ta tb) :=
  ⟨zOp_mono ho ha hb, PE.imp (pe_cmpR (ho.op B) ha.pe hb.pe hm) (low_op ho ha hb)⟩
def zVar (i : Nat) : ZT := fun ρ S Q => match ρ[i]? with
  | some (some z) => Q z S
  | _ => False
def zC (z : Z) : ZT := fun _ S Q => Q z S
theorem zv (i : Nat) {x : Str} {pos : Pos} (hN : X.N[i]? = some x := by rfl) (hv : Vis X.env.scope x := by first | exact Or.inl rfl | exact Or.inr (Or.inl rfl) | exact Or.inr (Or.inr rfl)) (hd : (x == ("__debug__" : Str)) = false := by decide)
    (hcd : (x == ("__classdict__" : Str)) = false := by decide) : ZE X B (.Name x pos) (zVar i) := by
  refine ⟨fun {ρ S Q Q'} q h => ?_, PE.imp (pe_var hN hv hd hcd) ?_⟩
  · unfold zVar at *
    split at h
    · exact q _ _ h
    · exact h.elim
  · rintro σ H Q ⟨ρ, S, hE, hS, h⟩
    unfold zVar at h
    split at h
    · rename_i z e
      obtain ⟨v, e1, rz⟩ := hE.get e
      exact ⟨v, e1, h v H (.refl _ _) rz hS⟩
    · exact h.elim
theorem ze_C {z : Z} {v : V} (h : PE X e (tC v)) (hz : ∀ H, RZ X.K H v z) : ZE X B e (zC z) := by
  refine ⟨fun q h => q _ _ h, PE.imp h ?_⟩
  rintro σ H Q ⟨ρ, S, hE, hS, h⟩
  exact h v H (.refl _ _) (hz H) hS
theorem ze_int {i j pos} : ZE X B (.Constant (.int i) j pos) (zC (zi i)) := ze_C pe_int fun _ => .d (.int i)
theorem ze_bl {i j pos} : ZE X B (.Constant (.bool i) j pos) (zC (zb i)) := ze_C pe_bl fun _ => .d (.bl i)
theorem ze_non {j pos} : ZE X B (.Constant .none j pos) (zC (.d .none)) := ze_C pe_non fun _ => .d .non
theorem ze_str {x j pos} : ZE X B (.Constant (.str x) j pos) (zC (zs x)) := ze_C pe_str fun _ => .d (.str x)
theorem ze_glob {x : Str} {v : V} {u : Value} {z : Z} {pos : Pos} (hg : Gl X x) (hm : X.mg x = some u) (r : RelV v u) (hz : ∀ H, RZ X.K H v z) (hd : (x == ("__debug__" : Str)) = false := by decide) : ZE X B (.Name x pos) (zC z) :=
  ze_C (pe_glob hg hm r hd) hz
def zNil : ZA := fun _ S Q => Q [] S
def zCons (ta : ZT) (t : ZA) : ZA := fun ρ S Q => ta ρ S fun x S1 => t ρ S1 fun xs S2 => Q (x :: xs) S2
theorem za_nil : ZAs X B [] zNil := by
  refine ⟨fun q h => q _ _ h, PA.imp pa_nil ?_⟩
  rintro σ H Q ⟨ρ, S, hE, hS, h⟩
  exact h [] H (.refl _ _) .nil hS
theorem za_cons (ha : ZE X B a ta) (hr : ZAs X B es t) (hs : starEach (a :: es) X.env = (false, eval a X.env) :: starEach es X.env := by rfl) : ZAs X B (a :: es) (zCons ta t) := by
  refine ⟨fun q h => ha.mono (fun x S1 h1 => hr.mono (fun xs S2 h2 => q _ _ h2) h1) h, PA.imp (pa_cons ha.pe hr.pa hs) ?_⟩
  rintro σ H Q ⟨ρ, S, hE, hS, h⟩
  refine ha.go hE hS h fun x S1 v1 H1 h1 st1 E1 R1 z1 => ?_
  refine hr.go E1 R1 h1 fun xs S2 vs H2 h2 st2 E2 R2 zs => ?_
  exact h2 (v1 :: vs) H2 (st1.trans st2) (.cons (z1.le (st2.le R1.1)) zs) R2
def datas : List Z → Option (List PyData)
  | [] => some []
  | .d x :: r => (datas r).map (x :: ·)
  | _ :: _ => none
theorem datas_fz {K : PySem.W.Frag} {H : Hp} : ∀ {vs : List V} {zs : List Z} {ds : List PyData}, RZs K H vs zs → datas zs = some ds → FzAll K H vs ds
  | _, _, _, .nil, e => by simp [datas] at e; subst e; exact .nil
  | _, .d x :: r, ds, .cons (.d h) t, e => by
    simp only [datas, Option.map_eq_some_iff] at e
    obtain ⟨es, e1, e2⟩ := e
    subst e2
    exact .cons h (datas_fz t e1)
  | _, .r _ :: _, _, .cons _ _, e => by simp [datas] at e
  | _, .k _ :: _, _, .cons _ _, e => by simp [datas] at e
def zTup (t : ZA) : ZT := fun ρ S Q => t ρ S fun zs S1 => match datas zs with
  | some ds => ds.length ≤ sizeLine ∧ Q (zt ds) S1
  | none => False
theorem ze_tup {x1 pos} (h : ZAs X B es t) : ZE X B (.Tuple es x1 pos) (zTup t) := by
  refine ⟨fun {ρ S Q Q'} q w => h.mono (fun zs S1 h1 => ?_) w, PE.imp (pe_tup h.pa) ?_⟩
  · split at h1
    · rename_i ds e
      exact ⟨h1.1, q _ _ h1.2⟩
    · exact h1.elim
  · rintro σ H Q ⟨ρ, S, hE, hS, w⟩
    refine h.go hE hS w fun zs S1 vs H1 h1 st1 E1 R1 rz => ?_
    split at h1
    · rename_i ds e
      have f := datas_fz rz e
      refine ⟨by rw [f.length]; exact h1.1, fun p hp => ?_⟩
      have sm : Same H1 (upd H1 p (.tup vs)) := same_fresh hp
      exact h1.2 _ _ (st1.trans (step_same sm)) (.d (.tup (SqT.of upd_same) (f.le (.same sm)))) (R1.step (R1.1.same sm) (step_same sm))
    · exact h1.elim
theorem pe_rest {e : Expr} {t : TE} (h : PE X e t) : PE X e (fun σ H Q => t σ H fun v H' => ∃ a xs, v = .ref a ∧ H' a = some (.lst xs) ∧ ∀ o, Q v (upd H' a (.frz o (.lst xs)))) := by
  refine ⟨fun pins s σ H Q I w => ?_⟩
  refine thn (h.run pins s σ H _ I w) fun u s1 ⟨v, H1, I1, r1, a, xs, ev, ea, q⟩ => ?_
  obtain ⟨o, I2⟩ := I1.lock ea True.intro
  exact ⟨v, _, I2, r1, q o⟩
theorem pe_restD {e : Expr} {t : TE} (h : PE X e t) : PE X e (fun σ H Q => t σ H fun v H' => ∃ a xs, v = .ref a ∧ H' a = some (.dK xs) ∧ ∀ o, Q v (upd H' a (.frz o (.dK xs)))) := by
  refine ⟨fun pins s σ H Q I w => ?_⟩
  refine thn (h.run pins s σ H _ I w) fun u s1 ⟨v, H1, I1, r1, a, xs, ev, ea, q⟩ => ?_
  obtain ⟨o, I2⟩ := I1.lock ea True.intro
  exact ⟨v, _, I2, r1, q o⟩
def zLst (t : ZA) : ZT := fun ρ S Q => t ρ S fun zs S1 => match datas zs with
  | some ds => ds.length ≤ sizeLine ∧ Q (zl ds) S1
  | none => False
theorem ze_lst {pos} (h : ZAs X B es t) : ZE X B (.List es pos) (zLst t) := by
  refine ⟨fun {ρ S Q Q'} q w => h.mono (fun zs S1 h1 => ?_) w, PE.imp (pe_rest (pe_lst h.pa)) ?_⟩
  · split at h1
    · rename_i ds e
      exact ⟨h1.1, q _ _ h1.2⟩
    · exact h1.elim
  · rintro σ H Q ⟨ρ, S, hE, hS, w⟩
    refine h.go hE hS w fun zs S1 vs H1 h1 st1 E1 R1 rz => ?_
    split at h1
    · rename_i ds e
      have f := datas_fz rz e
      refine ⟨by rw [f.length]; exact h1.1, fun p hp => ⟨p, vs, rfl, upd_same, fun o => ?_⟩⟩
      rw [upd_upd]
      have sm : Same H1 (upd H1 p (.frz o (.lst vs))) := same_fresh hp
      exact h1.2 _ _ (st1.trans (step_same sm)) (.d (.lst ⟨o, upd_same⟩ (f.le (.same sm)))) (R1.step (R1.1.same sm) (step_same sm))
    · exact h1.elim
def zLstM (t : ZA) : ZT := fun ρ S Q => t ρ S fun zs S1 => match datas zs with
  | some ds => ds.length ≤ sizeLine ∧ ∀ p, S1 p = none → Q (.r p) (S1.put p (.lst ds))
  | none => False
theorem ze_lstM {pos} (h : ZAs X B es t) : ZE X B (.List es pos) (zLstM t) := by
  refine ⟨fun {ρ S Q Q'} q w => h.mono (fun zs S1 h1 => ?_) w, PE.imp (pe_lst h.pa) ?_⟩
  · split at h1
    · rename_i ds e
      exact ⟨h1.1, fun p hp => q _ _ (h1.2 p hp)⟩
    · exact h1.elim
  · rintro σ H Q ⟨ρ, S, hE, hS, w⟩
    refine h.go hE hS w fun zs S1 vs H1 h1 st1 E1 R1 rz => ?_
    split at h1
    · rename_i ds e
      have f := datas_fz rz e
      refine ⟨by rw [f.length]; exact h1.1, fun p hp => ?_⟩
      exact h1.2 p (R1.1.fresh hp) _ _ (st1.trans (step_new hp)) (.r p) (R1.step (R1.1.new hp f) (step_new hp))
    · exact h1.elim
end
end ZL
namespace ZL
open PySem PySem.Spec PyProof.Rows L2
section
variable {X : Cx} {B : Bs}
def rZI (C : Int → Int → Prop) (g : Int → Int → Z) : ZR2 := fun x y S Q => match x, y with
  | .d (.int i), .d (.int j) => C i j ∧ Q (g i j) S
  | _, _ => False
def rZ0 (g : Int → Int → Z) : ZR2 := fun x y S Q => match x, y with
  | .d (.int i), .d (.int j) => Q (g i j) S
  | _, _ => False
theorem zop_I {f : Value → Value → Sem Value} {C : Int → Int → Prop} {g : Int → Int → Int} (h : OpR X f (rI C fun i j => .int (g i j))) : ZOp X f (rZI C fun i j => zi (g i j)) := by
  constructor
  · intro x y S Q Q' q w
    unfold rZI at *
    split at w
    · exact ⟨w.1, q _ _ w.2⟩
    · exact w.elim
  · rintro B pins s σ H x y v u Q I rx ry ⟨z1, z2, S, h1, h2, hS, w⟩
    unfold rZI at w
    split at w
    · cases h1 with | d h1 => cases h1; cases h2 with | d h2 => cases h2; exact h pins s σ H _ _ v u Q I rx ry ⟨_, _, rfl, rfl, w.1, w.2 _ H (.refl _ _) (.d (.int _)) hS⟩
    · exact w.elim
theorem zop_0 {f : Value → Value → Sem Value} {g : Int → Int → Int} (h : OpR X f (rI0 fun i j => .int (g i j))) : ZOp X f (rZ0 fun i j => zi (g i j)) := by
  constructor
  · intro x y S Q Q' q w
    unfold rZ0 at *
    split at w
    · exact q _ _ w
    · exact w.elim
  · rintro B pins s σ H x y v u Q I rx ry ⟨z1, z2, S, h1, h2, hS, w⟩
    unfold rZ0 at w
    split at w
    · cases h1 with | d h1 => cases h1; cases h2 with | d h2 => cases h2; exact h pins s σ H _ _ v u Q I rx ry ⟨_, _, rfl, rfl, w _ H (.refl _ _) (.d (.int _)) hS⟩
    · exact w.elim
theorem zop_0b {f : Value → Value → Sem Value} {g : Int → Int → Bool} (h : OpR X f (rI0 fun i j => .bl (g i j))) : ZOp X f (rZ0 fun i j => zb (g i j)) := by
  constructor
  · intro x y S Q Q' q w
    unfold rZ0 at *
    split at w
    · exact q _ _ w
    · exact w.elim
  · rintro B pins s σ H x y v u Q I rx ry ⟨z1, z2, S, h1, h2, hS, w⟩
    unfold rZ0 at w
    split at w
    · cases h1 with | d h1 => cases h1; cases h2 with | d h2 => cases h2; exact h pins s σ H _ _ v u Q I rx ry ⟨_, _, rfl, rfl, w _ H (.refl _ _) (.d (.bl _)) hS⟩
    · exact w.elim
theorem zsub : ZOp X (binaryOp .Sub) (rZ0 fun i j => zi (i - j)) := zop_0 op_sub
theorem zlt : ZOp X (compareOp .Lt) (rZ0 fun i j => zb (decide (i < j))) := zop_0b op_lt
theorem zgt : ZOp X (compareOp .Gt) (rZ0 fun i j => zb (decide (j < i))) := zop_0b op_gt
def MulOk (i j : Int) : Prop := IntMulOk i j
theorem MulOk.left {i j : Int} (h1 : -(2 ^ 64) < i) (h2 : i < 2 ^ 64) : MulOk i j := .of_left (intBits_le_64 h1 h2)
theorem MulOk.right {i j : Int} (h1 : -(2 ^ 64) < j) (h2 : j < 2 ^ 64) : MulOk i j := .of_right (intBits_le_64 h1 h2)
theorem bits_le {x : Int} {n : Nat} (h : x.natAbs < 2 ^ n) : Builtin.Int.intBits x ≤ n := by
  unfold Builtin.Int.intBits
  split
  · exact Nat.zero_le _
  · rename_i hx
    have h0 : x.natAbs ≠ 0 := fun e => hx (by simpa using e)
    have := (Nat.log2_lt h0).mpr h
    omega
theorem MulOk.wide {i j : Int} {a b : Nat} (ha : i.natAbs < 2 ^ a) (hb : j.natAbs < 2 ^ b) (h : a + b ≤ 134217728) : MulOk i j := .of_le (bits_le ha) (bits_le hb) h
def rZAdd : ZR2 := fun x y S Q => match x, y with
  | .d (.int i), .d (.int j) => Q (zi (i + j)) S
  | .d (.str i), .d (.str j) => i.length + j.length ≤ sizeLine ∧ Q (zs (i ++ j)) S
  | .d (.tuple a), .d (.tuple b) => a.length + b.length ≤ sizeLine ∧ Q (zt (a ++ b)) S
  | _, _ => False
theorem zadd : ZOp X (binaryOp .Add) rZAdd := by
  constructor
  · intro x y S Q Q' q w
    unfold rZAdd at *
    split at w
    · exact q _ _ w
    · exact ⟨w.1, q _ _ w.2⟩
    · exact ⟨w.1, q _ _ w.2⟩
    · exact w.elim
  · rintro B pins s σ H x y v u Q I rx ry ⟨z1, z2, S, h1, h2, hS, w⟩
    unfold rZAdd at w
    split at w
    · cases h1 with | d h1 => cases h1; cases h2 with | d h2 => cases h2; exact op_add pins s σ H _ _ v u Q I rx ry ⟨_, _, rfl, rfl, w _ H (.refl _ _) (.d (.int _)) hS⟩
    · cases h1 with | d h1 => cases h1; cases h2 with | d h2 => cases h2; exact op_add_str pins s σ H _ _ v u Q I rx ry ⟨_, _, rfl, rfl, w.1, w.2 _ H (.refl _ _) (.d (.str _)) hS⟩
    · rename_i a b
      cases h1 with
      | d h1 =>
        cases h1 with
        | @tup p xs _ s1 f1 =>
          cases h2 with
          | d h2 =>
            cases h2 with
            | @tup p2 ys _ s2 f2 =>
              refine op_catA pins s σ H _ _ v u Q I rx ry ⟨p, p2, xs, ys, rfl, rfl, s1, s2, by rw [f1.length, f2.length]; exact w.1, fun e => ?_, fun e e2 => ?_, fun e e2 t ht => ?_⟩
              · subst e
                cases f1
                exact w.2 _ H (.refl _ _) (.d (.tup s2 f2)) hS
              · subst e2
                cases f2
                have w2 := w.2
                rw [List.append_nil] at w2
                exact w2 _ H (.refl _ _) (.d (.tup s1 f1)) hS
              · have sm : Same H (upd H t (.tup (xs ++ ys))) := same_fresh ht
                exact w.2 _ _ (step_same sm) (.d (.tup (SqT.of upd_same) ((f1.append f2).le (.same sm)))) (hS.step (hS.1.same sm) (step_same sm))
    · exact w.elim
def rZMul : ZR2 := rZI MulOk fun i j => zi (i * j)
theorem zmul : ZOp X (binaryOp .Mult) rZMul := by
  constructor
  · intro x y S Q Q' q w
    unfold rZMul rZI at *
    split at w
    · exact ⟨w.1, q _ _ w.2⟩
    · exact w.elim
  · rintro B pins s σ H x y v u Q I rx ry ⟨z1, z2, S, h1, h2, hS, w⟩
    unfold rZMul rZI at w
    split at w
    · rename_i i j
      cases h1 with | d h1 => cases h1; cases h2 with | d h2 => cases h2; obtain ⟨t, rfl⟩ := rx; obtain ⟨t', rfl⟩ := ry; exact mul_int ⟨.int (i * j), H, I.tok _, ⟨_, rfl⟩, w.2 _ H (.refl _ _) (.d (.int _)) hS⟩ w.1
    · exact w.elim
def DivOk (_ j : Int) : Prop := j ≠ 0 ∧ j.natAbs.log2 < 9000
theorem DivOk.wide {i j : Int} {n : Nat} (h : j ≠ 0) (h2 : j.natAbs < 2 ^ n) (hn : n ≤ 9000 := by decide) : DivOk i j := ⟨h, by
  have := (Nat.log2_lt (by omega)).mpr h2
  omega⟩
theorem DivOk.small {i j : Int} (h : j ≠ 0) (h2 : j.natAbs < 2 ^ 64) : DivOk i j := .wide h h2
theorem op_fdivZ : OpR X (binaryOp .FloorDiv) (rI DivOk fun i j => .int (i.fdiv j)) := opI fun _ _ _ _ _ _ _ hc q => floordiv_int hc.1 q (.inl (PyProof.noPylong_of_log2 hc.2))
theorem zfdiv : ZOp X (binaryOp .FloorDiv) (rZI DivOk fun i j => zi (i.fdiv j)) := zop_I op_fdivZ
theorem zmod : ZOp X (binaryOp .Mod) (rZI (fun _ j => 0 < j) fun i j => zi (i % j)) := zop_I op_mod
def PowOk (i j : Int) : Prop := 0 ≤ j ∧ j ≤ 1000000 ∧ i.natAbs < 2 ^ 64
theorem zpow : ZOp X (binaryOp .Pow) (rZI PowOk fun i j => zi (i ^ j.toNat)) := zop_I (C := PowOk) fun pins s σ H x y v u Q I rx ry h => op_pow pins s σ H x y v u Q I rx ry h
def zNeg (ta : ZT) : ZT := fun ρ S Q => ta ρ S fun x S1 => match x with
  | .d (.int i) => Q (zi (-i)) S1
  | _ => False
theorem ze_neg {a : Expr} {ta : ZT} {pos : Pos} (ha : ZE X B a ta) : ZE X B (.UnaryOp .USub a pos) (zNeg ta) := by
  refine ⟨fun {ρ S Q Q'} q w => ha.mono (fun z S1 h1 => ?_) w, PE.imp (pe_un un_neg ha.pe) ?_⟩
  · split at h1
    · exact q _ _ h1
    · exact h1.elim
  · rintro σ H Q ⟨ρ, S, hE, hS, h⟩
    refine ha.go hE hS h fun x S1 v1 H1 h1 st1 E1 R1 z1 => ?_
    split at h1
    · cases z1 with | d z1 => cases z1; exact ⟨_, rfl, h1 _ H1 st1 (.d (.int _)) R1⟩
    · exact h1.elim
theorem Fz.dp {K : PySem.W.Frag} {H : Hp} : ∀ {d : PyData} {v : V}, d.hasDict = false → Fz K H v d → Dp K H v d := by
  have main : ∀ n, (∀ (d : PyData) (v : V), sizeOf d < n → d.hasDict = false → Fz K H v d → Dp K H v d) ∧ ∀ (ds : List PyData) (vs : List V), sizeOf ds < n → PyData.hasDictAll ds = false → FzAll K H vs ds → DpAll K H vs ds := by
    intro n
    induction n with
    | zero => exact ⟨fun _ _ h => absurd h (Nat.not_lt_zero _), fun _ _ h => absurd h (Nat.not_lt_zero _)⟩
    | succ n ih =>
      constructor
      · intro d v hn hd h
        cases h with
        | non => exact .non
        | bl b => exact .bl b
        | int i => exact .int i
        | str x => exact .str x
        | lst s f => exact .lst s.l (ih.2 _ _ (by simp only [PyData.list.sizeOf_spec] at hn; omega) (by simpa [PyData.hasDict] using hd) f)
        | tup s f => exact .tup s (ih.2 _ _ (by simp only [PyData.tuple.sizeOf_spec] at hn; omega) (by simpa [PyData.hasDict] using hd) f)
        | dic e _ _ => simp [PyData.hasDict] at hd
      · intro ds vs hn hd h
        cases h with
        | nil => exact .nil
        | cons h t =>
          simp only [List.cons.sizeOf_spec] at hn
          simp only [PyData.hasDictAll, Bool.or_eq_false_iff] at hd
          exact .cons (ih.1 _ _ (by omega) hd.1 h) (ih.2 _ _ (by omega) hd.2 t)
  intro d v hd h
  exact (main (sizeOf d + 1)).1 d v (Nat.lt_succ_self _) hd h
theorem noDict_of_shaped {d : PyData} (h : SeqAt.shaped d = true) : d.hasDict = false := PyData.hasDict_of_canLay d (SeqAt.canLay_of_shaped h)
def Sh (a b : PyData) : Prop := SeqAt.shaped a = true ∧ SeqAt.shaped b = true
def rZEq : ZR2 := fun x y S Q => match x, y with
  | .d (.int i), .d (.int j) => Q (zb (decide (i = j))) S
  | .d (.str i), .d (.str j) => Q (zb (decide (i = j))) S
  | .d a, .d b => Sh a b ∧ Q (zb (PyData.eqv a b)) S
  | _, _ => False
def rZNe : ZR2 := fun x y S Q => match x, y with
  | .d (.int i), .d (.int j) => Q (zb (!decide (i = j))) S
  | .d (.str i), .d (.str j) => Q (zb (!decide (i = j))) S
  | .d a, .d b => Sh a b ∧ Q (zb (!PyData.eqv a b)) S
  | _, _ => False
theorem zeqU (hu : X.A.units + 64 < cLine) : ZOp X (compareOp .Eq) rZEq := by
  constructor
  · intro x y S Q Q' q w
    unfold rZEq at *
    split at w
    · exact q _ _ w
    · exact q _ _ w
    · exact ⟨w.1, q _ _ w.2⟩
    · exact w.elim
  · rintro B pins s σ H x y v u Q I rx ry ⟨z1, z2, S, h1, h2, hS, w⟩
    unfold rZEq at w
    split at w
    · cases h1 with | d h1 => cases h1; cases h2 with | d h2 => cases h2; refine op_eq pins s σ H _ _ v u Q I rx ry ⟨rfl, ?_⟩; have w1 := w (.bl _) H (.refl _ _) (.d (.bl _)) hS; simpa using w1
    · cases h1 with | d h1 => cases h1; cases h2 with | d h2 => cases h2; refine op_eq pins s σ H _ _ v u Q I rx ry ⟨rfl, ?_⟩; have w1 := w (.bl _) H (.refl _ _) (.d (.bl _)) hS; simpa using w1
    · cases h1 with | d h1 => cases h2 with | d h2 => exact op_eqD hu pins s σ H _ _ v u Q I rx ry ⟨_, _, h1.dp (noDict_of_shaped w.1.1), h2.dp (noDict_of_shaped w.1.2), w.1.1, w.1.2, w.2 _ H (.refl _ _) (.d (.bl _)) hS⟩
    · exact w.elim
theorem zeq {k : Nat} (hr : Room k X.A) : ZOp X (compareOp .Eq) rZEq := zeqU hr.units
theorem zneU (hu : X.A.units + 64 < cLine) : ZOp X (compareOp .NotEq) rZNe := by
  constructor
  · intro x y S Q Q' q w
    unfold rZNe at *
    split at w
    · exact q _ _ w
    · exact q _ _ w
    · exact ⟨w.1, q _ _ w.2⟩
    · exact w.elim
  · rintro B pins s σ H x y v u Q I rx ry ⟨z1, z2, S, h1, h2, hS, w⟩
    unfold rZNe at w
    split at w
    · cases h1 with | d h1 => cases h1; cases h2 with | d h2 => cases h2; refine op_ne pins s σ H _ _ v u Q I rx ry ⟨rfl, ?_⟩; have w1 := w (.bl _) H (.refl _ _) (.d (.bl _)) hS; simpa using w1
    · cases h1 with | d h1 => cases h1; cases h2 with | d h2 => cases h2; refine op_ne pins s σ H _ _ v u Q I rx ry ⟨rfl, ?_⟩; have w1 := w (.bl _) H (.refl _ _) (.d (.bl _)) hS; simpa using w1
    · cases h1 with | d h1 => cases h2 with | d h2 => exact op_neD hu pins s σ H _ _ v u Q I rx ry ⟨_, _, h1.dp (noDict_of_shaped w.1.1), h2.dp (noDict_of_shaped w.1.2), w.1.1, w.1.2, w.2 _ H (.refl _ _) (.d (.bl _)) hS⟩
    · exact w.elim
theorem zne {k : Nat} (hr : Room k X.A) : ZOp X (compareOp .NotEq) rZNe := zneU hr.units
def zTest (t : ZT) : ZB := fun ρ S Q => t ρ S fun z S1 => match z with
  | .d (.bool b) => Q b S1
  | _ => False
theorem zTest_mono {e : Expr} {t : ZT} (h : ZE X B e t) {ρ : ZEnv} {S : Sto} {Q Q' : Bool → Sto → Prop} (q : ∀ z S', Q z S' → Q' z S') (w : zTest t ρ S Q) : zTest t ρ S Q' :=
  h.mono (fun z S1 h1 => by
    split at h1
    · exact q _ _ h1
    · exact h1.elim) w
theorem low_test {e : Expr} {t : ZT} (h : ZE X B e t) : ∀ σ H Q, lowB X.K B (zTest t) σ H Q → tB (low X.K B t) σ H Q := by
  rintro σ H Q ⟨ρ, S, hE, hS, w⟩
  refine h.go hE hS w fun z S1 v H1 h1 st1 E1 R1 rz => ?_
  split at h1
  · cases rz with | d rz => cases rz; exact ⟨_, rfl, h1 H1 st1 R1⟩
  · exact h1.elim
theorem zt_val {e : Expr} {t : ZT} (h : ZE X B e t) (he : ∀ whole, isTrue e X.env whole = (do let v ← whole; standAt e.pos; holding [v] (truthy v)) := by intro _; rfl) : ZTe X B e (zTest t) :=
  ⟨zTest_mono h, PT.imp (pt_val h.pe he) (low_test h)⟩
theorem zt_cmp {op : CmpOp} {r : ZR2} {a b : Expr} {ta tb : ZT} {pos : Pos} (ho : ZOp X (compareOp op) r) (ha : ZE X B a ta) (hb : ZE X B b tb) (hm : behindInMarks op b = false := by first | rfl | exact nomark _) :
    ZTe X B (.Compare a [op] [b] pos) (zTest (zOp r ta tb)) := by
  refine ⟨zTest_mono (ze_cmp (pos := pos) ho ha hb hm), PT.imp (pt_cmpR (ho.op B) ha.pe hb.pe hm) fun σ H Q w => ?_⟩
  have w2 := low_test (ze_cmp (pos := pos) ho ha hb hm) σ H Q w
  exact low_op ho ha hb σ H _ w2
def zBr (b : Bool) (x y : Prop) : Prop := match b with
  | true => x
  | false => y
theorem zBr.mono {b : Bool} {x y x' y' : Prop} (h1 : x → x') (h2 : y → y') (h : zBr b x y) : zBr b x' y' := by
  cases b with
  | true => exact h1 h
  | false => exact h2 h
def zAnd (t u : ZB) : ZB := fun ρ S Q => t ρ S fun c S1 => zBr c (u ρ S1 Q) (Q false S1)
def zOr (t u : ZB) : ZB := fun ρ S Q => t ρ S fun c S1 => zBr c (Q true S1) (u ρ S1 Q)
def zNot (t : ZB) : ZB := fun ρ S Q => t ρ S fun c S1 => Q (!c) S1
variable {a b : Expr} {rest : List Expr} {tA tB' : ZB} {pos : Pos}
theorem zw_and1 (ha : ZTe X B a tA) : ZW X B (.BoolOp .And [a] pos) tA := ⟨ha.mono, pw_and1 ha.pt⟩
theorem zw_or1 (ha : ZTe X B a tA) : ZW X B (.BoolOp .Or [a] pos) tA := ⟨ha.mono, pw_or1 ha.pt⟩
theorem zw_and (ha : ZTe X B a tA) (hb : ZW X B (.BoolOp .And (b :: rest) pos) tB') : ZW X B (.BoolOp .And (a :: b :: rest) pos) (zAnd tA tB') := by
  refine ⟨fun {ρ S Q Q'} q w => ha.mono (fun c S1 h1 => h1.mono (hb.mono q) (q _ _)) w, PW.imp (pw_and ha.pt hb.pw) ?_⟩
  rintro σ H Q ⟨ρ, S, hE, hS, w⟩
  refine ha.go hE hS w fun c S1 H1 h1 st1 E1 R1 => ?_
  cases c with
  | true => exact hb.go E1 R1 h1 fun d S2 H2 h2 st2 E2 R2 => h2 H2 (st1.trans st2) R2
  | false => exact h1 H1 st1 R1
theorem zw_or (ha : ZTe X B a tA) (hb : ZW X B (.BoolOp .Or (b :: rest) pos) tB') : ZW X B (.BoolOp .Or (a :: b :: rest) pos) (zOr tA tB') := by
  refine ⟨fun {ρ S Q Q'} q w => ha.mono (fun c S1 h1 => h1.mono (q _ _) (hb.mono q)) w, PW.imp (pw_or ha.pt hb.pw) ?_⟩
  rintro σ H Q ⟨ρ, S, hE, hS, w⟩
  refine ha.go hE hS w fun c S1 H1 h1 st1 E1 R1 => ?_
  cases c with
  | true => exact h1 H1 st1 R1
  | false => exact hb.go E1 R1 h1 fun d S2 H2 h2 st2 E2 R2 => h2 H2 (st1.trans st2) R2
theorem ZW.t (h : ZW X B a tA) : ZTe X B a tA := ⟨h.mono, h.pw.pt⟩
theorem zt_not (ha : ZTe X B a tA) : ZTe X B (.UnaryOp .Not a pos) (zNot tA) := by
  refine ⟨fun {ρ S Q Q'} q w => ha.mono (fun c S1 h1 => q _ _ h1) w, PT.imp (pt_not ha.pt) ?_⟩
  rintro σ H Q ⟨ρ, S, hE, hS, w⟩
  exact ha.go hE hS w fun c S1 H1 h1 st1 E1 R1 => h1 H1 st1 R1
variable {ta tb : ZT}
def zAndV (ta tb : ZT) : ZT := fun ρ S Q => ta ρ S fun x S1 => match x with
  | .d (.bool c) => zBr c (tb ρ S1 Q) (Q (zb false) S1)
  | _ => False
def zNotV (ta : ZT) : ZT := fun ρ S Q => ta ρ S fun x S1 => match x with
  | .d (.bool c) => Q (zb (!c)) S1
  | _ => False
theorem ze_one {op} (h : ZE X B a ta) : ZE X B (.BoolOp op [a] pos) ta := ⟨h.mono, pe_one h.pe⟩
theorem ze_and (ha : ZE X B a ta) (hb : ZE X B (.BoolOp .And (b :: rest) pos) tb) : ZE X B (.BoolOp .And (a :: b :: rest) pos) (zAndV ta tb) := by
  refine ⟨fun {ρ S Q Q'} q w => ha.mono (fun c S1 h1 => ?_) w, PE.imp (pe_and ha.pe hb.pe) ?_⟩
  · split at h1
    · exact h1.mono (hb.mono q) (q _ _)
    · exact h1.elim
  · rintro σ H Q ⟨ρ, S, hE, hS, w⟩
    refine ha.go hE hS w fun c S1 v1 H1 h1 st1 E1 R1 rz => ?_
    split at h1
    · rename_i c
      cases rz with | d rz => cases rz; refine ⟨_, rfl, ?_⟩; cases c with
        | true => exact iteT (hb.go E1 R1 h1 fun d S2 v2 H2 h2 st2 E2 R2 z2 => h2 v2 H2 (st1.trans st2) z2 R2)
        | false => exact iteF (h1 _ H1 st1 (.d (.bl _)) R1)
    · exact h1.elim
theorem ze_not (ha : ZE X B a ta) : ZE X B (.UnaryOp .Not a pos) (zNotV ta) := by
  refine ⟨fun {ρ S Q Q'} q w => ha.mono (fun c S1 h1 => ?_) w, PE.imp (pe_not ha.pe) ?_⟩
  · split at h1
    · exact q _ _ h1
    · exact h1.elim
  · rintro σ H Q ⟨ρ, S, hE, hS, w⟩
    refine ha.go hE hS w fun c S1 v1 H1 h1 st1 E1 R1 rz => ?_
    split at h1
    · cases rz with | d rz => cases rz; exact ⟨_, rfl, h1 _ H1 st1 (.d (.bl _)) R1⟩
    · exact h1.elim
def zIf (t : ZB) (ta tb : ZT) : ZT := fun ρ S Q => t ρ S fun c S1 => zBr c (ta ρ S1 Q) (tb ρ S1 Q)
theorem ze_if {c : Expr} (hc : ZTe X B c tA) (ha : ZE X B a ta) (hb : ZE X B b tb) : ZE X B (.IfExp c a b pos) (zIf tA ta tb) := by
  refine ⟨fun {ρ S Q Q'} q w => hc.mono (fun c S1 h1 => h1.mono (ha.mono q) (hb.mono q)) w, PE.imp (pe_ifExp hc.pt ha.pe hb.pe) ?_⟩
  rintro σ H Q ⟨ρ, S, hE, hS, w⟩
  refine hc.go hE hS w fun c S1 H1 h1 st1 E1 R1 => ?_
  cases c with
  | true => exact iteT (ha.go E1 R1 h1 fun d S2 v2 H2 h2 st2 E2 R2 z2 => h2 v2 H2 (st1.trans st2) z2 R2)
  | false => exact iteF (hb.go E1 R1 h1 fun d S2 v2 H2 h2 st2 E2 R2 z2 => h2 v2 H2 (st1.trans st2) z2 R2)
def rowZ (S : Sto) : Z → Option (List PyData)
  | .d (.list xs) => some xs
  | .d (.tuple xs) => some xs
  | .k xs => some xs
  | .r a => match S a with
    | some (.lst xs) => some xs
    | _ => none
  | _ => none
theorem rowZ_sq {K : PySem.W.Frag} {S : Sto} {H : Hp} {z : Z} {v : V} {xs : List PyData} (hS : RS0 K S H) (rz : RZ K H v z) (e : rowZ S z = some xs) : ∃ a vs, v = .ref a ∧ (SqL K H a vs ∨ SqT K H a vs) ∧ FzAll K H vs xs := by
  cases rz with
  | d h =>
    cases h with
    | lst s f => simp [rowZ] at e; subst e; exact ⟨_, _, rfl, .inl s.l, f⟩
    | tup s f => simp [rowZ] at e; subst e; exact ⟨_, _, rfl, .inr s, f⟩
    | _ => simp [rowZ] at e
  | k s f => simp [rowZ] at e; subst e; exact ⟨_, _, rfl, .inl s.l, f⟩
  | r a =>
    simp only [rowZ] at e
    cases q : S a with
    | none => rw [q] at e; cases e
    | some c =>
      cases c with
      | tab _ => rw [q] at e; cases e
      | own _ _ => rw [q] at e; cases e
      | tbl _ => rw [q] at e; cases e
      | dct _ => rw [q] at e; cases e
      | lst ys =>
        rw [q] at e
        cases e
        obtain ⟨vs, h, f⟩ := hS a _ q
        exact ⟨a, vs, rfl, .inl (.of h), f⟩
def rZIx : ZR2 := fun x y S Q => match y with
  | .d (.int i) => match rowZ S x with
    | some xs => match atI xs i with
      | some d => Q (.d d) S
      | none => False
    | none => False
  | _ => False
theorem atI_fz {K : PySem.W.Frag} {H : Hp} {vs : List V} {xs : List PyData} {i : Int} {d : PyData} (f : FzAll K H vs xs) (e : atI xs i = some d) : ∃ v, atI vs i = some v ∧ Fz K H v d := by
  unfold atI at e ⊢
  rw [f.length]
  cases q : ixN xs.length i with
  | none => rw [q] at e; cases e
  | some j =>
    rw [q] at e
    exact f.get (i := j) e
theorem ze_ix {a b : Expr} {ta tb : ZT} {pos : Pos} (ha : ZE X B a ta) (hb : ZE X B b tb) (hs : PlainIx b := by intro _ _; rfl) : ZE X B (.Subscript a b pos) (zOp rZIx ta tb) := by
  have mono : ∀ {x y S} {Q Q' : ZQ}, (∀ z S', Q z S' → Q' z S') → rZIx x y S Q → rZIx x y S Q' := by
    intro x y S Q Q' q w
    unfold rZIx at *
    repeat' split at w
    · exact q _ _ w
    · exact w.elim
    · exact w.elim
    · exact w.elim
  refine ⟨fun {ρ S Q Q'} q w => ha.mono (fun x S1 h1 => hb.mono (fun y S2 h2 => mono q h2) h1) w, PE.imp (pe_ix (ix_list.or ix_tup) ha.pe hb.pe hs) ?_⟩
  rintro σ H Q ⟨ρ, S, hE, hS, w⟩
  refine ha.go hE hS w fun x S1 v1 H1 h1 st1 E1 R1 z1 => ?_
  refine hb.go E1 R1 h1 fun y S2 v2 H2 h2 st2 E2 R2 z2 => ?_
  unfold rZIx at h2
  split at h2
  · split at h2
    · rename_i xs e
      split at h2
      · rename_i d e2
        obtain ⟨p, vs, rfl, hq, f⟩ := rowZ_sq R2.1 (z1.le (st2.le R1.1)) e
        obtain ⟨v, ev, fv⟩ := atI_fz f e2
        cases z2 with
        | d z2 =>
          cases z2
          rcases hq with hq | hq
          · exact .inl ⟨p, vs, _, v, rfl, rfl, hq, ev, h2 v H2 (st1.trans st2) (.d fv) R2⟩
          · exact .inr ⟨p, vs, _, v, rfl, rfl, hq, ev, h2 v H2 (st1.trans st2) (.d fv) R2⟩
      · exact h2.elim
    · exact h2.elim
  · exact h2.elim
end
end ZL
namespace ZL
open PySem PySem.Spec PyProof.Rows L2
mutual
def lfree : PyData → Bool
  | .list _ => false
  | .tuple xs => lfreeAll xs
  | .dict [] => true
  | .dict _ => false
  | _ => true
def lfreeAll : List PyData → Bool
  | [] => true
  | x :: xs => lfree x && lfreeAll xs
end
structure Shw (x : PyData) : Prop where
  s : x.showable = true
  d : x.depth ≤ 100
  l : x.hasDict = false ∨ lfree x = true
  z : x.shown.length ≤ sizeLine
theorem dic_rows {P : Program} {w : World} {h : Heap} : ∀ {ds : List (Int × PyData)} {es : List DictEntry} {vs : List (Key × Value)} {kvs : List (Key × V)}, Pairs (mixKind P w) es vs → KV kvs vs → kvs.map (·.1) = ds.map (fun p => Sum.inl p.1) →
    ReadsAll h (es.map (·.key)) (ds.map fun p => PyData.int p.1) [] ∧ Vals (kvs.map (·.2)) (es.map (·.val)) := by
  intro ds
  induction ds with
  | nil =>
    intro es vs kvs hp kv hk
    have : kvs = [] := List.map_eq_nil_iff.mp hk
    subst this
    generalize vs = ws at kv hp
    cases kv
    cases hp
    exact ⟨.nil, .nil⟩
  | cons p r ih =>
    intro es vs kvs hp kv hk
    cases kvs with
    | nil => simp at hk
    | cons c kvs =>
      simp only [List.map_cons, List.cons.injEq] at hk
      generalize hq : c :: kvs = cs at kv
      cases kv with
      | nil => cases hq
      | cons a b =>
        cases hq
        cases hp with
        | @cons e _ _ _ k q t =>
          obtain ⟨h1, h2⟩ := ih t b hk.2
          have k1 : keyIs (Sum.inl p.1) e.key = true := by rw [← hk.1, a.1]; exact k
          rcases keyIs_shape k1 with ⟨i, t, e1, e2⟩ | ⟨x, t, e1, _⟩
          · cases e1
            refine ⟨?_, ?_⟩
            · rw [List.map_cons, List.map_cons, e2]
              exact .cons (.int _ t) h1
            · rw [List.map_cons, List.map_cons, q]
              exact .cons a.2 h2
          · cases e1
section
variable {X : Cx} {pins : List (Addr × Obj)} {σ : L2.St} {H : Hp} {s : Shared}
mutual
theorem Fz.reads (I : Inv X pins σ H s) : ∀ {d : PyData} {v : V} {u : Value}, Fz X.K H v d → RelV v u → ∃ as, Reads s.heap u d as ∧ (lfree d = true → sysModules ∉ as)
  | _, _, _, .non, r => by cases r; exact ⟨_, .none, fun _ => by simp⟩
  | _, _, _, .bl b, r => by cases r; exact ⟨_, .bool b, fun _ => by simp⟩
  | _, _, _, .int i, r => by obtain ⟨t, rfl⟩ := r; exact ⟨_, .int i t, fun _ => by simp⟩
  | _, _, _, .str x, r => by obtain ⟨t, rfl⟩ := r; exact ⟨_, .str x t, fun _ => by simp⟩
  | _, _, _, .lst q f, r => by
    cases r
    obtain ⟨its, rv, ⟨o, n, e, c, _, dt⟩, _⟩ := I.list (SqF.l q)
    obtain ⟨as, ra, _⟩ := FzAll.reads I f rv
    exact ⟨_, .list e c dt (by simpa using ra), fun h => by simp [lfree] at h⟩
  | _, _, _, .tup q f, r => by
    cases r
    obtain ⟨its, rv, ⟨o, e, c, n, dt⟩, _⟩ := I.tuple q
    obtain ⟨as, ra, ha⟩ := FzAll.reads I f rv
    exact ⟨_, .tuple e c dt (by simpa using ra), fun h => ha (by simpa [lfree] using h)⟩
  | _, _, _, .dic (a := a) (kvs := kvs) (ds := ds) q hk hf, r => by
    cases r
    obtain ⟨e, z, y, vs, kv, ob, es, ep, e2, hx, hd, _, hl, _⟩ := I.hok _ _ q
    obtain ⟨r1, r2⟩ := dic_rows (h := s.heap) hl kv hk
    obtain ⟨as, ra, ha⟩ := FzAll.reads I hf r2
    refine ⟨_, .dict (kvs := ds.map fun p => (PyData.int p.1, p.2)) e2 hx.1 hd (by rw [List.map_map]; exact r1) (by rw [List.map_map]; exact ra), fun hl2 h => ?_⟩
    cases ds with
    | cons p r => simp [lfree] at hl2
    | nil =>
      have e0 : kvs = [] := List.map_eq_nil_iff.mp (show kvs.map (fun x => x.fst) = [] from hk)
      subst e0
      have e1 : List.map (fun x => x.val) es.toList = [] := by
        generalize List.map (fun x => x.val) es.toList = l at r2
        cases r2
        rfl
      rw [e1] at ra
      have e3 : as = [] := by
        generalize hz : List.map (fun (x : Int × PyData) => x.2) [] = l at ra
        cases ra
        rfl
      subst e3
      simp only [List.append_nil, List.mem_singleton] at h
      rw [h] at y
      simp at y
theorem FzAll.reads (I : Inv X pins σ H s) : ∀ {ds : List PyData} {vs : List V} {us : List Value}, FzAll X.K H vs ds → Vals vs us → ∃ as, ReadsAll s.heap us ds as ∧ (lfreeAll ds = true → sysModules ∉ as)
  | _, _, _, .nil, r => by cases r; exact ⟨_, .nil, fun _ => by simp⟩
  | _, _, _, .cons h t, r => by
    cases r with
    | cons r1 r2 =>
      obtain ⟨as, q1, n1⟩ := Fz.reads I h r1
      obtain ⟨bs, q2, n2⟩ := FzAll.reads I t r2
      refine ⟨_, .cons q1 q2, fun hl hm => ?_⟩
      simp only [lfreeAll, Bool.and_eq_true] at hl
      rcases List.mem_append.mp hm with hm | hm
      · exact n1 hl.1 hm
      · exact n2 hl.2 hm
end
end
section
variable {X : Cx} {B : Bs}
abbrev ZC1 := List Z → Sto → ZQ → Prop
def lowC (K : PySem.W.Frag) (B : Bs) (r : ZC1) : List V → Hp → VK → Prop := fun vs H Q => ∃ zs S, RZs K H vs zs ∧ RS K B S H ∧ r zs S fun z S' => ∀ v H', Step S S' H H' → RZ K H' v z → RS K B S' H' → Q v H'
structure ZCl (X : Cx) (f : Value) (r : ZC1) : Prop where
  mono : ∀ {zs S} {Q Q' : ZQ}, (∀ z S', Q z S' → Q' z S') → r zs S Q → r zs S Q'
  op : ∀ B, CallR X f (lowC X.K B r)
def zCall (r : ZC1) (t : ZA) : ZT := fun ρ S Q => t ρ S fun zs S1 => r zs S1 Q
theorem low_call {f : Value} {r : ZC1} {es : List Expr} {t : ZA} (hc : ZCl X f r) (ha : ZAs X B es t) : ∀ σ H Q, low X.K B (zCall r t) σ H Q → tCB (lowC X.K B r) (lowA X.K B t) σ H Q := by
  rintro σ H Q ⟨ρ, S, hE, hS, h⟩
  refine ha.go hE hS h fun zs S1 vs H1 h1 st1 E1 R1 z1 => ?_
  exact ⟨zs, S1, z1, R1, hc.mono (fun z S' q v H' st rz rs => q v H' (st1.trans st) rz rs) h1⟩
variable {x : Str} {p pos : Pos} {e : Expr} {es : List Expr} {t : ZA} {id T : String} {r : ZC1}
theorem ze_callB (hc : ZCl X (.builtin id) r) (hg : Gl X x) (hm : X.mg x = none) (hv : bootBuiltins x = some (.builtin id)) (ha : ZAs X B (e :: es) t) (hn : x ≠ "__name__" := by decide) (hdb : (x == ("__debug__" : Str)) = false := by decide)
    (he : starEach (e :: es) X.env = (false, eval e X.env) :: starEach es X.env := by rfl) (hpl : (backTo pos (starEach es X.env)).any (·.1) = false := by rfl) : ZE X B (.Call (.Name x p) (e :: es) [] pos) (zCall r t) :=
  ⟨fun q w => ha.mono (fun zs S1 h1 => hc.mono q h1) w, PE.imp (pe_callB (hc.op B) hg hm hv ha.pa hn hdb he hpl) (low_call hc ha)⟩
theorem ze_callTy (hc : ZCl X (.type T) r) (hg : Gl X x) (hm : X.mg x = none) (hv : bootBuiltins x = some (.type T)) (ha : ZAs X B (e :: es) t) (hn : x ≠ "__name__" := by decide) (hdb : (x == ("__debug__" : Str)) = false := by decide)
    (he : starEach (e :: es) X.env = (false, eval e X.env) :: starEach es X.env := by rfl) (hpl : (backTo pos (starEach es X.env)).any (·.1) = false := by rfl) : ZE X B (.Call (.Name x p) (e :: es) [] pos) (zCall r t) :=
  ⟨fun q w => ha.mono (fun zs S1 h1 => hc.mono q h1) w, PE.imp (pe_callTy (hc.op B) hg hm hv ha.pa hn hdb he hpl) (low_call hc ha)⟩
theorem rzs1 {K : PySem.W.Frag} {H : Hp} {vs : List V} {z : Z} (h : RZs K H vs [z]) : ∃ v, vs = [v] ∧ RZ K H v z := by
  cases h with | cons h t => cases t; exact ⟨_, rfl, h⟩
theorem rzs2 {K : PySem.W.Frag} {H : Hp} {vs : List V} {z z' : Z} (h : RZs K H vs [z, z']) : ∃ v v', vs = [v, v'] ∧ RZ K H v z ∧ RZ K H v' z' := by
  cases h with | cons h t => cases t with | cons h' t => cases t; exact ⟨_, _, rfl, h, h'⟩
theorem zcl_i {f : Value} {g : Int → Int} (h : CallR X f (fun xs H Q => ∃ i, xs = [.int i] ∧ Q (.int (g i)) H)) : ZCl X f (fun zs S Q => match zs with | [.d (.int i)] => Q (zi (g i)) S | _ => False) := by
  constructor
  · intro zs S Q Q' q w
    split at w
    · exact q _ _ w
    · exact w.elim
  · rintro B pins s σ H vs us Q I r ⟨zs, S, rz, hS, w⟩
    split at w
    · obtain ⟨v, rfl, hz⟩ := rzs1 rz
      cases hz with | d hz => cases hz; exact h pins s σ H _ us Q I r ⟨_, rfl, w _ H (.refl _ _) (.d (.int _)) hS⟩
    · exact w.elim
theorem zcl_ii {f : Value} {g : Int → Int → Int} (h : CallR X f (fun xs H Q => ∃ i j, xs = [.int i, .int j] ∧ Q (.int (g i j)) H)) : ZCl X f (fun zs S Q => match zs with | [.d (.int i), .d (.int j)] => Q (zi (g i j)) S | _ => False) := by
  constructor
  · intro zs S Q Q' q w
    split at w
    · exact q _ _ w
    · exact w.elim
  · rintro B pins s σ H vs us Q I r ⟨zs, S, rz, hS, w⟩
    split at w
    · obtain ⟨v, v', rfl, hz, hz'⟩ := rzs2 rz
      cases hz with | d hz => cases hz; cases hz' with | d hz' => cases hz'; exact h pins s σ H _ us Q I r ⟨_, _, rfl, w _ H (.refl _ _) (.d (.int _)) hS⟩
    · exact w.elim
def absI (i : Int) : Int := if i < 0 then -i else i
def maxI (i j : Int) : Int := if j > i then j else i
def minI (i j : Int) : Int := if j < i then j else i
theorem absI_eq (i : Int) : absI i = (i.natAbs : Int) := by unfold absI; split <;> omega
theorem maxI_eq (i j : Int) : maxI i j = max i j := by unfold maxI; split <;> omega
theorem minI_eq (i j : Int) : minI i j = min i j := by unfold minI; split <;> omega
def rZAbs : ZC1 := fun zs S Q => match zs with | [.d (.int i)] => Q (zi (absI i)) S | _ => False
def rZMax : ZC1 := fun zs S Q => match zs with | [.d (.int i), .d (.int j)] => Q (zi (maxI i j)) S | _ => False
def rZMin : ZC1 := fun zs S Q => match zs with | [.d (.int i), .d (.int j)] => Q (zi (minI i j)) S | _ => False
theorem zabs : ZCl X (.builtin "abs") rZAbs := zcl_i (g := absI) call_abs
theorem zmax (hc : X.calm = true := by rfl) : ZCl X (.builtin "max") rZMax := zcl_ii (g := maxI) (call_max2 hc)
theorem zmin (hc : X.calm = true := by rfl) : ZCl X (.builtin "min") rZMin := zcl_ii (g := minI) (call_min2 hc)
def rZInt : ZC1 := fun zs S Q => match zs with | [.d (.int i)] => Q (zi i) S | [.d (.bool b)] => Q (zi (if b then 1 else 0)) S | _ => False
theorem zint : ZCl X (.type "int") rZInt := by
  constructor
  · intro zs S Q Q' q w
    unfold rZInt at *
    split at w
    · exact q _ _ w
    · exact q _ _ w
    · exact w.elim
  · rintro B pins s σ H vs us Q I r ⟨zs, S, rz, hS, w⟩
    unfold rZInt at w
    split at w
    · obtain ⟨v, rfl, hz⟩ := rzs1 rz
      cases hz with | d hz => cases hz; exact call_int1 pins s σ H _ us Q I r (.inl ⟨_, rfl, w _ H (.refl _ _) (.d (.int _)) hS⟩)
    · obtain ⟨v, rfl, hz⟩ := rzs1 rz
      cases hz with | d hz => cases hz; exact call_int1 pins s σ H _ us Q I r (.inr ⟨_, rfl, w _ H (.refl _ _) (.d (.int _)) hS⟩)
    · exact w.elim
def rZLen : ZC1 := fun zs S Q => match zs with
  | [.d (.str x)] => x.length ≤ sizeLine ∧ Q (zi x.length) S
  | [z] => match rowZ S z with
    | some xs => Q (zi xs.length) S
    | none => False
  | _ => False
theorem zlen : ZCl X (.builtin "len") rZLen := by
  constructor
  · intro zs S Q Q' q w
    unfold rZLen at *
    split at w
    · exact ⟨w.1, q _ _ w.2⟩
    · split at w
      · exact q _ _ w
      · exact w.elim
    · exact w.elim
  · rintro B pins s σ H vs us Q I r ⟨zs, S, rz, hS, w⟩
    unfold rZLen at w
    split at w
    · obtain ⟨v, rfl, hz⟩ := rzs1 rz
      cases hz with | d hz => cases hz; exact call_len_str pins s σ H _ us Q I r ⟨_, rfl, w.1, w.2 _ H (.refl _ _) (.d (.int _)) hS⟩
    · split at w
      · rename_i xs e
        obtain ⟨v, rfl, hz⟩ := rzs1 rz
        obtain ⟨a, ws, rfl, sq, f⟩ := rowZ_sq hS.1 hz e
        refine call_len_seq pins s σ H _ us Q I r ⟨a, ws, rfl, sq, ?_⟩
        rw [f.length]
        exact w _ H (.refl _ _) (.d (.int _)) hS
      · exact w.elim
    · exact w.elim
theorem callR_rest {f : Value} {r : List V → Hp → VK → Prop} (h : CallR X f r) : CallR X f (fun vs H Q => r vs H fun v H' => ∃ a xs, v = .ref a ∧ H' a = some (.lst xs) ∧ ∀ o, Q v (upd H' a (.frz o (.lst xs)))) := by
  intro pins s σ H vs us Q I rv w
  refine thn (h pins s σ H vs us _ I rv w) fun u s1 ⟨v, H1, I1, r1, a, xs, ev, ea, q⟩ => ?_
  obtain ⟨o, I2⟩ := I1.lock ea True.intro
  exact ⟨v, _, I2, r1, q o⟩
theorem opR_rest {f : Value → Value → Sem Value} {r : R2} (h : OpR X f r) : OpR X f (fun x y H Q => r x y H fun v H' => ∃ a xs, v = .ref a ∧ H' a = some (.lst xs) ∧ ∀ o, Q v (upd H' a (.frz o (.lst xs)))) := by
  intro pins s σ H x y v u Q I rx ry w
  refine thn (h pins s σ H x y v u _ I rx ry w) fun u s1 ⟨v, H1, I1, r1, a, xs, ev, ea, q⟩ => ?_
  obtain ⟨o, I2⟩ := I1.lock ea True.intro
  exact ⟨v, _, I2, r1, q o⟩
def rZList : ZC1 := fun zs S Q => match zs with
  | [z] => match rowZ S z with
    | some xs => Q (zl xs) S
    | none => False
  | _ => False
theorem rest_end {K : PySem.W.Frag} {S : Sto} {H : Hp} {B : Bs} {Q : VK} {xs : List V} {ds : List PyData} (hS : RS K B S H) (f : FzAll K H xs ds) (w : ∀ v H', Step S S H H' → RZ K H' v (zl ds) → RS K B S H' → Q v H') (p : Addr) (hp : H p = none) :
    ∃ a ys, V.ref p = .ref a ∧ (upd H p (.lst xs)) a = some (.lst ys) ∧ ∀ o, Q (.ref p) (upd (upd H p (.lst xs)) a (.frz o (.lst ys))) := by
  refine ⟨p, xs, rfl, upd_same, fun o => ?_⟩
  rw [upd_upd]
  have sm : Same H (upd H p (.frz o (.lst xs))) := same_fresh hp
  exact w _ _ (step_same sm) (.d (.lst ⟨o, upd_same⟩ (f.le (.same sm)))) (hS.step (hS.1.same sm) (step_same sm))
theorem zlist : ZCl X (.type "list") rZList := by
  constructor
  · intro zs S Q Q' q w
    unfold rZList at *
    split at w
    · split at w
      · exact q _ _ w
      · exact w.elim
    · exact w.elim
  · rintro B pins s σ H vs us Q I r ⟨zs, S, rz, hS, w⟩
    unfold rZList at w
    split at w
    · split at w
      · rename_i xs e
        obtain ⟨v, rfl, hz⟩ := rzs1 rz
        obtain ⟨a, ws, rfl, sq, f⟩ := rowZ_sq hS.1 hz e
        exact callR_rest call_list_of pins s σ H _ us Q I r ⟨a, ws, rfl, sq, fun l hl => rest_end hS f w l hl⟩
      · exact w.elim
    · exact w.elim
def boolsZ : List PyData → Option (List Bool)
  | [] => some []
  | .bool b :: r => (boolsZ r).map (b :: ·)
  | _ :: _ => none
theorem boolsZ_map : ∀ {ds : List PyData} {bs : List Bool}, boolsZ ds = some bs → ds = bs.map PyData.bool
  | [], bs, e => by simp [boolsZ] at e; subst e; rfl
  | .bool b :: r, bs, e => by
    simp only [boolsZ, Option.map_eq_some_iff] at e
    obtain ⟨c, e1, e2⟩ := e
    subst e2
    rw [boolsZ_map e1]; rfl
  | .none :: _, _, e => by simp [boolsZ] at e
  | .int _ :: _, _, e => by simp [boolsZ] at e
  | .str _ :: _, _, e => by simp [boolsZ] at e
  | .list _ :: _, _, e => by simp [boolsZ] at e
  | .tuple _ :: _, _, e => by simp [boolsZ] at e
  | .dict _ :: _, _, e => by simp [boolsZ] at e
theorem boolsZ_of : ∀ bs : List Bool, boolsZ (bs.map PyData.bool) = some bs
  | [] => rfl
  | b :: r => by simp [boolsZ, boolsZ_of r]
def rZAll : ZC1 := fun zs S Q => ∃ bs : List Bool, zs = [zl (bs.map PyData.bool)] ∧ Q (zb (bs.all fun b => b)) S
theorem zall (hc : X.calm = true := by rfl) : ZCl X (.builtin "all") rZAll := by
  constructor
  · rintro zs S Q Q' q ⟨bs, e, w⟩
    exact ⟨bs, e, q _ _ w⟩
  · rintro B pins s σ H vs us Q I r ⟨zs, S, rz, hS, bs, rfl, w⟩
    obtain ⟨v, rfl, hz⟩ := rzs1 rz
    cases hz with
    | d hz =>
      cases hz with
      | @lst a xs _ sq f =>
        rw [f.bools] at sq
        exact cr_all hc pins s σ H _ us Q I r ⟨a, bs, rfl, sq.l, w _ H (.refl _ _) (.d (.bl _)) hS⟩
def rZRepr : ZC1 := fun zs S Q => match zs with
  | [.d x] => Shw x ∧ Q (zs1 x) S
  | _ => False
where zs1 (x : PyData) : Z := .d (.str x.shown)
theorem zrepr {k : Nat} (hr : Room k X.A) (hG : X.A.guards = some []) : ZCl X (.builtin "repr") rZRepr := by
  constructor
  · intro zs S Q Q' q w
    unfold rZRepr at *
    split at w
    · exact ⟨w.1, q _ _ w.2⟩
    · exact w.elim
  · rintro B pins s σ H vs us Q I r ⟨zs, S, rz, hS, w⟩
    unfold rZRepr at w
    split at w
    · rename_i d
      obtain ⟨h, w⟩ := w
      obtain ⟨v, rfl, hz⟩ := rzs1 rz
      obtain ⟨u, rfl, ru⟩ := vals1 r
      cases hz with
      | d hz =>
        have fin := fun (h' : Heap) (t : Tok) (tk : Nat) (kk : ∀ b o, s.heap.get? b = some o → h'.get? b = some o) => (show EP X pins σ Q (.str d.shown t) { s with heap := h', toks := tk } from ⟨.str d.shown, H, I.kept kk, ⟨_, rfl⟩, w _ H (.refl _ _) (.d (.str _)) hS⟩)
        have hu := hr.un
        obtain ⟨as, rd, ns⟩ := hz.reads I ru
        have hsm : d.hasDict = true → sysModules ∉ as := fun hd => ns (h.l.resolve_left (by rw [hd]; simp))
        have big : ∀ a, u = .ref a → wpAny (model X.prog X.w) X.A (call (.builtin "repr") [u]) (EP X pins σ Q) X.xe s := fun a e => by
          subst e
          exact repr_of_reads' rd h.s hsm hG (by have := h.d; omega) (fun _ _ q => q) (fun h' t tk kk => fin h' t tk kk) h.z
        cases hz with
        | non => cases ru; exact PySem.P.repr_of_none ⟨.str _, H, I.tok _, ⟨_, rfl⟩, w _ H (.refl _ _) (.d (.str _)) hS⟩
        | bl b => cases ru; exact PySem.P.repr_of_bool ⟨.str _, H, I.tok _, ⟨_, rfl⟩, by have := w _ H (.refl _ _) (.d (.str _)) hS; simpa [rZRepr.zs1, PyData.shown] using this⟩
        | int i => obtain ⟨t, rfl⟩ := ru; exact PySem.P.repr_of_int (by simpa [PyData.showable] using h.s) ⟨.str _, H, I.tok _, ⟨_, rfl⟩, by have := w _ H (.refl _ _) (.d (.str _)) hS; simpa [rZRepr.zs1, PyData.shown] using this⟩
        | str x => obtain ⟨t, rfl⟩ := ru; exact PySem.P.repr_of_str ⟨.str _, H, I.tok _, ⟨_, rfl⟩, by have := w _ H (.refl _ _) (.d (.str _)) hS; simpa [rZRepr.zs1, PyData.shown] using this⟩ (by simpa [PyData.shown] using h.z)
        | lst q f => exact big _ ru
        | tup q f => exact big _ ru
        | dic q _ _ => exact big _ ru
    · exact w.elim
end
end ZL
namespace ZL
open PySem PySem.Spec PyProof.Rows L2
inductive Ty7 where
  | int | bool | str | list | tuple | dict
def Ty7.name : Ty7 → String
  | .int => "int" | .bool => "bool" | .str => "str" | .list => "list" | .tuple => "tuple" | .dict => "dict"
def isD : Ty7 → PyData → Bool
  | .int, .int _ => true
  | .int, .bool _ => true
  | .bool, .bool _ => true
  | .str, .str _ => true
  | .list, .list _ => true
  | .tuple, .tuple _ => true
  | .dict, .dict _ => true
  | _, _ => false
def isZ : Ty7 → Z → Bool
  | T, .d x => isD T x
  | .list, .r _ => true
  | .list, .k _ => true
  | _, _ => false
def thereZ (S : Sto) : Z → Prop
  | .r a => ∃ xs, S a = some (.lst xs)
  | _ => True
def nameD : PyData → String
  | .none => "NoneType" | .bool _ => "bool" | .int _ => "int" | .str _ => "str" | .list _ => "list" | .tuple _ => "tuple" | .dict _ => "dict"
theorem kit7 {K : PySem.W.Frag} (T : Ty7) (d : PyData) : PySem.W.kitOne K (.type (nameD d)) (.type T.name) = some (isD T d) := by
  cases T <;> cases d <;> (refine kit_ty ?_; simp only [nameD, Ty7.name, isD]; decide +kernel)
theorem fz_ty {K : PySem.W.Frag} {H : Hp} {v : V} {d : PyData} (h : Fz K H v d) : TyX K H v (.type (nameD d)) := by
  cases h with
  | non => exact .base .non
  | bl b => exact .base (.bl b)
  | int i => exact .base (.int i)
  | str x => exact .base (.str x)
  | lst q f => obtain ⟨o, q⟩ := q; exact .base (.frz q)
  | tup q f =>
    rcases q with (q | ⟨o, q⟩) | ⟨o, its, n, q, c, _⟩
    · exact .base (.tup q)
    · exact .fTuple q
    · exact .kTuple q c
  | dic q _ _ => exact .fDict q
section
variable {X : Cx} {B : Bs}
def zIsi (T : Ty7) (ta : ZT) : ZT := fun ρ S Q => ta ρ S fun z S1 => thereZ S1 z ∧ Q (zb (isZ T z)) S1
theorem rz_ty {K : PySem.W.Frag} {S : Sto} {H : Hp} {v : V} {z : Z} (hS : RS0 K S H) (h : RZ K H v z) (th : thereZ S z) (T : Ty7) : ∃ t, TyX K H v t ∧ PySem.W.kitOne K t (.type T.name) = some (isZ T z) := by
  cases h with
  | d h => exact ⟨_, fz_ty h, kit7 T _⟩
  | r a =>
    obtain ⟨xs, e⟩ := th
    obtain ⟨vs, q, _⟩ := hS a _ e
    exact ⟨_, .base (.lst q), by have := kit7 (K := K) T (.list []); cases T <;> exact this⟩
  | k q f =>
    rcases q with ⟨o, q⟩ | ⟨o, its, n, q, c, _⟩
    · exact ⟨_, .base (.frz q), by have := kit7 (K := K) T (.list []); cases T <;> exact this⟩
    · exact ⟨_, .kList q c, by have := kit7 (K := K) T (.list []); cases T <;> exact this⟩
theorem ze_isi (T : Ty7) {e c : Expr} {te : ZT} {p pos : Pos} (hm : X.mg "isinstance" = none) (he : ZE X B e te) (hc : PE X c (tC (.ty T.name))) (hg : Gl X "isinstance" := by rfl)
    (hs : starEach (e :: [c]) X.env = (false, eval e X.env) :: starEach [c] X.env := by rfl) (hs2 : starEach [c] X.env = (false, eval c X.env) :: starEach [] X.env := by rfl) (hpl : (backTo pos (starEach [c] X.env)).any (·.1) = false := by rfl) :
    ZE X B (.Call (.Name "isinstance" p) [e, c] [] pos) (zIsi T te) := by
  refine ⟨fun {ρ S Q Q'} q w => he.mono (fun z S1 h1 => ⟨h1.1, q _ _ h1.2⟩) w, PE.imp (pe_callB call_isi hg hm PyProof.Rows.boot_isinstance (pa_cons he.pe (pa_cons hc pa_nil hs2) hs) (by decide) (by decide) hs hpl) ?_⟩
  rintro σ H Q ⟨ρ, S, hE, hS, w⟩
  refine he.go hE hS w fun z S1 v1 H1 h1 st1 E1 R1 rz => ?_
  obtain ⟨t, ty, k⟩ := rz_ty R1.1 rz h1.1 T
  exact ⟨v1, .ty T.name, t, .type T.name, _, rfl, .ty _, ty, k, h1.2 _ H1 st1 (.d (.bl _)) R1⟩
theorem pe_ty (T : Ty7) {x : Str} {p : Pos} (hm : X.mg x = none) (hx : x = Str.ofString T.name := by rfl) (hg : Gl X x := by rfl) (hv : bootBuiltins x = some (.type T.name) := by decide +kernel) (hn : x ≠ "__name__" := by decide) (hd : (x == ("__debug__" : Str)) = false := by decide) :
    PE X (.Name x p) (tC (.ty T.name)) := pe_bltn hg hm hv rfl hn hd
abbrev ZPt := ZEnv → Sto → (Option Int → Sto → Prop) → Prop
def lowO (K : PySem.W.Frag) (B : Bs) (t : ZPt) : TO := fun σ H Q => ∃ ρ S, RE K H ρ σ ∧ RS K B S H ∧ t ρ S fun o S' => ∀ H', Step S S' H H' → RS K B S' H' → Q o H'
structure ZO (X : Cx) (B : Bs) (e : Option Expr) (t : ZPt) : Prop where
  mono : ∀ {ρ S} {Q Q' : Option Int → Sto → Prop}, (∀ z S', Q z S' → Q' z S') → t ρ S Q → t ρ S Q'
  po : PO X e (lowO X.K B t)
def zNoPart : ZPt := fun _ S Q => Q none S
def zPart (t : ZT) : ZPt := fun ρ S Q => t ρ S fun z S1 => match z with
  | .d (.int i) => Q (some i) S1
  | _ => False
theorem PO.imp {e : Option Expr} {t t' : TO} (h : PO X e t) (q : ∀ σ H Q, t' σ H Q → t σ H Q) : PO X e t' := ⟨fun pins s σ H Q I w => h.run pins s σ H Q I (q σ H Q w)⟩
theorem zo_none : ZO X B none zNoPart := by
  refine ⟨fun q w => q _ _ w, PO.imp po_none ?_⟩
  rintro σ H Q ⟨ρ, S, hE, hS, w⟩
  exact w H (.refl _ _) hS
theorem zo_some {e : Expr} {t : ZT} (h : ZE X B e t) : ZO X B (some e) (zPart t) := by
  refine ⟨fun {ρ S Q Q'} q w => h.mono (fun z S1 h1 => ?_) w, PO.imp (po_some h.pe) ?_⟩
  · split at h1
    · exact q _ _ h1
    · exact h1.elim
  · rintro σ H Q ⟨ρ, S, hE, hS, w⟩
    refine h.go hE hS w fun z S1 v1 H1 h1 st1 E1 R1 rz => ?_
    split at h1
    · cases rz with | d rz => cases rz; exact ⟨_, rfl, h1 H1 st1 R1⟩
    · exact h1.elim
def cutD (xs : List PyData) (lo hi : Option Int) : List PyData := (xs.drop (HT.sIx xs.length 0 lo)).take (HT.sIx xs.length xs.length hi - HT.sIx xs.length 0 lo)
theorem cut_fz {K : PySem.W.Frag} {H : Hp} {vs : List V} {xs : List PyData} (f : FzAll K H vs xs) (lo hi : Option Int) : FzAll K H (cutV vs lo hi) (cutD xs lo hi) := by
  unfold cutV cutD
  rw [f.length]
  exact (f.drop _).take _
def rZSl : Z → Option Int → Option Int → Sto → ZQ → Prop := fun x lo hi S Q => match x with
  | .d (.tuple xs) => Q (zt (cutD xs lo hi)) S
  | z => match rowZ S z with
    | some xs => Q (zl (cutD xs lo hi)) S
    | none => False
theorem slR_rest {r : V → Option Int → Option Int → Hp → VK → Prop} (h : SlR X r) : SlR X (fun x lo hi H Q => r x lo hi H fun v H' => ∃ a xs, v = .ref a ∧ H' a = some (.lst xs) ∧ ∀ o, Q v (upd H' a (.frz o (.lst xs)))) := by
  intro pins s σ H x v vl vu lo hi sl Q I rx hs pl pu w
  obtain ⟨T, id, e1, e2, e3⟩ := h pins s σ H x v vl vu lo hi sl _ I rx hs pl pu w
  refine ⟨T, id, e1, e2, thn e3 fun u s1 ⟨v, H1, I1, r1, a, xs, ev, ea, q⟩ => ?_⟩
  obtain ⟨o, I2⟩ := I1.lock ea True.intro
  exact ⟨v, _, I2, r1, q o⟩
theorem rowZ_list {K : PySem.W.Frag} {S : Sto} {H : Hp} {z : Z} {v : V} {xs : List PyData} (hS : RS0 K S H) (rz : RZ K H v z) (n : ∀ ys, z ≠ zt ys) (e : rowZ S z = some xs) : ∃ a vs, v = .ref a ∧ SqL K H a vs ∧ FzAll K H vs xs := by
  cases rz with
  | d h =>
    cases h with
    | lst s f => simp [rowZ] at e; subst e; exact ⟨_, _, rfl, s.l, f⟩
    | tup s f => exact absurd rfl (n _)
    | _ => simp [rowZ] at e
  | k s f => simp [rowZ] at e; subst e; exact ⟨_, _, rfl, s.l, f⟩
  | r b =>
    simp only [rowZ] at e
    cases q : S b with
    | none => rw [q] at e; cases e
    | some c =>
      cases c with
      | tab _ => rw [q] at e; cases e
      | own _ _ => rw [q] at e; cases e
      | tbl _ => rw [q] at e; cases e
      | dct _ => rw [q] at e; cases e
      | lst ys =>
        rw [q] at e
        cases e
        obtain ⟨vs, h, f⟩ := hS b _ q
        exact ⟨b, vs, rfl, .of h, f⟩
def zSl (ta : ZT) (tl th : ZPt) : ZT := fun ρ S Q => ta ρ S fun z S1 => tl ρ S1 fun lo S2 => th ρ S2 fun hi S3 => rZSl z lo hi S3 Q
theorem ze_slice {e : Expr} {lo hi : Option Expr} {te : ZT} {tl th : ZPt} {p2 pos : Pos} (he : ZE X B e te) (hl : ZO X B lo tl) (hh : ZO X B hi th) : ZE X B (.Subscript e (.Slice lo hi none p2) pos) (zSl te tl th) := by
  refine ⟨fun {ρ S Q Q'} q w => he.mono (fun z S1 h1 => hl.mono (fun a S2 h2 => hh.mono (fun b S3 h3 => ?_) h2) h1) w, PE.imp (pe_slice (sl_tupA.or (slR_rest sl_list)) he.pe hl.po hh.po) ?_⟩
  · unfold rZSl at *
    split at h3
    · exact q _ _ h3
    · split at h3
      · exact q _ _ h3
      · exact h3.elim
  · rintro σ H Q ⟨ρ, S, hE, hS, w⟩
    refine he.go hE hS w fun z S1 v1 H1 h1 st1 E1 R1 rz => ?_
    refine ⟨ρ, S1, E1, R1, hl.mono (fun o S2 h2 H2 st2 R2 => ?_) h1⟩
    refine ⟨ρ, S2, E1.le (st2.le R1.1), R2, hh.mono (fun o2 S3 h3 H3 st3 R3 => ?_) h2⟩
    have rz3 := (rz.le (st2.le R1.1)).le (st3.le R2.1)
    have st := (st1.trans st2).trans st3
    unfold rZSl at h3
    split at h3
    · cases rz3 with
      | d rz3 =>
        cases rz3 with
        | @tup a vs xs sq f =>
          refine .inl ⟨a, vs, rfl, sq, fun hw => ?_, fun hw p hp => ?_⟩
          · refine h3 _ H3 st (.d (.tup sq ?_)) R3
            unfold cutD
            rw [f.length] at hw
            rw [hw.1, hw.2, List.drop_zero, Nat.sub_zero, List.take_length]
            exact f
          · have sm : Same H3 (upd H3 p (.tup (cutV vs o o2))) := same_fresh hp
            exact h3 _ _ (st.trans (step_same sm)) (.d (.tup (SqT.of upd_same) ((cut_fz f o o2).le (.same sm)))) (R3.step (R3.1.same sm) (step_same sm))
    · rename_i nt
      split at h3
      · rename_i xs e
        obtain ⟨a, vs, rfl, sq, f⟩ := rowZ_list R3.1 rz3 (fun ys ez => nt ys ez) e
        exact .inr ⟨a, vs, rfl, sq, fun p hp => rest_end R3 (cut_fz f o o2) (fun v H' st' rz' rs' => h3 v H' (st.trans st') rz' rs') p hp⟩
      · exact h3.elim
theorem lst_of {pins : List (Addr × Obj)} {σ : L2.St} {H : Hp} {s : Shared} (I : Inv X pins σ H s) {a : Addr} {xs : List V} (h : Rd H a (.lst xs)) : ∃ (its : List Value) (n : Nat), Vals xs its ∧ s.heap.get? a = some { cls := .type "list", data := .seq its.toArray n } := by
  obtain ⟨_, its, n, r, e⟩ := h.ok I.hok
  exact ⟨its, n, r, e⟩
def rCatL : R2 := fun x y H Q => ∃ l b xs zs, x = .ref l ∧ y = .ref b ∧ Rd H l (.lst xs) ∧ Rd H b (.lst zs) ∧ xs.length + zs.length ≤ sizeLine ∧ ∀ p, H p = none → Q (.ref p) (upd H p (.lst (xs ++ zs)))
theorem op_catL : OpR X (binaryOp .Add) rCatL := by
  rintro pins s σ H x y v u Q I rx ry ⟨l, b, xs, zs, rfl, rfl, h1, h2, hz, q⟩
  cases rx
  cases ry
  obtain ⟨its, n, r, e⟩ := lst_of I h1
  obtain ⟨its2, n2, r2, e2⟩ := lst_of I h2
  have l1 := r.length
  have l2 := r2.length
  refine PySem.P.add_list e e2 ?_ (by simp only [List.size_toArray]; omega)
  rw [show its.toArray ++ its2.toArray = (its ++ its2).toArray by simp]
  exact ⟨.ref _, _, I.lnew (t' := s.toks) (r.append r2) (by rw [List.length_append]; omega), rfl, q _ I.fresh⟩
def listZ (S : Sto) : Z → Option (List PyData)
  | .d (.list xs) => some xs
  | .r a => match S a with
    | some (.lst xs) => some xs
    | _ => none
  | _ => none
theorem listZ_rd {K : PySem.W.Frag} {S : Sto} {H : Hp} {z : Z} {v : V} {xs : List PyData} (hS : RS0 K S H) (rz : RZ K H v z) (e : listZ S z = some xs) : ∃ a vs, v = .ref a ∧ Rd H a (.lst vs) ∧ FzAll K H vs xs := by
  cases rz with
  | d h =>
    cases h with
    | lst s f => simp [listZ] at e; subst e; exact ⟨_, _, rfl, .inr s, f⟩
    | _ => simp [listZ] at e
  | k s f => simp [listZ] at e
  | r b =>
    simp only [listZ] at e
    cases q : S b with
    | none => rw [q] at e; cases e
    | some c =>
      cases c with
      | tab _ => rw [q] at e; cases e
      | own _ _ => rw [q] at e; cases e
      | tbl _ => rw [q] at e; cases e
      | dct _ => rw [q] at e; cases e
      | lst ys =>
        rw [q] at e
        cases e
        obtain ⟨vs, h, f⟩ := hS b _ q
        exact ⟨b, vs, rfl, .inl h, f⟩
def rZCat : ZR2 := fun x y S Q => match listZ S x, listZ S y with
  | some a, some b => a.length + b.length ≤ sizeLine ∧ Q (zl (a ++ b)) S
  | _, _ => False
theorem zcat : ZOp X (binaryOp .Add) rZCat := by
  constructor
  · intro x y S Q Q' q w
    unfold rZCat at *
    split at w
    · exact ⟨w.1, q _ _ w.2⟩
    · exact w.elim
  · rintro B pins s σ H x y v u Q I rx ry ⟨z1, z2, S, h1, h2, hS, w⟩
    unfold rZCat at w
    split at w
    · rename_i a b e1 e2
      obtain ⟨l, vs, rfl, q1, f1⟩ := listZ_rd hS.1 h1 e1
      obtain ⟨l2, vs2, rfl, q2, f2⟩ := listZ_rd hS.1 h2 e2
      exact opR_rest op_catL pins s σ H _ _ v u Q I rx ry ⟨l, l2, vs, vs2, rfl, rfl, q1, q2, by rw [f1.length, f2.length]; exact w.1, fun p hp => rest_end hS (f1.append f2) w.2 p hp⟩
    · exact w.elim
def rZCatM : ZR2 := fun x y S Q => match listZ S x, listZ S y with
  | some a, some b => a.length + b.length ≤ sizeLine ∧ ∀ p, S p = none → Q (.r p) (S.put p (.lst (a ++ b)))
  | _, _ => False
theorem zcatM : ZOp X (binaryOp .Add) rZCatM := by
  constructor
  · intro x y S Q Q' q w
    unfold rZCatM at *
    split at w
    · exact ⟨w.1, fun p hp => q _ _ (w.2 p hp)⟩
    · exact w.elim
  · rintro B pins s σ H x y v u Q I rx ry ⟨z1, z2, S, h1, h2, hS, w⟩
    unfold rZCatM at w
    split at w
    · rename_i a b e1 e2
      obtain ⟨l, vs, rfl, q1, f1⟩ := listZ_rd hS.1 h1 e1
      obtain ⟨l2, vs2, rfl, q2, f2⟩ := listZ_rd hS.1 h2 e2
      exact op_catL pins s σ H _ _ v u Q I rx ry ⟨l, l2, vs, vs2, rfl, rfl, q1, q2, by rw [f1.length, f2.length]; exact w.1, fun p hp => w.2 p (hS.1.fresh hp) _ _ (step_new hp) (.r p) (hS.step (hS.1.new hp (f1.append f2)) (step_new hp))⟩
    · exact w.elim
def zDict0 : ZT := fun _ S Q => Q (.d (.dict [])) S
theorem ze_dict0 {pos : Pos} (h : PE X (.Dict [] [] pos) (fun _ H Q => ∀ p, H p = none → Q (.ref p) (upd H p (.dK [])))) : ZE X B (.Dict [] [] pos) zDict0 := by
  refine ⟨fun q w => q _ _ w, PE.imp (pe_restD h) ?_⟩
  rintro σ H Q ⟨ρ, S, hE, hS, w⟩ p hp
  refine ⟨p, [], rfl, upd_same, fun o => ?_⟩
  rw [upd_upd]
  have sm : Same H (upd H p (.frz o (.dK []))) := same_fresh hp
  exact w _ _ (step_same sm) (.d (.dic (kvs := []) (ds := []) upd_same rfl .nil)) (hS.step (hS.1.same sm) (step_same sm))
def zApp (to te : ZT) : ZT := fun ρ S Q => to ρ S fun x S1 => match x with
  | .r p => (∃ xs, S1 p = some (.lst xs)) ∧ te ρ S1 fun y S2 => match y with
    | .d d => match S2 p with
      | some (.lst xs) => xs.length < sizeLine ∧ Q (.d .none) (S2.put p (.lst (xs ++ [d])))
      | _ => False
    | _ => False
  | _ => False
theorem ze_app {o e : Expr} {to te : ZT} {apos pos : Pos} (ho : ZE X B o to) (he : ZE X B e te)
    (pe : ∀ {ta : TE} {tb : TE}, PE X o ta → PE X e tb → PE X (.Call (.Attribute o "append" apos) [e] [] pos) (tBM X.K "list" rAppend ta (tCons tb tNil)) := by intro ta tb h1 h2; exact pe_bm PySem.F.plainAttrs_list PySem.F.slot_list_append PySem.F.type_list_append mt_append h1 (pa_cons h2 pa_nil)) :
    ZE X B (.Call (.Attribute o "append" apos) [e] [] pos) (zApp to te) := by
  refine ⟨fun {ρ S Q Q'} q w => ho.mono (fun x S1 h1 => ?_) w, PE.imp (pe ho.pe he.pe) ?_⟩
  · split at h1
    · refine ⟨h1.1, he.mono (fun y S2 h2 => ?_) h1.2⟩
      split at h2
      · split at h2
        · exact ⟨h2.1, q _ _ h2.2⟩
        · exact h2.elim
      · exact h2.elim
    · exact h1.elim
  · rintro σ H Q ⟨ρ, S, hE, hS, w⟩
    refine ho.go hE hS w fun x S1 v1 H1 h1 st1 E1 R1 z1 => ?_
    split at h1
    · rename_i p
      cases z1
      obtain ⟨⟨xs, e1⟩, h1⟩ := h1
      obtain ⟨vs, q1, _⟩ := R1.1 p _ e1
      refine ⟨.inl ⟨rfl, vs, .of q1⟩, he.go E1 R1 h1 fun y S2 v2 H2 h2 st2 E2 R2 z2 => ?_⟩
      split at h2
      · split at h2
        · rename_i d _ ys e2
          cases z2 with
          | d z2 =>
            obtain ⟨ws, q2, f2⟩ := R2.1 p _ e2
            have f3 := f2.append (.one z2)
            have sS := step_set (c' := .lst (ys ++ [d])) (o := .lst (ws ++ [v2])) (H := H2) e2
            exact ⟨p, ws, v2, rfl, rfl, q2, by rw [f2.length]; exact h2.1, h2.2 .non _ ((st1.trans st2).trans sS) (.d .non) (R2.step (R2.1.set e2 f3) sS)⟩
        · exact h2.elim
      · exact h2.elim
    · exact h1.elim
end
end ZL
namespace ZL
open PySem PySem.Spec PyProof.Rows L2
theorem wipe_at {σ : L2.St} {vs : List Nat} {j : Nat} : (wipe σ vs)[j]? = if j ∈ vs then σ[j]?.map (fun _ => none) else σ[j]? := by
  induction vs with
  | nil => simp [wipe]
  | cons v vs ih =>
    unfold wipe
    by_cases e : j = v
    · subst e
      rw [List.getElem?_set]
      simp only [List.mem_cons, true_or, if_true]
      by_cases h : j < σ.length
      · simp [wipe_length, h]
      · simp [wipe_length, h]
    · rw [List.getElem?_set_ne (Ne.symm e), ih]
      simp [e]
theorem wipe_set {σ : L2.St} {vs : List Nat} {i : Nat} {o : Option V} (h : i ∈ vs) : wipe (σ.set i o) vs = wipe σ vs := by
  apply List.ext_getElem?
  intro j
  rw [wipe_at, wipe_at]
  by_cases e : j ∈ vs
  · simp only [e, if_true]
    by_cases q : i = j
    · subst q
      rw [List.getElem?_set]
      by_cases l : i < σ.length <;> simp [l]
    · rw [List.getElem?_set_ne q]
  · simp only [e, if_false]
    have : i ≠ j := fun q => e (q ▸ h)
    rw [List.getElem?_set_ne this]
theorem wipe_wipe {σ : L2.St} {vs : List Nat} : wipe (wipe σ vs) vs = wipe σ vs := by
  apply List.ext_getElem?
  intro j
  rw [wipe_at, wipe_at]
  by_cases e : j ∈ vs
  · simp only [e, if_true]
    cases σ[j]? <;> rfl
  · simp only [e, if_false]
def Own (own : List Nat) (σ σ' : L2.St) : Prop := ∀ vs : List Nat, (∀ i ∈ own, i ∈ vs) → wipe σ' vs = wipe σ vs
abbrev ZG := Z → ZEnv → Sto → (ZEnv → Sto → Prop) → Prop
def lowG (K : PySem.W.Frag) (B : Bs) (own : List Nat) (g : ZG) : TG := fun v σ H Q => ∃ z ρ S, RZ K H v z ∧ RE K H ρ σ ∧ RS K B S H ∧ g z ρ S fun ρ' S' => ∀ σ' H', Step S S' H H' → RE K H' ρ' σ' → RS K B S' H' → Own own σ σ' → Q σ' H'
structure ZGt (X : Cx) (B : Bs) (tg : Expr) (own : List Nat) (g : ZG) : Prop where
  mono : ∀ {z ρ S} {Q Q' : ZEnv → Sto → Prop}, (∀ ρ' S', Q ρ' S' → Q' ρ' S') → g z ρ S Q → g z ρ S Q'
  pg : PG X tg (lowG X.K B own g)
abbrev ZGs := List PyData → ZEnv → Sto → (ZEnv → Sto → Prop) → Prop
def lowGs (K : PySem.W.Frag) (B : Bs) (own : List Nat) (g : ZGs) : TGs := fun vs σ H Q => ∃ zs ρ S, FzAll K H vs zs ∧ RE K H ρ σ ∧ RS K B S H ∧ g zs ρ S fun ρ' S' => ∀ σ' H', Step S S' H H' → RE K H' ρ' σ' → RS K B S' H' → Own own σ σ' → Q σ' H'
structure ZGts (X : Cx) (B : Bs) (tgs : List Expr) (own : List Nat) (g : ZGs) : Prop where
  mono : ∀ {z ρ S} {Q Q' : ZEnv → Sto → Prop}, (∀ ρ' S', Q ρ' S' → Q' ρ' S') → g z ρ S Q → g z ρ S Q'
  pgs : PGs X tgs (lowGs X.K B own g)
theorem PG.imp {X : Cx} {e : Expr} {t t' : TG} (h : PG X e t) (q : ∀ v σ H Q, t' v σ H Q → t v σ H Q) : PG X e t' := ⟨fun pins s σ H v u Q I r w => h.run pins s σ H v u Q I r (q v σ H Q w)⟩
theorem PGs.imp {X : Cx} {e : List Expr} {t t' : TGs} (h : PGs X e t) (q : ∀ v σ H Q, t' v σ H Q → t v σ H Q) : PGs X e t' := ⟨fun pins s σ H v u Q I r w => h.run pins s σ H v u Q I r (q v σ H Q w)⟩
section
variable {X : Cx} {B : Bs} {pos : Pos}
def zgName (i : Nat) : ZG := fun z ρ S Q => Q (ρ.set i (some z)) S
theorem zg_name {i : Nat} {x : Str} (hN : X.N.Nodup) (hi : X.N[i]? = some x := by rfl) (hx : Loc X.env.scope x := by first | exact Or.inl rfl | exact Or.inr rfl) (hf : X.fn x = true ∨ X.env.scope.names.lookup x = some .local := by first | exact .inl rfl | exact .inr rfl | assumption) : ZGt X B (.Name x pos) [i] (zgName i) := by
  refine ⟨fun q w => q _ _ w, PG.imp (pg_name hN hi hx hf) ?_⟩
  rintro v σ H Q ⟨z, ρ, S, rz, hE, hS, w⟩
  exact w _ H (.refl _ _) (hE.set i rz) hS fun vs h => wipe_set (h i (by simp))
def zgSub (to ti : ZT) : ZG := fun z ρ S Q => to ρ S fun o S1 => ti ρ S1 fun i S2 => match o, i, z with
  | .r p, .d (.int k), .d d => match S2 p with
    | some (.lst xs) => match ixN xs.length k with
      | some j => Q ρ (S2.put p (.lst (xs.set j d)))
      | none => False
    | _ => False
  | _, _, _ => False
theorem zg_sub {o i : Expr} {to ti : ZT} (ho : ZE X B o to) (hi : ZE X B i ti)
    (ha : ∀ v, assign (.Subscript o i pos) X.env v = (do
      let ov ← holding [v] (eval o X.env)
      let iv ← holding [v, ov] (eval i X.env)
      standAt pos
      holding [v, ov, iv] (setItem ov iv v)
      release [v, ov, iv] []) := by intro _; rfl) : ZGt X B (.Subscript o i pos) [] (zgSub to ti) := by
  refine ⟨fun {z ρ S Q Q'} q w => ho.mono (fun x S1 h1 => hi.mono (fun y S2 h2 => ?_) h1) w, PG.imp (pg_sub ho.pe hi.pe set_list ha) ?_⟩
  · split at h2
    · split at h2
      · split at h2
        · exact q _ _ h2
        · exact h2.elim
      · exact h2.elim
    · exact h2.elim
  · rintro v σ H Q ⟨z, ρ, S, rz, hE, hS, w⟩
    refine ho.go hE hS w fun x S1 v1 H1 h1 st1 E1 R1 z1 => ?_
    refine hi.go E1 R1 h1 fun y S2 v2 H2 h2 st2 E2 R2 z2 => ?_
    have rz2 := (rz.le (st1.le hS.1)).le (st2.le R1.1)
    split at h2
    · rename_i p k d
      split at h2
      · rename_i xs e
        split at h2
        · rename_i j ej
          cases z1
          cases z2 with
          | d z2 =>
            cases z2
            cases rz2 with
            | d rz2 =>
              obtain ⟨ws, q2, f2⟩ := R2.1 p _ e
              have sS := step_set (c' := .lst (xs.set j d)) (o := .lst (ws.set j v)) (H := H2) e
              have R3 := R2.step (R2.1.set e (f2.set j rz2)) sS
              exact ⟨p, ws, k, j, rfl, rfl, q2, by rw [f2.length]; exact ej, h2 σ _ ((st1.trans st2).trans sS) (E2.le (sS.le R2.1)) R3 fun _ _ => rfl⟩
        · exact h2.elim
      · exact h2.elim
    · exact h2.elim
structure ZEnds where
  nx : ZEnv → Sto → Prop
  rt : ZQ
  bk : ZEnv → Sto → Prop := fun _ _ => False
  ct : ZEnv → Sto → Prop := fun _ _ => False
abbrev ZTS := ZEnds → ZEnv → Sto → Prop
structure ELe (K : PySem.W.Frag) (B : Bs) (S : Sto) (H : Hp) (D : ZEnds) (E : Ends) : Prop where
  nx : ∀ ρ' S' σ' H', D.nx ρ' S' → Step S S' H H' → RE K H' ρ' σ' → RS K B S' H' → E.nx σ' H'
  rt : ∀ z S' v H', D.rt z S' → Step S S' H H' → RZ K H' v z → RS K B S' H' → E.rt v H'
  bk : ∀ ρ' S' σ' H', D.bk ρ' S' → Step S S' H H' → RE K H' ρ' σ' → RS K B S' H' → E.bk σ' H'
  ct : ∀ ρ' S' σ' H', D.ct ρ' S' → Step S S' H H' → RE K H' ρ' σ' → RS K B S' H' → E.ct σ' H'
theorem ELe.step {K : PySem.W.Frag} {S S1 : Sto} {H H1 : Hp} {D : ZEnds} {E : Ends} (h : ELe K B S H D E) (st : Step S S1 H H1) : ELe K B S1 H1 D E :=
  ⟨fun a b c d w s r q => h.nx a b c d w (st.trans s) r q, fun a b c d w s r q => h.rt a b c d w (st.trans s) r q, fun a b c d w s r q => h.bk a b c d w (st.trans s) r q, fun a b c d w s r q => h.ct a b c d w (st.trans s) r q⟩
def lowS (K : PySem.W.Frag) (B : Bs) (t : ZTS) : TS := fun E σ H => ∃ ρ S D, RE K H ρ σ ∧ RS K B S H ∧ ELe K B S H D E ∧ t D ρ S
structure ZS (X : Cx) (B : Bs) (st : Stmt) (t : ZTS) : Prop where
  ps : PS X st (lowS X.K B t)
structure ZSs (X : Cx) (B : Bs) (st : List Stmt) (t : ZTS) : Prop where
  pss : PSs X st (lowS X.K B t)
def zNext : ZTS := fun D ρ S => D.nx ρ S
def zSeq (t u : ZTS) : ZTS := fun D ρ S => t { D with nx := u D } ρ S
theorem zss_nil : ZSs X B [] zNext := ⟨PSs.imp pss_nil (by
  rintro E σ H ⟨ρ, S, D, hE, hS, l, w⟩
  exact l.nx _ _ _ _ w (.refl _ _) hE hS)⟩
theorem zss_cons {st : Stmt} {sts : List Stmt} {t u : ZTS} (h1 : ZS X B st t) (h2 : ZSs X B sts u) : ZSs X B (st :: sts) (zSeq t u) := ⟨PSs.imp (pss_cons h1.ps h2.pss) (by
  rintro E σ H ⟨ρ, S, D, hE, hS, l, w⟩
  exact ⟨ρ, S, { D with nx := u D }, hE, hS, ⟨fun ρ' S' σ' H' w' st' E' R' => ⟨ρ', S', D, E', R', l.step st', w'⟩, l.rt, l.bk, l.ct⟩, w⟩)⟩
variable {e : Expr} {te : ZT}
def zDrop (te : ZT) : ZTS := fun D ρ S => te ρ S fun _ S1 => D.nx ρ S1
theorem zs_expr (he : ZE X B e te) (hs : swapsWith e none pos.line X.env = pure false := by rfl) : ZS X B (.Expr e pos) (zDrop te) := ⟨PS.imp (ps_expr he.pe hs) (by
  rintro E σ H ⟨ρ, S, D, hE, hS, l, w⟩
  exact he.go hE hS w fun z S1 v H1 h1 st E1 R1 rz => l.nx _ _ _ _ h1 st E1 R1)⟩
def zRet (te : ZT) : ZTS := fun D ρ S => te ρ S D.rt
theorem zs_ret (he : ZE X B e te) : ZS X B (.Return (some e) pos) (zRet te) := ⟨PS.imp (ps_ret he.pe) (by
  rintro E σ H ⟨ρ, S, D, hE, hS, l, w⟩
  exact he.go hE hS w fun z S1 v H1 h1 st E1 R1 rz => l.rt _ _ _ _ h1 st rz R1)⟩
def zIfS (c : ZB) (t u : ZTS) : ZTS := fun D ρ S => c ρ S fun b S1 => zBr b (t D ρ S1) (u D ρ S1)
theorem zs_if {c : Expr} {a b : List Stmt} {tc : ZB} {t u : ZTS} (hc : ZTe X B c tc) (ha : ZSs X B a t) (hb : ZSs X B b u) : ZS X B (.If c a b pos) (zIfS tc t u) := ⟨PS.imp (ps_if hc.pt ha.pss hb.pss) (by
  rintro E σ H ⟨ρ, S, D, hE, hS, l, w⟩
  refine hc.go hE hS w fun c S1 H1 h1 st E1 R1 => ?_
  cases c with
  | true => exact iteT ⟨ρ, S1, D, E1, R1, l.step st, h1⟩
  | false => exact iteF ⟨ρ, S1, D, E1, R1, l.step st, h1⟩)⟩
def zAsg (te : ZT) (g : ZG) : ZTS := fun D ρ S => te ρ S fun z S1 => g z ρ S1 D.nx
theorem low_asg {E : Ends} {σ : L2.St} {H : Hp} {te : ZT} {g : ZG} {tg : Expr} {own : List Nat} (he : ZE X B e te) (hg : ZGt X B tg own g) (h : lowS X.K B (zAsg te g) E σ H) : tAsg (low X.K B te) (lowG X.K B own g) E σ H := by
  obtain ⟨ρ, S, D, hE, hS, l, w⟩ := h
  refine he.go hE hS w fun z S1 v H1 h1 st E1 R1 rz => ?_
  exact ⟨z, ρ, S1, rz, E1, R1, hg.mono (fun ρ' S' w' σ' H' st' E' R' _ => l.nx _ _ _ _ w' (st.trans st') E' R') h1⟩
theorem zs_asg {tg : Expr} {g : ZG} {own : List Nat} (he : ZE X B e te) (hg : ZGt X B tg own g) (hs : swapsWithSole [tg] e pos.line X.env = pure false := by rfl) (hw : swappedStores [tg] e X.env = pure none := by rfl)
    (h1 : (assignEach [tg] X.env).map (·.2) = [assign tg X.env] := by rfl) : ZS X B (.Assign [tg] e pos) (zAsg te g) := ⟨PS.imp (ps_asg he.pe hg.pg hs hw h1) fun _ _ _ h => low_asg he hg h⟩
theorem zs_set (i : Nat) {x : Str} {pos' : Pos} (hN : X.N.Nodup) (he : ZE X B e te) (hi : X.N[i]? = some x := by rfl) (hx : Loc X.env.scope x := by first | exact Or.inl rfl | exact Or.inr rfl) (hs : swapsWith e (some (.Name x pos')) pos.line X.env = pure false := by rfl) (hf : X.fn x = true ∨ X.env.scope.names.lookup x = some .local := by first | exact .inl rfl | exact .inr rfl | assumption) :
    ZS X B (.Assign [.Name x pos'] e pos) (zAsg te (zgName i)) := ⟨PS.imp (ps_set hN hi hx he.pe hs hf) (by
  rintro E σ H ⟨ρ, S, D, hE, hS, l, w⟩
  exact he.go hE hS w fun z S1 v H1 h1 st E1 R1 rz => l.nx _ _ _ _ h1 st (E1.set i rz) R1)⟩
def zPar (i j : Nat) (ta : ZA) : ZTS := fun D ρ S => ta ρ S fun zs S1 => match zs with
  | [x, y] => D.nx ((ρ.set i (some x)).set j (some y)) S1
  | _ => False
theorem zs_par {i j : Nat} {x y : Str} {a b : Expr} {ta : ZA} {px py pt : Pos} {kt k2 pt2} (hN : X.N.Nodup) (ha : ZAs X B [a, b] ta) (hc : X.calm = true := by rfl) (hi : X.N[i]? = some x := by rfl) (hj : X.N[j]? = some y := by rfl) (hij : i ≠ j := by decide)
    (hx : X.env.scope.names.lookup x = some .local := by rfl) (hy : X.env.scope.names.lookup y = some .local := by rfl)
    (hw : swappedStores [.Tuple [.Name x px, .Name y py] kt pt] (.Tuple [a, b] k2 pt2) X.env = pure (some [x, y]) := by rfl)
    (hs : swapsWithSole [.Tuple [.Name x px, .Name y py] kt pt] (.Tuple [a, b] k2 pt2) pos.line X.env = pure false := by rfl) :
    ZS X B (.Assign [.Tuple [.Name x px, .Name y py] kt pt] (.Tuple [a, b] k2 pt2) pos) (zPar i j ta) := ⟨PS.imp (ps_par hc hN hi hj hij hx hy ha.pa hw hs) (by
  rintro E σ H ⟨ρ, S, D, hE, hS, l, w⟩
  refine ha.go hE hS w fun zs S1 vs H1 h1 st E1 R1 rz => ?_
  split at h1
  · obtain ⟨v, v', rfl, r1, r2⟩ := rzs2 rz
    exact ⟨v, v', rfl, l.nx _ _ _ _ h1 st ((E1.set i r1).set j r2) R1⟩
  · exact h1.elim)⟩
structure WhR (c : ZB) (tb : ZTS) (D : ZEnds) (ρ : ZEnv) (S : Sto) : Prop where
  ex : ∃ I : Nat → ZEnv → Sto → Prop, (∃ m, I m ρ S) ∧ ∀ m ρ S, I m ρ S → c ρ S fun b S1 =>
    zBr b (tb { D with nx := fun ρ' S' => ∃ m', m' < m ∧ I m' ρ' S', ct := fun ρ' S' => ∃ m', m' < m ∧ I m' ρ' S', bk := D.nx } ρ S1) (D.nx ρ S1)
def zWhile (c : ZB) (tb : ZTS) : ZTS := fun D ρ S => WhR c tb D ρ S
theorem zs_while {c : Expr} {body : List Stmt} {tc : ZB} {tb : ZTS} (hp : PassesOwn (model X.prog X.w) X.A X.env X.xe) (hc : ZTe X B c tc) (hb : ZSs X B body tb) : ZS X B (.While c body [] pos) (zWhile tc tb) := ⟨PS.imp (ps_while hp hc.pt hb.pss) (by
  rintro E σ H ⟨ρ, S, D, hE, hS, l, ⟨I, ⟨m, hm⟩, turn⟩⟩
  refine ⟨fun n σ' H' => ∃ ρ' S', RE X.K H' ρ' σ' ∧ RS X.K B S' H' ∧ Step S S' H H' ∧ I n ρ' S', ⟨m, ρ, S, hE, hS, .refl _ _, hm⟩, ?_⟩
  rintro n σ1 H1 ⟨ρ1, S1, E1, R1, st1, h1⟩
  refine hc.go E1 R1 (turn n ρ1 S1 h1) fun b S2 H2 h2 st2 E2 R2 => ?_
  cases b with
  | true =>
    refine iteT ⟨fun σ' H' => ∃ n', n' < n ∧ ∃ ρ' S', RE X.K H' ρ' σ' ∧ RS X.K B S' H' ∧ Step S S' H H' ∧ I n' ρ' S', fun σ' H' ⟨n', hn, q⟩ => ⟨n', hn, q⟩, ρ1, S2, { D with nx := fun ρ' S' => ∃ m', m' < n ∧ I m' ρ' S', ct := fun ρ' S' => ∃ m', m' < n ∧ I m' ρ' S', bk := D.nx }, E2, R2, ⟨fun ρ' S' σ' H' w' st' E' R' => ?_, fun z S' v H' w' st' rz R' => l.rt _ _ _ _ w' ((st1.trans st2).trans st') rz R', fun ρ' S' σ' H' w' st' E' R' => l.nx _ _ _ _ w' ((st1.trans st2).trans st') E' R', fun ρ' S' σ' H' w' st' E' R' => ?_⟩, h2⟩
    · obtain ⟨m', hm', w'⟩ := w'
      exact ⟨m', hm', ρ', S', E', R', (st1.trans st2).trans st', w'⟩
    · obtain ⟨m', hm', w'⟩ := w'
      exact ⟨m', hm', ρ', S', E', R', (st1.trans st2).trans st', w'⟩
  | false => exact iteF (l.nx _ _ _ _ h2 (st1.trans st2) E2 R2))⟩
abbrev ZTI := ZEnv → Sto → (List PyData → List (Addr × List PyData) → Sto → Prop) → Prop
def Need (S : Sto) (l : List (Addr × List PyData)) : Prop := ∀ p ∈ l, S p.1 = some (.lst p.2)
def ItOk (K : PySem.W.Frag) (H0 : Hp) (J : It) (xs : List PyData) (l : List (Addr × List PyData)) : Prop :=
  ∃ G : Hp → Prop, Walk J xs.length G (fun i H v H' => ∃ x, xs[i]? = some x ∧ Same H H' ∧ Fz K H' v x) ∧ ∀ H S, Le H0 H → RS0 K S H → Need S l → G H
def lowI (K : PySem.W.Frag) (B : Bs) (t : ZTI) : TI := fun σ H R => ∃ ρ S, RE K H ρ σ ∧ RS K B S H ∧ t ρ S fun xs l S' => ∀ J H', Step S S' H H' → RS K B S' H' → ItOk K H' J xs l → R J H'
structure ZI (X : Cx) (B : Bs) (tg e : Expr) (t : ZTI) : Prop where
  mono : ∀ {ρ S} {Q Q' : List PyData → List (Addr × List PyData) → Sto → Prop}, (∀ xs l S', Q xs l S' → Q' xs l S') → t ρ S Q → t ρ S Q'
  pi : PI X tg e (lowI X.K B t)
theorem PI.imp {tg e : Expr} {t t' : TI} (h : PI X tg e t) (q : ∀ σ H R, t' σ H R → t σ H R) : PI X tg e t' := ⟨fun pins s σ H R I w => h.run pins s σ H R I (q σ H R w)⟩
theorem pi_seq {tg l : Expr} {tl : TE} (hl : PE X l tl) : PI X tg l (fun σ H R => tl σ H fun x H1 => ∃ a, x = .ref a ∧ (((∃ xs, SqL X.K H1 a xs) ∧ R (Itl X.K a) H1) ∨ ((∃ xs, SqT X.K H1 a xs) ∧ R (Itt X.K a) H1))) := by
  refine ⟨fun pins s σ H R I h => ?_⟩
  refine thn (hl.run pins s σ H _ I h) fun v s1 ⟨x, H1, I1, r1, a, ex, q1⟩ => ?_
  subst ex
  cases r1
  rcases q1 with ⟨⟨xs, hq⟩, q⟩ | ⟨⟨xs, hq⟩, q⟩
  · obtain ⟨its, rv, p, hz⟩ := I1.list hq
    exact wpAny_pyIter_list p.isList (pi_one (tk := s1.toks) I1 _ (turn_list a _) ⟨_, Heap.get?_push_size _ rfl, rfl, rfl⟩ q)
  · obtain ⟨its, rv, p, hz⟩ := I1.tuple hq
    exact wpAny_pyIter_tuple (show s1.heap.IsTuple a its.toArray from p) (pi_one (tk := s1.toks) I1 _ (turn_tuple a _) ⟨_, Heap.get?_push_size _ rfl, rfl, rfl⟩ q)
def needZ (z : Z) (xs : List PyData) : List (Addr × List PyData) := match z with
  | .r a => [(a, xs)]
  | _ => []
def ziRow (te : ZT) : ZTI := fun ρ S Q => te ρ S fun z S1 => match rowZ S1 z with
  | some xs => Q xs (needZ z xs) S1
  | none => False
theorem itok_list {K : PySem.W.Frag} {H0 : Hp} {a : Addr} {xs : List PyData} {l : List (Addr × List PyData)} (h : ∀ H S, Le H0 H → RS0 K S H → Need S l → ∃ vs, SqL K H a vs ∧ FzAll K H vs xs) : ItOk K H0 (Itl K a) xs l := by
  refine ⟨fun H => ∃ vs, SqL K H a vs ∧ FzAll K H vs xs, ⟨fun i H hi ⟨vs, q, f⟩ => ?_, fun H ⟨vs, q, f⟩ => ⟨vs, q, by rw [f.length]; exact Nat.le_refl _⟩, fun i H x H' hi ⟨vs, q, f⟩ y => ?_⟩, h⟩
  · obtain ⟨v, e, _⟩ := f.get (List.getElem?_eq_getElem hi)
    exact ⟨vs, v, q, e⟩
  · obtain ⟨e1, y⟩ := y
    subst e1
    obtain ⟨d, e, fd⟩ := f.get' (y vs q)
    exact ⟨d, e, .refl _, fd⟩
theorem itok_tup {K : PySem.W.Frag} {H0 : Hp} {a : Addr} {xs : List PyData} {l : List (Addr × List PyData)} (h : ∀ H S, Le H0 H → RS0 K S H → Need S l → ∃ vs, SqT K H a vs ∧ FzAll K H vs xs) : ItOk K H0 (Itt K a) xs l := by
  refine ⟨fun H => ∃ vs, SqT K H a vs ∧ FzAll K H vs xs, ⟨fun i H hi ⟨vs, q, f⟩ => ?_, fun H ⟨vs, q, f⟩ => ⟨vs, q, by rw [f.length]; exact Nat.le_refl _⟩, fun i H x H' hi ⟨vs, q, f⟩ y => ?_⟩, h⟩
  · obtain ⟨v, e, _⟩ := f.get (List.getElem?_eq_getElem hi)
    exact ⟨vs, v, q, e⟩
  · obtain ⟨e1, y⟩ := y
    subst e1
    obtain ⟨d, e, fd⟩ := f.get' (y vs q)
    exact ⟨d, e, .refl _, fd⟩
theorem src_of {K : PySem.W.Frag} {S : Sto} {H : Hp} {z : Z} {v : V} {xs : List PyData} (hS : RS0 K S H) (rz : RZ K H v z) (e : rowZ S z = some xs) :
    ∃ a, v = .ref a ∧ ((∀ H' S', Le H H' → RS0 K S' H' → Need S' (needZ z xs) → ∃ vs, SqL K H' a vs ∧ FzAll K H' vs xs) ∨ (∀ H' S', Le H H' → RS0 K S' H' → Need S' (needZ z xs) → ∃ vs, SqT K H' a vs ∧ FzAll K H' vs xs)) := by
  cases rz with
  | d h =>
    cases h with
    | lst s f => simp [rowZ] at e; subst e; exact ⟨_, rfl, .inl fun H' S' l _ _ => ⟨_, (s.le l).l, f.le l⟩⟩
    | tup s f => simp [rowZ] at e; subst e; exact ⟨_, rfl, .inr fun H' S' l _ _ => ⟨_, sqT_le l s, f.le l⟩⟩
    | _ => simp [rowZ] at e
  | k s f => simp [rowZ] at e; subst e; exact ⟨_, rfl, .inl fun H' S' l _ _ => ⟨_, (s.le l).l, f.le l⟩⟩
  | r a =>
    refine ⟨a, rfl, .inl fun H' S' l r n => ?_⟩
    obtain ⟨vs, q, f⟩ := r a _ (n (a, xs) (by simp [needZ]))
    exact ⟨vs, .of q, f⟩
theorem need_now {S : Sto} {z : Z} {xs : List PyData} (e : rowZ S z = some xs) : Need S (needZ z xs) := by
  intro p hp
  cases z with
  | r a =>
    simp only [needZ, List.mem_singleton] at hp
    subst hp
    simp only [rowZ] at e
    cases q : S a with
    | none => rw [q] at e; cases e
    | some c =>
      cases c with
      | tab _ => rw [q] at e; cases e
      | own _ _ => rw [q] at e; cases e
      | tbl _ => rw [q] at e; cases e
      | dct _ => rw [q] at e; cases e
      | lst ys =>
        rw [q] at e
        cases e
        rfl
  | d x => simp [needZ] at hp
  | k x => simp [needZ] at hp
theorem zi_row {tg : Expr} (he : ZE X B e te) : ZI X B tg e (ziRow te) := by
  refine ⟨fun {ρ S Q Q'} q w => he.mono (fun z S1 h1 => ?_) w, PI.imp (pi_seq he.pe) ?_⟩
  · split at h1
    · exact q _ _ _ h1
    · exact h1.elim
  · rintro σ H R ⟨ρ, S, hE, hS, w⟩
    refine he.go hE hS w fun z S1 v H1 h1 st E1 R1 rz => ?_
    split at h1
    · rename_i xs e1
      obtain ⟨a, rfl, q⟩ := src_of R1.1 rz e1
      rcases q with q | q
      · obtain ⟨vs, sq, _⟩ := q H1 S1 (.refl _) R1.1 (need_now e1)
        exact ⟨a, rfl, .inl ⟨⟨vs, sq⟩, h1 _ H1 st R1 (itok_list q)⟩⟩
      · obtain ⟨vs, sq, _⟩ := q H1 S1 (.refl _) R1.1 (need_now e1)
        exact ⟨a, rfl, .inr ⟨⟨vs, sq⟩, h1 _ H1 st R1 (itok_tup q)⟩⟩
    · exact h1.elim
def rangeD (lo : Int) (n : Nat) : List PyData := (List.range n).map fun (i : Nat) => PyData.int (lo + (i : Int))
theorem rangeD_length (lo : Int) (n : Nat) : (rangeD lo n).length = n := by simp [rangeD]
theorem rangeD_get {lo : Int} {n i : Nat} (h : i < n) : (rangeD lo n)[i]? = some (.int (lo + (i : Int))) := by simp [rangeD, h]
theorem itok_range {K : PySem.W.Frag} {H0 : Hp} {lo : Int} {n : Nat} : ItOk K H0 (Itr lo n) (rangeD lo n) [] := by
  refine ⟨fun _ => True, ?_, fun _ _ _ _ _ => True.intro⟩
  rw [rangeD_length]
  exact walk_range.mono (fun _ _ => True.intro) fun i H x H' hi _ y => ⟨_, rangeD_get hi, by rw [y.1]; exact .refl _, by rw [y.2]; exact .int _⟩
def In62 (i : Int) : Prop := -(2 ^ 62) ≤ i ∧ i < 2 ^ 62
def ziRange1 (t : ZA) : ZTI := fun ρ S Q => t ρ S fun zs S1 => match zs with
  | [.d (.int j)] => In62 j ∧ Q (rangeD 0 j.toNat) [] S1
  | _ => False
theorem zi_range1 {a tg : Expr} {ta : ZA} {p pos : Pos} (hg : Gl X "range") (hm : X.mg "range" = none) (ha : ZAs X B [a] ta) (hs : starEach [a] X.env = [(false, eval a X.env)] := by rfl) : ZI X B tg (.Call (.Name "range" p) [a] [] pos) (ziRange1 ta) := by
  refine ⟨fun {ρ S Q Q'} q w => ha.mono (fun z S1 h1 => ?_) w, PI.imp (pi_range1 hg hm ha.pa hs) ?_⟩
  · split at h1
    · exact ⟨h1.1, q _ _ _ h1.2⟩
    · exact h1.elim
  · rintro σ H R ⟨ρ, S, hE, hS, w⟩
    refine ha.go hE hS w fun zs S1 vs H1 h1 st E1 R1 rz => ?_
    split at h1
    · obtain ⟨v, rfl, hz⟩ := rzs1 rz
      cases hz with | d hz => cases hz; exact ⟨_, rfl, h1.1.1, h1.1.2, h1.2 _ H1 st R1 itok_range⟩
    · exact h1.elim
structure ForR (g : ZG) (tb : ZTS) (D : ZEnds) (ρ : ZEnv) (xs : List PyData) (l : List (Addr × List PyData)) (S1 : Sto) : Prop where
  ex : ∃ I : Nat → ZEnv → Sto → Prop, I 0 ρ S1 ∧ (∀ i ρ' S', i ≤ xs.length → I i ρ' S' → Need S' l) ∧
    (∀ (i : Nat) (x : PyData) ρ' S', xs[i]? = some x → I i ρ' S' → g (.d x) ρ' S' fun ρ2 S2 => tb { D with nx := I (i + 1), ct := I (i + 1), bk := D.nx } ρ2 S2) ∧ ∀ ρ' S', I xs.length ρ' S' → D.nx ρ' S'
def zFor (ti : ZTI) (g : ZG) (tb : ZTS) : ZTS := fun D ρ S => ti ρ S fun xs l S1 => ForR g tb D ρ xs l S1
theorem zs_for {tg iter : Expr} {body : List Stmt} {ti : ZTI} {g : ZG} {tb : ZTS} {own : List Nat} (hp : PassesOwn (model X.prog X.w) X.A X.env X.xe) (hi : ZI X B tg iter ti) (hg : ZGt X B tg own g) (hb : ZSs X B body tb) (hc : X.calm = true := by rfl)
    (hs : ∀ x, foldedSetIterable iter X.env x = pure x := by intro _; rfl) : ZS X B (.For tg iter body [] pos) (zFor ti g tb) := ⟨PS.imp (ps_for hp hc hi.pi hg.pg hb.pss hs) (by
  rintro E σ H ⟨ρ, S, D, hE, hS, l, w⟩
  refine ⟨ρ, S, hE, hS, hi.mono (fun xs nd S1 h1 J H1 st1 R1 ok => ?_) w⟩
  obtain ⟨⟨I, i0, iN, turn, fin⟩⟩ := h1
  obtain ⟨G, W, hG⟩ := ok
  have E1 := hE.le (st1.le hS.1)
  refine for_it W (fun i σ' H' => ∃ ρ' S', RE X.K H' ρ' σ' ∧ RS X.K B S' H' ∧ Step S1 S' H1 H' ∧ I i ρ' S') ⟨ρ, S1, E1, R1, .refl _ _, i0⟩ ?_ ?_ ?_
  · rintro i σ' H' hi' ⟨ρ', S', E', R', st', h'⟩
    exact hG H' S' (st'.le R1.1) R'.1 (iN i ρ' S' hi' h')
  · rintro i x σ' H' H2 hlt ⟨ρ', S', E', R', st', h'⟩ ⟨d, ed, sm, fd⟩
    have st2 := step_same (S := S') sm
    refine ⟨.d d, ρ', S', .d fd, E'.le (.same sm), R'.step (R'.1.same sm) st2, hg.mono (fun ρ3 S3 h3 σ3 H3 st3 E3 R3 _ => ?_) (turn i d ρ' S' ed h')⟩
    have stA := (st'.trans st2).trans st3
    exact ⟨ρ3, S3, { D with nx := I (i + 1), ct := I (i + 1), bk := D.nx }, E3, R3, ⟨fun ρ4 S4 σ4 H4 w4 st4 E4 R4 => ⟨ρ4, S4, E4, R4, stA.trans st4, w4⟩, fun z S4 v H4 w4 st4 rz R4 => l.rt _ _ _ _ w4 (st1.trans (stA.trans st4)) rz R4, fun ρ4 S4 σ4 H4 w4 st4 E4 R4 => l.nx _ _ _ _ w4 (st1.trans (stA.trans st4)) E4 R4, fun ρ4 S4 σ4 H4 w4 st4 E4 R4 => ⟨ρ4, S4, E4, R4, stA.trans st4, w4⟩⟩, h3⟩
  · rintro σ' H' ⟨ρ', S', E', R', st', h'⟩
    exact l.nx _ _ _ _ (fin ρ' S' h') (st1.trans st') E' R')⟩
theorem Step.poke {S S' : Sto} {H H' : Hp} {L : Addr} {o : HO} (st : Step S S' H H') (h : ∀ u, H L = some u → S L = none → False) : Step S S' H (upd H' L o) := fun b u e n => by
  have ne : b ≠ L := fun z => by subst z; exact h u e n
  exact ⟨by rw [upd_ne ne]; exact (st b u e n).1, (st b u e n).2⟩
theorem RS.out {K : PySem.W.Frag} {B : Bs} {S : Sto} {H : Hp} {L : Addr} (r : RS K B S H) (n : H L = none) : ∀ u, B.H0 L = some u → B.S0 L = none → False := fun u e q => by
  have := (r.2 L u e q).1
  rw [n] at this
  cases this
theorem RS.poke {K : PySem.W.Frag} {B : Bs} {S : Sto} {H : Hp} {L : Addr} {o : HO} {us : List V} (r : RS K B S H) (n : S L = none) (e : H L = some (.lst us)) (h : ∀ u, B.H0 L = some u → B.S0 L = none → False) : RS K B S (upd H L o) := by
  refine ⟨fun a c ea => ?_, r.2.poke h⟩
  have ne : a ≠ L := fun z => by subst z; rw [n] at ea; cases ea
  have ls : Ln H (upd H L o) := ln_set e
  refine (r.1 a c ea).all ea ls (fun b xs hb q => ?_) fun _ _ q => q
  rw [upd_ne fun z => by subst z; exact hb n]; exact q
structure ZTs (X : Cx) (B : Bs) (ifs : List Expr) (t : ZB) : Prop where
  mono : ∀ {ρ S} {Q Q' : Bool → Sto → Prop}, (∀ z S', Q z S' → Q' z S') → t ρ S Q → t ρ S Q'
  pts : PTs X ifs (lowB X.K B t)
theorem PTs.imp {e : List Expr} {t t' : TT} (h : PTs X e t) (q : ∀ σ H Q, t' σ H Q → t σ H Q) : PTs X e t' := ⟨fun pins s σ H Q I w => h.run pins s σ H Q I (q σ H Q w)⟩
def zYes : ZB := fun _ S Q => Q true S
theorem zts_nil : ZTs X B [] zYes := by
  refine ⟨fun q w => q _ _ w, PTs.imp pts_nil ?_⟩
  rintro σ H Q ⟨ρ, S, hE, hS, w⟩
  exact w H (.refl _ _) hS
theorem zts_one {c : Expr} {t : ZB} (h : ZTe X B c t) : ZTs X B [c] t := ⟨h.mono, pts_one h.pt⟩
structure LcR (g : ZG) (tt : ZB) (te : ZT) (vs : List Nat) (ρ : ZEnv) (Q : ZQ) (xs : List PyData) (l : List (Addr × List PyData)) (S1 : Sto) : Prop where
  ex : ∃ I : Nat → List PyData → Sto → Prop, I 0 [] S1 ∧ (∀ i acc S', i ≤ xs.length → I i acc S' → Need S' l) ∧
    (∀ (i : Nat) (x : PyData) acc S', xs[i]? = some x → I i acc S' → g (.d x) (zwipe ρ vs) S' fun ρ2 S2 => tt ρ2 S2 fun b S3 =>
      zBr b (te ρ2 S3 fun y S4 => match y with
        | .d d => acc.length < sizeLine ∧ I (i + 1) (acc ++ [d]) S4
        | _ => False) (I (i + 1) acc S3)) ∧ ∀ acc S', I xs.length acc S' → Q (zl acc) S'
def zLc (ti : ZTI) (g : ZG) (tt : ZB) (te : ZT) (vs : List Nat) : ZT := fun ρ S Q => ti ρ S fun xs l S1 => LcR g tt te vs ρ Q xs l S1
abbrev Blk (X : Cx) (scope : Scope) (P : Cx → Prop) : Prop := ∀ (s : Shared) (H : Hp) (C : Addr) (cl : List (Str × Addr)) (fp : List Addr), P (X.blk s H scope (compEnvC scope cl C X.env) fp)
theorem low_lc {tg iter : Expr} {own : List Nat} {ti : ZTI} {g : ZG} {tt : ZB} {te : ZT} {vs : List Nat} {K : PySem.W.Frag} (hK : K = X.K) (hi : ZI X B tg iter ti)
    (gm : ∀ {z ρ S} {Q Q' : ZEnv → Sto → Prop}, (∀ ρ' S', Q ρ' S' → Q' ρ' S') → g z ρ S Q → g z ρ S Q')
    (tm : ∀ {ρ S} {Q Q' : Bool → Sto → Prop}, (∀ z S', Q z S' → Q' z S') → tt ρ S Q → tt ρ S Q')
    (em : ∀ {ρ S} {Q Q' : ZQ}, (∀ z S', Q z S' → Q' z S') → te ρ S Q → te ρ S Q') (hv : ∀ i ∈ own, i ∈ vs) :
    ∀ σ H Q (Qf : VK), (∀ a us H', H' a = some (.lst us) → (∀ o, Q (.ref a) (upd H' a (.frz o (.lst us)))) → Qf (.ref a) H') → low K B (zLc ti g tt te vs) σ H Q → tLc (lowI K B ti) (lowG K B own g) (lowB K B tt) (low K B te) vs σ H Qf := by
  subst hK
  rintro σ H Q Qf hQf ⟨ρ, S, hE, hS, w⟩
  refine ⟨ρ, S, hE, hS, hi.mono (fun xs nd S1 h1 J H1 st1 R1 ok L nL => ?_) w⟩
  obtain ⟨⟨I, i0, iN, turn, fin⟩⟩ := h1
  obtain ⟨G, W, hG⟩ := ok
  have E1 := hE.le (st1.le hS.1)
  have sm0 : ∀ o, Same H1 (upd H1 L o) := fun o => same_fresh nL
  refine lc_it W (fun i H' => ∃ acc us S', RE X.K H' ρ σ ∧ RS X.K B S' H' ∧ Step S1 S' H1 H' ∧ S' L = none ∧ H' L = some (.lst us) ∧ FzAll X.K H' us acc ∧ I i acc S') ⟨[], [], S1, E1.le (.same (sm0 _)), R1.step (R1.1.same (sm0 _)) (step_same (sm0 _)), step_same (sm0 _), R1.1.fresh nL, upd_same, .nil, i0⟩ ?_ ?_ ?_
  · rintro i H' hi' ⟨acc, us, S', E', R', st', nS, hL, f, h'⟩
    exact hG H' S' (st'.le R1.1) R'.1 (iN i acc S' hi' h')
  · rintro i x H' H2 hlt ⟨acc, us, S', E', R', st', nS, hL, f, h'⟩ ⟨d, ed, sm, fd⟩
    have st2 := step_same (S := S') sm
    have R2 := R'.step (R'.1.same sm) st2
    have E2 := (E'.le (.same sm)).wipe vs
    refine ⟨.d d, zwipe ρ vs, S', .d fd, E2, R2, gm (fun ρ3 S3 h3 σ3 H3 st3 E3 R3 ow => ?_) (turn i d acc S' ed h')⟩
    refine ⟨(ow vs hv).trans wipe_wipe, ρ3, S3, E3, R3, tm (fun b S4 h4 H4 st4 R4 => ?_) h3⟩
    have E0 : ∀ {H5 : Hp}, Le H' H5 → RE X.K H5 ρ σ := fun le => E'.le le
    obtain ⟨hL2, nS2⟩ := ((st2.trans st3).trans st4) L _ hL nS
    have le4 := ((st2.trans st3).trans st4).le R'.1
    cases b with
    | true =>
      refine iteT ⟨ρ3, S4, E3.le (st4.le R3.1), R4, em (fun y S5 h5 v5 H5 st5 rz5 R5 => ?_) h4⟩
      split at h5
      · rename_i d5
        cases rz5 with
        | d rz5 =>
          obtain ⟨hL3, nS3⟩ := st5 L _ hL2 nS2
          have le5 := le4.trans (st5.le R4.1)
          have f5 := f.le le5
          have ls : Le H5 (upd H5 L (.lst (us ++ [v5]))) := le_set hL3
          have stA := (((st'.trans st2).trans st3).trans st4).trans st5
          exact ⟨us, hL3, by rw [f.length]; exact h5.1, acc ++ [d5], us ++ [v5], S5, E0 (le5.trans ls), R5.poke nS3 hL3 (R1.out nL), stA.poke (fun _ e => by rw [nL] at e; cases e), nS3, upd_same, (f5.append (.one rz5)).le ls, h5.2⟩
      · exact h5.elim
    | false => exact iteF ⟨acc, us, S4, E0 le4, R4, st'.trans ((st2.trans st3).trans st4), nS2, hL2, f.le le4, h4⟩
  · rintro H' ⟨acc, us, S', E', R', st', nS, hL, f, h'⟩
    refine hQf L us H' hL fun o => ?_
    have ls : Le H' (upd H' L (.frz o (.lst us))) := ⟨fun b zs e => by rw [upd_ne (ne_of e hL fun z => nomatch z)]; exact e, fun b o u e => by rw [upd_ne (ne_of e hL fun z => nomatch z)]; exact e⟩
    have f' := f.le ls
    exact fin acc S' h' _ _ (st1.trans (st'.poke fun _ e => by rw [nL] at e; cases e)) (.d (.lst ⟨o, upd_same⟩ f')) (R'.poke nS hL (R1.out nL))
variable {tg iter elt : Expr} {ifs : List Expr} {scope : Scope} {own : List (Str × Nat)} {o : List Nat} {ti : ZTI} {g : ZG} {tt : ZB} {te : ZT}
theorem ze_lc (hN : X.N.Nodup) (hi : ZI X B tg iter ti) (ok : BlkOk X.N X.env.scope scope own) (hg : Blk X scope fun X => ZGt X B tg o g) (ht : Blk X scope fun X => ZTs X B ifs tt) (he : Blk X scope fun X => ZE X B elt te)
    (hc : X.calm = true := by rfl) (hv : ∀ i ∈ o, i ∈ own.map (·.2) := by decide) (hs : ∀ x, foldedSetIterable iter X.env x = pure x := by intro _; rfl) : ZE X B (.ListComp elt [⟨tg, iter, ifs, 0⟩] scope pos) (zLc ti g tt te (own.map (·.2))) := by
  have gm : ∀ {z ρ S} {Q Q' : ZEnv → Sto → Prop}, (∀ ρ' S', Q ρ' S' → Q' ρ' S') → g z ρ S Q → g z ρ S Q' := (hg X.s_0 X.H_0 0 [] []).mono
  have tm : ∀ {ρ S} {Q Q' : Bool → Sto → Prop}, (∀ z S', Q z S' → Q' z S') → tt ρ S Q → tt ρ S Q' := (ht X.s_0 X.H_0 0 [] []).mono
  have em : ∀ {ρ S} {Q Q' : ZQ}, (∀ z S', Q z S' → Q' z S') → te ρ S Q → te ρ S Q' := (he X.s_0 X.H_0 0 [] []).mono
  refine ⟨fun {ρ S Q Q'} q w => hi.mono (fun xs l S1 ⟨⟨I, a, b, c, d⟩⟩ => ⟨⟨I, a, b, c, fun acc S' h => q _ _ (d acc S' h)⟩⟩) w, ?_⟩
  exact PE.imp (pe_rest (pe_lc hc hN hi.pi ok (fun s H C cl fp => (hg s H C cl fp).pg) (fun s H C cl fp => (ht s H C cl fp).pts) (fun s H C cl fp => (he s H C cl fp).pe) hs)) fun σ H Q w => low_lc (g := g) (tt := tt) (te := te) rfl hi gm tm em hv σ H Q _ (fun a us H' e q => ⟨a, us, rfl, e, q⟩) w
end
end ZL
namespace ZL
open PySem PySem.Spec PyProof.Rows L2
structure FnG (P : Program) (w : World) (K : PySem.W.Frag) (mg : Str → Option Value) (base : Heap) (k : Nat) (f : Addr) (fd : FuncData) (ps : List Str) (sp : Sp) : Prop where
  len : ∀ vs H Q E, sp vs H Q E → vs.length = ps.length
  run : ∀ (A : Around) (outer : List PySem.Env) (s : Shared) (H : Hp) (args : Args) (us : List Value) (vs : List V) (Q : VK) (E : XK), A.guards = some [] → Room k A → Env0 P w K mg base A outer s H → BindsTo s fd args (ps.zip us) → Vals vs us → sp vs H Q E →
    codeAny (model P w) A (.call (.ref f) args) (CR (L2N.CX P w) outer P w H s Q E) s
theorem FnG.mono {P : Program} {w : World} {K : PySem.W.Frag} {mg : Str → Option Value} {base : Heap} {j k : Nat} {f : Addr} {fd : FuncData} {ps : List Str} {sp : Sp} (F : FnG P w K mg base j f fd ps sp) (h : j ≤ k) : FnG P w K mg base k f fd ps sp :=
  ⟨F.len, fun A outer s H args us vs Q E g hr => F.run A outer s H args us vs Q E g (hr.mono h)⟩
theorem FnG.imp {P : Program} {w : World} {K : PySem.W.Frag} {mg : Str → Option Value} {base : Heap} {k : Nat} {f : Addr} {fd : FuncData} {ps : List Str} {sp sp' : Sp} (F : FnG P w K mg base k f fd ps sp) (h : ∀ vs H Q E, sp' vs H Q E → sp vs H Q E) : FnG P w K mg base k f fd ps sp' :=
  ⟨fun vs H Q E q => F.len vs H Q E (h _ _ _ _ q), fun A outer s H args us vs Q E g hr e b r q => F.run A outer s H args us vs Q E g hr e b r (h _ _ _ _ q)⟩
section
variable {P : Program} {w : World} {K : PySem.W.Frag} {mg : Str → Option Value} {base : Heap} {k : Nat} {f : Addr} {x qual : Str} {N ps : List Str} {sp : Sp} {params : Arguments} {body : List Stmt} {scope : Scope}
theorem fnG_of {dV kV doc pm cdv ct oc : Value} {an od : Option Addr} {osl : Array (Option Value)} (lk : K.lookup f = some ⟨oc, od, .func (PySem.W.fnOf x qual params body scope dV kV doc pm an cdv ct), osl⟩) (hcd : PySem.W.codeIn K cdv qual = true) (S : FnScope N ps scope)
    (len : ∀ vs H Q E, sp vs H Q E → vs.length = ps.length)
    (hbody : ∀ (cdv' : Value), cdv = cdv' → ∀ (A : Around) (outer : List PySem.Env) (s : Shared) (H : Hp) (vs : List V) (Q : VK) (E : XK), A.guards = some [] → Room k (A.deeper (envOfC qual scope s.heap.objs.size f cdv')) → sp vs H Q E →
      ∃ t, PSs (cxOf (L2N.CX P w) P w K mg base N qual scope f cdv' A outer s H E) body t ∧ t { nx := fun _ H' => Q .non H', rt := Q } (start N vs) H) :
    FnG P w K mg base (k + 1) f (PySem.W.fnOf x qual params body scope dV kV doc pm an cdv ct) ps sp := by
  constructor
  · exact len
  · intro A outer s H args us vs Q E hG room ground bound rv promise
    have nargs : vs.length = ps.length := len _ _ _ _ promise
    have inHeap : K.In s.heap := ground.mod.kin.keeps fun b o e => And.left (ground.bs b o e)
    have noLim : s.heap.NoLimit := ground.mod.nolimit.keeps fun b o e => And.left (ground.bs b o e)
    have kinds : ∀ y ∈ ps.zip us, scope.names.lookup y.1 = some .local ∨ (scope.names.lookup y.1 = some .cell ∧ ((cellsFrom (s.heap.objs.size + 1) scope.names []).lookup y.1).isSome = true) := by
      rintro ⟨n, v⟩ hy
      cases S.par n (List.of_mem_zip hy).1 with
      | inl q => exact .inl q
      | inr q => exact .inr ⟨q, PySem.W.cellsFrom_some _ _ _ (.inl q)⟩
    refine codeAny_call_function room.depth (inHeap f _ lk) rfl S.co S.gen rfl (PySem.W.codeRec_of inHeap hcd) (bound _ A.in1 _ _ ?_)
    refine wpAny_newFunctionEnv_cells S.kind kinds ?_
    intro env he s1 entered
    subst he
    refine ⟨noLim.keeps entered.toInCall.keep, codeAny_func ?_⟩
    obtain ⟨t, ht, hq⟩ := hbody cdv rfl A outer s H vs Q E hG (room.deeper _) promise
    have begun := inv_start (CX := L2N.CX P w) (E := E) (qual := qual) (f := f) (cd := cdv) S room.hd ground nargs rv entered
    refine wpAny_mono (ht.run [] s1 (start N vs) H _ begun hq) ?_ (fun _ _ left => left)
    intro fl s' ended
    cases fl with
    | ret u => obtain ⟨v, σ', H', J, r, q⟩ := ended; exact ⟨v, H', J.os, J.bare, J.base, J.hok, r, q⟩
    | next => obtain ⟨σ', H', J, q⟩ := ended; exact ⟨.non, H', J.os, J.bare, J.base, J.hok, rfl, q⟩
    | brk => obtain ⟨_, _, _, q⟩ := ended; exact q.elim
    | cont => obtain ⟨_, _, _, q⟩ := ended; exact q.elim
end
structure ZX where
  cls : Addr
  fs : List (Str × PyData)
inductive RX (K : PySem.W.Frag) (H : Hp) : Value → Option Addr → ZX → Prop
  | plain (C : Addr) : RX K H (.ref C) none ⟨C, []⟩
abbrev ZSp := List Z → Sto → ZQ → (ZX → Sto → Prop) → Prop
def lowP (K : PySem.W.Frag) (zsp : ZSp) : Sp := fun vs H Q E => ∃ zs S, RZs K H vs zs ∧ RS0 K S H ∧ zsp zs S (fun z S' => ∀ v H', Step S S' H H' → RZ K H' v z → RS0 K S' H' → Q v H') fun x S' => ∀ c d H', Step S S' H H' → RX K H' c d x → RS0 K S' H' → E c d H'
structure ZFn (P : Program) (w : World) (K : PySem.W.Frag) (mg : Str → Option Value) (base : Heap) (k : Nat) (f : Addr) (fd : FuncData) (ps : List Str) (zsp : ZSp) : Prop where
  mono : ∀ {zs S Q Q'} {E E' : ZX → Sto → Prop}, (∀ z S', Q z S' → Q' z S') → (∀ x S', E x S' → E' x S') → zsp zs S Q E → zsp zs S Q' E'
  fn : FnG P w K mg base k f fd ps (lowP K zsp)
theorem ZFn.up {P : Program} {w : World} {K : PySem.W.Frag} {mg : Str → Option Value} {base : Heap} {j k : Nat} {f : Addr} {fd : FuncData} {ps : List Str} {sp : ZSp} (F : ZFn P w K mg base j f fd ps sp) (h : j ≤ k) : ZFn P w K mg base k f fd ps sp := ⟨F.mono, F.fn.mono h⟩
abbrev ZXW := ZEnv → ZX → Sto → Prop
def lowW (K : PySem.W.Frag) (B : Bs) (EZ : ZXW) : WX := fun c d σ H => ∃ ρ x S, RE K H ρ σ ∧ RX K H c d x ∧ RS K B S H ∧ EZ ρ x S
def Tk (X : Cx) (B : Bs) (EZ : ZXW) : Prop := L2N.Takes X (lowW X.K B EZ)
theorem takes0N {X : Cx} : L2N.Takes X (fun _ _ _ _ => False) := fun _ _ x => by
  obtain ⟨_, _, _, _, _, _, _, _, _, _, _, _, _, _, _, _, z⟩ := x
  exact z.elim
theorem tk0 {X : Cx} {B : Bs} : Tk X B fun _ _ _ => False := takes0N.imp fun _ _ _ _ ⟨_, _, _, _, _, _, h⟩ => h
def Sub (S S' : Sto) : Prop := S' = S
theorem Sub.refl (S : Sto) : Sub S S := rfl
theorem Sub.rs {K : PySem.W.Frag} {S S' : Sto} {H : Hp} (h : Sub S S') (r : RS0 K S' H) : RS0 K S H := by cases h; exact r
theorem Sub.step {S0 S S' : Sto} {H0 H : Hp} (h : Sub S S') (r : Step S0 S' H0 H) : Step S0 S H0 H := by cases h; exact r
section
variable {P : Program} {w : World} {K : PySem.W.Frag} {mg : Str → Option Value} {base : Heap} {k : Nat} {f : Addr} {fd : FuncData} {x qual : Str} {st : Stmt} {N ps : List Str} {zsp : ZSp}
theorem zfn_core {params : Arguments} {body : List Stmt} {scope : Scope} {dV kV doc pm cdv ct oc : Value} {an od : Option Addr} {osl : Array (Option Value)} (lk : K.lookup f = some ⟨oc, od, .func (PySem.W.fnOf x qual params body scope dV kV doc pm an cdv ct), osl⟩) (hcd : PySem.W.codeIn K cdv qual = true) (S : FnScope N ps scope)
    (len : ∀ zs S Q E, zsp zs S Q E → zs.length = ps.length) (mono : ∀ {zs S Q Q'} {E E' : ZX → Sto → Prop}, (∀ z S', Q z S' → Q' z S') → (∀ x S', E x S' → E' x S') → zsp zs S Q E → zsp zs S Q' E')
    (hbody : ∀ (cdv' : Value), cdv = cdv' → ∀ (A : Around) (outer : List PySem.Env) (s : Shared) (H : Hp) (E : XK) (zs : List Z) (S : Sto) (Qz : ZQ) (Ez : ZX → Sto → Prop), (A.deeper (envOfC qual scope s.heap.objs.size f cdv')).guards = some [] → Room k (A.deeper (envOfC qual scope s.heap.objs.size f cdv')) →
      Tk (cxOf (L2N.CX P w) P w K mg base N qual scope f cdv' A outer s H E) ⟨S, H⟩ (fun _ x S' => ∃ S2, Sub S2 S' ∧ Ez x S2) → zsp zs S Qz Ez →
      ∃ t, ZSs (cxOf (L2N.CX P w) P w K mg base N qual scope f cdv' A outer s H E) ⟨S, H⟩ body t ∧ t { nx := fun _ S' => ∃ S2, Sub S2 S' ∧ Qz (.d .none) S2, rt := fun z S' => ∃ S2, Sub S2 S' ∧ Qz z S2 } (zstart N zs) S) :
    ZFn P w K mg base (k + 1) f (PySem.W.fnOf x qual params body scope dV kV doc pm an cdv ct) ps zsp := by
  refine ⟨mono, fnG_of lk hcd S (fun vs H Q E h => ?_) fun cdv ecd A outer s H vs Q E hG hr h => ?_⟩
  · obtain ⟨zs, S, r, _, h⟩ := h
    rw [r.length]
    exact len zs S _ _ h
  · obtain ⟨zs, S, r, rs, h⟩ := h
    have e0 : L2N.Takes (cxOf (L2N.CX P w) P w K mg base N qual scope f cdv A outer s H E) (fun c d _ H' => E c d H') := L2N.takes_of rfl rfl rfl rfl
    have e1 : ∃ (Qz : ZQ) (Ez : ZX → Sto → Prop), (Qz = fun z S' => ∀ v H', Step S S' H H' → RZ K H' v z → RS0 K S' H' → Q v H') ∧ (Ez = fun x S' => ∀ c d H', Step S S' H H' → RX K H' c d x → RS0 K S' H' → E c d H') := ⟨_, _, rfl, rfl⟩
    obtain ⟨Qz, Ez, eQ, eE⟩ := e1
    obtain ⟨t, zt, q⟩ := hbody cdv ecd A outer s H E zs S Qz Ez hG hr (e0.imp fun c d σ H' hw => by
      obtain ⟨ρ, x, S', _, rx, rS, S2, sb, hE⟩ := hw
      subst eE
      exact hE c d H' (sb.step rS.2) rx (sb.rs rS.1)) (by rw [eQ, eE]; exact h)
    refine ⟨_, zt.pss, zstart N zs, S, { nx := fun _ S' => ∃ S2, Sub S2 S' ∧ Qz (.d .none) S2, rt := fun z S' => ∃ S2, Sub S2 S' ∧ Qz z S2 }, RE.start r, ⟨rs, .refl _ _⟩, ⟨fun ρ' S' σ' H' hq st _ rS => ?_, fun z S' v H' hq st rz rS => ?_, fun _ _ _ _ hq _ _ _ => hq.elim, fun _ _ _ _ hq _ _ _ => hq.elim⟩, q⟩
    · obtain ⟨S2, sb, hq⟩ := hq
      subst eQ
      exact hq .non H' (sb.step st) (.d .non) (sb.rs rS.1)
    · obtain ⟨S2, sb, hq⟩ := hq
      subst eQ
      exact hq v H' (sb.step st) rz (sb.rs rS.1)
theorem zfnD {params : Arguments} {body : List Stmt} {scope : Scope} {dvs : List V} {kws : List (Str × V)} (F : FunD K x qual params body scope dvs kws f fd) (S : FnScope N ps scope) (len : ∀ zs S Q E, zsp zs S Q E → zs.length = ps.length) (mono : ∀ {zs S Q Q'} {E E' : ZX → Sto → Prop}, (∀ z S', Q z S' → Q' z S') → (∀ x S', E x S' → E' x S') → zsp zs S Q E → zsp zs S Q' E')
    (hbody : ∀ (cdv : Value), fd.code = cdv → ∀ (A : Around) (outer : List PySem.Env) (s : Shared) (H : Hp) (E : XK) (zs : List Z) (S : Sto) (Qz : ZQ) (Ez : ZX → Sto → Prop), (A.deeper (envOfC qual scope s.heap.objs.size f cdv)).guards = some [] → Room k (A.deeper (envOfC qual scope s.heap.objs.size f cdv)) →
      Tk (cxOf (L2N.CX P w) P w K mg base N qual scope f cdv A outer s H E) ⟨S, H⟩ (fun _ x S' => ∃ S2, Sub S2 S' ∧ Ez x S2) → zsp zs S Qz Ez →
      ∃ t, ZSs (cxOf (L2N.CX P w) P w K mg base N qual scope f cdv A outer s H E) ⟨S, H⟩ body t ∧ t { nx := fun _ S' => ∃ S2, Sub S2 S' ∧ Qz (.d .none) S2, rt := fun z S' => ∃ S2, Sub S2 S' ∧ Qz z S2 } (zstart N zs) S) :
    ZFn P w K mg base (k + 1) f fd ps zsp := by
  obtain ⟨oc, od, dV, kV, doc, pm, an, cdv, ct, osl, rfl, lk, hcd, _, _⟩ := F.ex
  exact zfn_core lk hcd S len mono hbody
end
section
variable {X : Cx} {B : Bs} {k n : Nat} {f : Addr} {fd : FuncData} {ps ks : List Str} {zsp : ZSp} {EZ : ZXW} {x : Str} {p pos : Pos} {e : Expr} {es : List Expr} {kws : List Keyword} {t tk : ZA}
theorem run_fnG {sp : Sp} {pins : List (Addr × Obj)} {σ : L2.St} {H : Hp} {s : Shared} {Q : VK} {E : XK} {args : Args} {us : List Value} {vs : List V} (F : FnG X.prog X.w X.K X.mg X.base k f fd ps sp) (hG : X.A.guards = some []) (hr : Room k X.A) (hb : BindsTo s fd args (ps.zip us)) (hx : PassesAt (L2N.CX X.prog X.w) X σ E)
    (I : Inv X pins σ H s) (r : Vals vs us) (h : sp vs H Q E) : codeAny (model X.prog X.w) X.A (.call (.ref f) args) (fun r s' => match r with | .ok (.ret u) => EP X pins σ Q u s' | .ok _ => False | .error e => X.xe e s') s := by
  refine codeAny_mono (F.run X.A X.stack s H args us vs Q E hG hr I.env0 hb r h) ?_
  intro r s' ended
  cases r with
  | error e => exact hx pins H s e s' I ended
  | ok fl =>
    cases fl with
    | ret u => exact I.after ended
    | next => exact ended.elim
    | brk => exact ended.elim
    | cont => exact ended.elim
def zCallF (zsp : ZSp) (EZ : ZXW) (t : ZA) : ZT := fun ρ S Q => t ρ S fun zs S1 => zsp zs S1 Q (EZ ρ)
theorem low_promise {ρ : ZEnv} {σ : L2.St} {S S1 : Sto} {H H1 : Hp} {zs : List Z} {vs : List V} {Q : VK} {Qz : ZQ} (mono : ∀ {zs S Q Q'} {E E' : ZX → Sto → Prop}, (∀ z S', Q z S' → Q' z S') → (∀ x S', E x S' → E' x S') → zsp zs S Q E → zsp zs S Q' E')
    (q : ∀ z S' v H', Qz z S' → Step S S' H H' → RZ X.K H' v z → RS X.K B S' H' → Q v H') (st : Step S S1 H H1) (E1 : RE X.K H1 ρ σ) (R1 : RS X.K B S1 H1) (r : RZs X.K H1 vs zs) (w : zsp zs S1 Qz (EZ ρ)) : lowP X.K zsp vs H1 Q (WE (lowW X.K B EZ) σ) :=
  ⟨zs, S1, r, R1.1, mono (fun z S' h v H' st' rz rs => q z S' v H' h (st.trans st') rz (R1.step rs st')) (fun x S' h c d H' st' rx rs => ⟨ρ, x, S', E1.le (st'.le R1.1), rx, R1.step rs st', h⟩) w⟩
theorem ze_call (F : ZFn X.prog X.w X.K X.mg X.base k f fd ps zsp) (hG : X.A.guards = some []) (hr : Room k X.A) (hm : X.mg x = some (.ref f)) (hk : PySem.W.keepIn X.K (.ref f) = true) (hb : Binds X.K fd ps []) (hx : Tk X B EZ)
    (ha : ZAs X B (e :: es) t) (hg : Gl X x := by rfl) (hdb : (x == ("__debug__" : Str)) = false := by decide) (he : starEach (e :: es) X.env = (false, eval e X.env) :: starEach es X.env := by rfl) (hpl : (backTo pos (starEach es X.env)).any (·.1) = false := by rfl) :
    ZE X B (.Call (.Name x p) (e :: es) [] pos) (zCallF zsp EZ t) := by
  refine ⟨fun q w => ha.mono (fun zs S1 h1 => F.mono q (fun _ _ h => h) h1) w, ⟨fun pins s σ H Q I h => ?_⟩⟩
  obtain ⟨ρ, S, hE, hS, h⟩ := h
  have low := ha.go (Q := fun vs H1 => lowP X.K zsp vs H1 Q (WE (lowW X.K B EZ) σ)) hE hS h fun zs S1 vs H1 h1 st1 E1 R1 r => low_promise F.mono (fun z S' v H' hq st rz rs => hq v H' st rz rs) st1 E1 R1 r h1
  refine wpAny_Call_Name_kw (ld_glob I hg hm ?_ hdb)
  refine PySem.W.callWith_K (h₀ := X.base) I.mod.kin hk (thn (ha.pa.run pos pins s σ H _ I low) ?_) he hpl
  rintro us s1 ⟨vs, H1, I1, rv, q1⟩
  refine ⟨I1.kIn, wpAny_call (codeAny_mono (run_fnG F.fn hG hr ?_ (L2N.passAt hx σ) I1 rv q1) ?_)⟩
  · have nus : us.length = ps.length := rv.length.symm.trans (F.fn.len _ _ _ _ q1)
    have b := hb s1 us I1.kIn (by rw [List.append_nil]; exact nus)
    rw [List.append_nil] at b
    exact b
  · intro r s' ended
    cases r with
    | error e => exact ended
    | ok fl => cases fl <;> first | exact ended | exact ended.elim
structure ZKw (X : Cx) (B : Bs) (kws : List Keyword) (t : ZA) : Prop where
  mono : ∀ {ρ S} {Q Q' : List Z → Sto → Prop}, (∀ z S', Q z S' → Q' z S') → t ρ S Q → t ρ S Q'
  pk : PK X kws (lowA X.K B t)
theorem PK.imp {kws : List Keyword} {t t' : TA} (h : PK X kws t) (q : ∀ σ H Q, t' σ H Q → t σ H Q) : PK X kws t' := ⟨fun pos pins s σ H Q I w => h.run pos pins s σ H Q I (q σ H Q w)⟩
theorem zk_nil : ZKw X B [] zNil := by
  refine ⟨fun q h => q _ _ h, PK.imp pk_nil ?_⟩
  rintro σ H Q ⟨ρ, S, hE, hS, h⟩
  exact h [] H (.refl _ _) .nil hS
theorem ZKw.go (h : ZKw X B kws t) {ρ : ZEnv} {S : Sto} {σ : L2.St} {H : Hp} {R : List Z → Sto → Prop} {Q : List V → Hp → Prop} (hE : RE X.K H ρ σ) (hS : RS X.K B S H) (w : t ρ S R)
    (kk : ∀ z S' v H', R z S' → Step S S' H H' → RE X.K H' ρ σ → RS X.K B S' H' → RZs X.K H' v z → Q v H') : lowA X.K B t σ H Q :=
  ⟨ρ, S, hE, hS, h.mono (fun z S' r v H' st rz rs => kk z S' v H' r st (hE.le (st.le hS.1)) rs rz) w⟩
structure ZBn (K : PySem.W.Frag) (fd : FuncData) (ps : List Str) (n : Nat) (ks : List Str) (gZ : List Z → List Z → List Z) : Prop where
  to : ∃ (g : List Value → List Value → List Value) (gV : List V → List V → List V), KBn K fd ps n ks g gV ∧ ∀ {H : Hp} {vs ws : List V} {zs ys : List Z}, RZs K H vs zs → RZs K H ws ys → RZs K H (gV vs ws) (gZ zs ys)
def zCallK (n m : Nat) (zsp : ZSp) (gZ : List Z → List Z → List Z) (EZ : ZXW) (t tk : ZA) : ZT := fun ρ S Q => t ρ S fun zs S1 => tk ρ S1 fun ys S2 => zs.length = n ∧ ys.length = m ∧ zsp (gZ zs ys) S2 Q (EZ ρ)
variable {gZ : List Z → List Z → List Z}
theorem zCallK_mono (F : ZFn X.prog X.w X.K X.mg X.base k f fd ps zsp) (ha : ZAs X B es t) (hkw : ZKw X B kws tk) {m : Nat} {ρ : ZEnv} {S : Sto} {Q Q' : ZQ} (q : ∀ z S', Q z S' → Q' z S') (w : zCallK n m zsp gZ EZ t tk ρ S Q) : zCallK n m zsp gZ EZ t tk ρ S Q' :=
  ha.mono (fun zs S1 h1 => hkw.mono (fun ys S2 h2 => ⟨h2.1, h2.2.1, F.mono q (fun _ _ h => h) h2.2.2⟩) h1) w
theorem run_kw (F : ZFn X.prog X.w X.K X.mg X.base k f fd ps zsp) (hG : X.A.guards = some []) (hr : Room k X.A) (hb : ZBn X.K fd ps n ks gZ) (hx : Tk X B EZ) {pins : List (Addr × Obj)} {σ : L2.St} {ρ : ZEnv} {S S2 : Sto} {H H2 : Hp} {s : Shared} {Q : VK} {Qz : ZQ} {us ws : List Value} {vs vk : List V} {zs ys : List Z}
    (I : Inv X pins σ H2 s) (rv : Vals vs us) (rw' : Vals vk ws) (st : Step S S2 H H2) (E2 : RE X.K H2 ρ σ) (R2 : RS X.K B S2 H2) (r : RZs X.K H2 vs zs) (r' : RZs X.K H2 vk ys) (l1 : zs.length = n) (l2 : ys.length = ks.length) (h : zsp (gZ zs ys) S2 Qz (EZ ρ))
    (q : ∀ z S' v H', Qz z S' → Step S S' H H' → RZ X.K H' v z → RS X.K B S' H' → Q v H') : wpAny (model X.prog X.w) X.A (call (.ref f) us (ks.zip ws)) (EP X pins σ Q) X.xe s := by
  obtain ⟨g, gV, b, gz⟩ := hb.to
  have rr := b.rel rv rw'
  have low := low_promise (zsp := zsp) (B := B) (EZ := EZ) (Q := Q) F.mono q st E2 R2 (gz r r') h
  refine wpAny_call (codeAny_mono (run_fnG F.fn hG hr (b.to s us ws I.kIn (by rw [← rv.length, r.length]; exact l1) (by rw [← rw'.length, r'.length]; exact l2)) (L2N.passAt hx σ) I rr low) ?_)
  intro r s' ended
  cases r with
  | error e => exact ended
  | ok fl => cases fl <;> first | exact ended | exact ended.elim
theorem ze_callK (F : ZFn X.prog X.w X.K X.mg X.base k f fd ps zsp) (hG : X.A.guards = some []) (hr : Room k X.A) (hm : X.mg x = some (.ref f)) (hk : PySem.W.keepIn X.K (.ref f) = true) (hb : ZBn X.K fd ps n ks gZ) (hx : Tk X B EZ)
    (ha : ZAs X B (e :: es) t) (hkw : ZKw X B kws tk) (hg : Gl X x := by rfl) (hall : (backToKw pos (keywordEach kws X.env)).all (·.1.isSome) = true := by rfl) (hks : (backToKw pos (keywordEach kws X.env)).filterMap (·.1) = ks := by rfl)
    (hdb : (x == ("__debug__" : Str)) = false := by decide) (he : starEach (e :: es) X.env = (false, eval e X.env) :: starEach es X.env := by rfl)
    (hpl : ((backTo pos (starEach (e :: es) X.env)).any (·.1) || (backToKw pos (keywordEach kws X.env)).any (·.1.isNone)) = false := by rfl) :
    ZE X B (.Call (.Name x p) (e :: es) kws pos) (zCallK n ks.length zsp gZ EZ t tk) := by
  refine ⟨fun q w => zCallK_mono F ha hkw q w, ⟨fun pins s σ H Q I h => ?_⟩⟩
  obtain ⟨ρ, S, hE, hS, h⟩ := h
  refine wpAny_Call_Name_kw (ld_glob I hg hm ?_ hdb)
  have low := ha.go (Q := fun vs H1 => lowA X.K B tk σ H1 fun vk H2 => ∀ (s2 : Shared) (us ws : List Value), Inv X pins σ H2 s2 → Vals vs us → Vals vk ws → wpAny (model X.prog X.w) X.A (call (.ref f) us (ks.zip ws)) (EP X pins σ Q) X.xe s2) hE hS h
    fun zs S1 vs H1 h1 st1 E1 R1 r => hkw.go E1 R1 h1 fun ys S2 vk H2 h2 st2 E2 R2 r' s2 us ws I2 rv rw' =>
      run_kw F hG hr hb hx I2 rv rw' (st1.trans st2) E2 R2 (r.le (st2.le R1.1)) r' h2.1 h2.2.1 h2.2.2 fun z S' v H' hq st rz rs => hq v H' st rz rs
  refine PySem.W.callWith_KW (h₀ := X.base) I.mod.kin hk hall (thn (ha.pa.run pos pins s σ H _ I low) ?_) hpl he
  rintro us s1 ⟨vs, H1, I1, rv, q1⟩
  refine thn (hkw.pk.run pos pins s1 σ H1 _ I1 q1) ?_
  rintro ws s2 ⟨vk, H2, I2, rw', q2⟩
  refine ⟨I2.kIn, ?_⟩
  rw [hks]
  exact q2 s2 us ws I2 rv rw'
def zRaise (EZ : ZXW) (C : Addr) : ZTS := fun _ ρ S => EZ ρ ⟨C, []⟩ S
theorem zs_raise {C : Addr} {bmB : List Value} {Bn newId initId : String} {m : Str} {j : Nat} {p2 pos' : Pos} (hx : Tk X B EZ) (Fx : ExcBaseFacts Bn newId initId bmB) (q : PySem.W.excIn X.K C bmB newId = true) (gC : X.mg x = some (.ref C)) (kC : PySem.W.keepIn X.K (.ref C) = true) (r : Raises X (.ref C)) (hc : X.calm = true := by rfl) (hg : Gl X x := by rfl)
    (hdb : (x == ("__debug__" : Str)) = false := by decide) : ZS X B (.Raise (some (.Call (.Name x p) [.Constant (.str m) j p2] [] pos)) none pos') (zRaise EZ C) := ⟨PS.imp (L2N.ps_raise hc hx (L2N.pmk_own Fx q gC kC r hg hdb)) (by
  rintro E σ H ⟨ρ, S, D, hE, hS, l, w⟩
  exact ⟨ρ, _, S, hE, .plain C, hS, w⟩)⟩
end
end ZL
namespace ZL
open PySem PySem.Spec PyProof.Rows L2 HT
section
variable {prog : Program} {w : World} {A : Around} {E : Value → Shared → Prop} {s : Shared}
theorem back_applied {sl : Addr} {u : Tok} {n : Nat} {Q : Int × Int × Nat → Shared → Prop} (hs : s.heap.IsSliceOf sl .none .none (.int (-1) u)) (h : Q ((n : Int) - 1, -1, n) s) : wpAny (model prog w) A (Builtin.Slice.sliceApplied (.ref sl) (pure (n : Int))) Q E s := by
  obtain ⟨os, there, cls, dat⟩ := id hs
  unfold Builtin.Slice.sliceApplied Builtin.Slice.sliceFields
  refine wpAny_bind ?_
  refine wpAny_bind (wpAny_field there dat (x := .none) rfl ?_)
  refine wpAny_bind (wpAny_field there dat (x := .none) rfl ?_)
  refine wpAny_bind (wpAny_field there dat (x := .int (-1) u) rfl (wpAny_pure ?_))
  refine wpAny_bind (slicePart_int ?_)
  show wpAny _ _ (if ((-1 : Int) == 0) = true then _ else _) _ _ s
  rw [if_neg (by decide)]
  refine wpAny_bind (slicePart_none ?_)
  refine wpAny_bind (slicePart_none ?_)
  refine wpAny_bind (wpAny_pure ?_)
  have e : Builtin.Slice.sliceAdjust none none (-1) (n : Int) = ((n : Int) - 1, -1) := by
    unfold Builtin.Slice.sliceAdjust
    simp
  have e2 : Builtin.Slice.slicePlaces ((n : Int) - 1) (-1) (-1) = n := by
    unfold Builtin.Slice.slicePlaces
    first
      | (simp; omega)
      | (split <;> omega)
      | (simp only []; split <;> simp <;> omega)
  show wpAny _ _ (match Builtin.Slice.sliceAdjust none none (-1) (n : Int) with | (lo, hi) => pure (lo, (-1 : Int), Builtin.Slice.slicePlaces lo hi (-1))) _ _ s
  rw [e]
  show wpAny _ _ (pure ((n : Int) - 1, (-1 : Int), Builtin.Slice.slicePlaces ((n : Int) - 1) (-1) (-1))) _ _ s
  rw [e2]
  exact wpAny_pure h
theorem fm_congr {α β : Type} {f g : α → Option β} : ∀ {l : List α}, (∀ m ∈ l, f m = g m) → l.filterMap f = l.filterMap g
  | [], _ => rfl
  | a :: r, h => by rw [List.filterMap_cons, List.filterMap_cons, h a (by simp), fm_congr fun m hm => h m (by simp [hm])]
theorem back_pick (xs : Array Value) : ((List.range xs.size).filterMap fun (m : Nat) => xs[((xs.size : Int) - 1 + (m : Int) * (-1)).toNat]?).toArray = xs.toList.reverse.toArray := by
  have e : (List.range xs.size).filterMap (fun (m : Nat) => xs[((xs.size : Int) - 1 + (m : Int) * (-1)).toNat]?) = (List.range xs.size).filterMap ((fun k => xs[k]?) ∘ fun k => xs.size - 1 - k) := by
    refine fm_congr fun m hm => ?_
    have := List.mem_range.mp hm
    show xs[((xs.size : Int) - 1 + (m : Int) * (-1)).toNat]? = xs[xs.size - 1 - m]?
    rw [show ((xs.size : Int) - 1 + (m : Int) * (-1)).toNat = xs.size - 1 - m by omega]
  rw [e, ← List.filterMap_map, PySem.W.krv_range, List.filterMap_reverse, PySem.W.krv_all]
theorem back_item {t sl : Addr} {items : Array Value} {u : Tok} {Q : Value → Shared → Prop} (ht : IsTup s.heap t items) (hs : s.heap.IsSliceOf sl .none .none (.int (-1) u))
    (h : Q (.ref s.heap.objs.size) { s with heap := s.heap.push { cls := .type "tuple", data := .seq items.toList.reverse.toArray } }) (hsz : items.size ≤ sizeLine) : wpAny (model prog w) A (getItem (.ref t) (.ref sl)) Q E s := by
  have fits : sizeOk (.seq items.toList.reverse.toArray) := by
    show items.toList.reverse.toArray.size ≤ sizeLine
    simpa using hsz
  obtain ⟨os, there, cls, dat⟩ := id hs
  have isSl : s.TypeIs (.ref sl) "slice" := ⟨os, there, cls⟩
  unfold getItem
  try with_reducible refine wpAny_holding ?_
  try refine wpAny_bind (wpAny_pure ?_)
  refine wpAny_bind ?_
  refine wpAny_sequenceKey ht.typeIs (by decide) ?_
  refine wpAny_bind ?_
  refine wpAny_callSpecial?_slot (name := Str.ofString "__getitem__") ht.typeIs PyProof.Rows.slot_tuple_getitem ?_
  refine wpAny_call_entry PyProof.Rows.slot_tuple_getitem ht.typeIs entry_tuple_getitem ?_ (args_tuple_getitem _ _)
  show wpAny _ _ (Builtin.Tuple.tupleItemsOf (.ref t) >>= fun _ => _) _ _ s
  refine wpAny_bind (tupleItemsOf_ ht ?_)
  refine wpAny_bind ?_
  refine wpAny_typeOf isSl ?_
  rw [if_pos (by decide)]
  refine wpAny_bind (back_applied hs ?_)
  have other : ¬ (((items.size : Int) - 1 == 0 && (-1 : Int) == 1 && items.size == items.size) = true) := by simp
  show wpAny _ _ (if ((items.size : Int) - 1 == 0 && (-1 : Int) == 1 && items.size == items.size) = true then _ else _) _ _ s
  rw [if_neg other, back_pick]
  first
    | refine wpAny_bind (wpAny_bind (m := Builtin.Tuple.tupleExact _) (wpAny_newObj_type ?_ fits)); exact wpAny_pure (wpAny_pure ⟨_, rfl, wpAny_pure h⟩)
    | refine wpAny_bind (wpAny_bind (m := Builtin.Tuple.tupleExact _) (wpAny_newObj_type ?_ fits)); exact wpAny_pure ⟨_, rfl, wpAny_pure h⟩
    | refine wpAny_bind (m := Builtin.Tuple.tupleExact _) (wpAny_newObj_type ?_ fits); exact wpAny_bind (wpAny_pure (wpAny_pure ⟨_, rfl, wpAny_pure h⟩))
    | refine wpAny_bind (m := Builtin.Tuple.tupleExact _) (wpAny_newObj_type ?_ fits); exact wpAny_pure ⟨_, rfl, wpAny_pure h⟩
end
section
variable {X : Cx} {B : Bs}
theorem pe_back {e : Expr} {te : TE} {k : Nat} {p1 p2 p3 pos : Pos} (he : PE X e te) : PE X (.Subscript e (.Slice none none (some (.UnaryOp .USub (.Constant (.int 1) k p1) p2)) p3) pos) (fun σ H Q => te σ H fun x H1 => ∃ a xs, x = .ref a ∧ SqT X.K H1 a xs ∧ ∀ p, H1 p = none → Q (.ref p) (upd H1 p (.tup xs.reverse))) := by
  refine ⟨fun pins s σ H Q I h => ?_⟩
  refine Subscript_ (thn (he.run pins s σ H _ I h) ?_)
  rintro v s1 ⟨x, H1, I1, r1, a, xs, rfl, hq, q⟩
  cases r1
  refine wpAny_Slice ?_
  rw [evalPart_none]
  refine wpAny_pure ?_
  refine wpAny_pure ?_
  have part : PE X (.UnaryOp .USub (.Constant (.int 1) k p1) p2) _ := pe_un un_neg pe_int
  refine thn ((po_some part).run pins s1 σ H1 (fun o H2 => o = some (-1) ∧ H2 = H1) I1 ⟨1, rfl, -1, rfl, rfl, rfl⟩) ?_
  rintro vu s2 ⟨o, H2, I2, pu, rfl, rfl⟩
  cases pu with
  | int i u =>
    have I3 : L2.Inv X pins σ H2 { s2 with heap := s2.heap.push { cls := .type "slice", data := .fields #[.none, .none, .int (-1) u] } } := I2.kept (t' := s2.toks) fun b ob q => Heap.get?_push_of_some _ q
    obtain ⟨its, rv, ht, hz⟩ := I3.tuple hq
    show wpAny (model X.prog X.w) X.A (subscriptTail e (.Slice none none (some (.UnaryOp .USub (.Constant (.int 1) k p1) p2)) p3) (.ref a) (.ref s2.heap.objs.size)) (EP X pins σ Q) X.xe { s2 with heap := s2.heap.push { cls := .type "slice", data := .fields #[.none, .none, .int (-1) u] } }
    refine PyProof.Rows.tail_any (ops := [.ref a, .ref s2.heap.objs.size]) ht.typeIs PyProof.Rows.slot_tuple_getitem.lookup (back_item ht (Heap.IsSliceOf.new ..) ?_ (by rw [List.size_toArray, ← rv.length]; exact hz)) (by with_unfolding_all rfl)
    refine ⟨.ref _, _, I3.laid (t' := s2.toks) (o := .tup xs.reverse) (fun b ob q => Heap.get?_push_of_some _ q) (Nat.le_refl _) ?_, rfl, q _ (I3.hok.fresh (Nat.le_refl _))⟩
    exact ⟨by rw [List.length_reverse]; exact hz, its.reverse, rv.reverse, ⟨_, Heap.get?_push_size _ rfl, rfl, 0, rfl⟩⟩
theorem FzAll.reverse {K : PySem.W.Frag} {H : Hp} : ∀ {ds : List PyData} {vs : List V}, FzAll K H vs ds → FzAll K H vs.reverse ds.reverse
  | _, _, .nil => .nil
  | _, _, .cons h t => by rw [List.reverse_cons, List.reverse_cons]; exact (FzAll.reverse t).append (.one h)
def zBack (te : ZT) : ZT := fun ρ S Q => te ρ S fun z S1 => match z with
  | .d (.tuple xs) => Q (zt xs.reverse) S1
  | _ => False
theorem ze_back {e : Expr} {te : ZT} {k : Nat} {p1 p2 p3 pos : Pos} (he : ZE X B e te) : ZE X B (.Subscript e (.Slice none none (some (.UnaryOp .USub (.Constant (.int 1) k p1) p2)) p3) pos) (zBack te) := by
  refine ⟨fun {ρ S Q Q'} q w => he.mono (fun z S1 h1 => ?_) w, PE.imp (pe_back he.pe) ?_⟩
  · split at h1
    · exact q _ _ h1
    · exact h1.elim
  · rintro σ H Q ⟨ρ, S, hE, hS, w⟩
    refine he.go hE hS w fun z S1 v H1 h1 st E1 R1 rz => ?_
    split at h1
    · cases rz with
      | d rz =>
        cases rz with
        | @tup a xs _ sq f =>
          refine ⟨a, xs, rfl, sq, fun p hp => ?_⟩
          have sm : Same H1 (upd H1 p (.tup xs.reverse)) := same_fresh hp
          exact h1 _ _ (st.trans (step_same sm)) (.d (.tup (SqT.of upd_same) (f.reverse.le (.same sm)))) (R1.step (R1.1.same sm) (step_same sm))
    · exact h1.elim
def rZPlus : ZR2 := fun x y S Q => match x, y with
  | .d (.int i), .d (.int j) => Q (zi (i + j)) S
  | .d (.str i), .d (.str j) => i.length + j.length ≤ sizeLine ∧ Q (zs (i ++ j)) S
  | .d (.tuple a), .d (.tuple b) => a.length + b.length ≤ sizeLine ∧ Q (zt (a ++ b)) S
  | x, y => rZCat x y S Q
theorem zplus : ZOp X (binaryOp .Add) rZPlus := by
  constructor
  · intro x y S Q Q' q w
    unfold rZPlus at *
    split at w
    · exact q _ _ w
    · exact ⟨w.1, q _ _ w.2⟩
    · exact ⟨w.1, q _ _ w.2⟩
    · exact zcat.mono (X := X) q w
  · rintro B pins s σ H x y v u Q I rx ry ⟨z1, z2, S, h1, h2, hS, w⟩
    unfold rZPlus at w
    split at w
    · exact zadd.op B pins s σ H x y v u Q I rx ry ⟨_, _, S, h1, h2, hS, w⟩
    · exact zadd.op B pins s σ H x y v u Q I rx ry ⟨_, _, S, h1, h2, hS, w⟩
    · exact zadd.op B pins s σ H x y v u Q I rx ry ⟨_, _, S, h1, h2, hS, w⟩
    · exact zcat.op B pins s σ H x y v u Q I rx ry ⟨_, _, S, h1, h2, hS, w⟩
end
end ZL
namespace ZL
open PySem PySem.Spec PyProof.Rows L2
section
variable {X : Cx} {B : Bs} {pos : Pos}
variable {tg iter elt : Expr} {ifs : List Expr} {scope : Scope} {own : List (Str × Nat)} {o : List Nat} {ti : ZTI} {g : ZG} {tt : ZB} {te : ZT}
structure LcRM (g : ZG) (tt : ZB) (te : ZT) (vs : List Nat) (ρ : ZEnv) (Q : ZQ) (xs : List PyData) (l : List (Addr × List PyData)) (S1 : Sto) : Prop where
  ex : ∃ I : Nat → List PyData → Sto → Prop, I 0 [] S1 ∧ (∀ i acc S', i ≤ xs.length → I i acc S' → Need S' l) ∧
    (∀ (i : Nat) (x : PyData) acc S', xs[i]? = some x → I i acc S' → g (.d x) (zwipe ρ vs) S' fun ρ2 S2 => tt ρ2 S2 fun b S3 =>
      zBr b (te ρ2 S3 fun y S4 => match y with
        | .d d => acc.length < sizeLine ∧ I (i + 1) (acc ++ [d]) S4
        | _ => False) (I (i + 1) acc S3)) ∧ ∀ acc S', I xs.length acc S' → ∀ p, S' p = none → Q (.r p) (S'.put p (.lst acc))
end
theorem need_nil {S : Sto} : Need S [] := fun _ h => nomatch h
end ZL
namespace ZL
open PySem PySem.Spec PyProof.Rows L2
section
variable {X : Cx} {B : Bs}
def inB (neg : Bool) (ds : List PyData) (a : PyData) : Bool := bif neg then !ds.any fun z => PyData.eqv z a else ds.any fun z => PyData.eqv z a
variable {ta tb tc : ZT} {a b c : Expr} {pos : Pos}
def tyD : String → PyData → Bool
  | "list", .list _ => true
  | "str", .str _ => true
  | _, _ => false
theorem tyD_ok {K : PySem.W.Frag} {H : Hp} {T : String} {d : PyData} {v : V} (h : tyD T d = true) (f : Fz K H v d) : tyV K T v H := by
  unfold tyD at h
  split at h
  · cases f with | lst s _ => exact .inl ⟨rfl, _, s.l⟩
  · cases f with | str _ => rfl
  · cases h
def MtD (X : Cx) (id : String) (g : PyData → List PyData → Option PyData) : Prop := MtR X id fun x xs H Q => ∃ d ds y, Fz X.K H x d ∧ FzAll X.K H xs ds ∧ g d ds = some y ∧ ∀ x', Fz X.K H x' y → Q x' H
def zMeth (T : String) (g : PyData → List PyData → Option PyData) (to : ZT) (t : ZA) : ZT := fun ρ S Q => to ρ S fun z S1 => match z with
  | .d d => tyD T d = true ∧ t ρ S1 fun zs S2 => match datas zs with
    | some ds => match g d ds with
      | some y => Q (.d y) S2
      | none => False
    | none => False
  | _ => False
variable {o e : Expr} {es : List Expr} {to : ZT} {t : ZA} {name : Str} {apos cpos : Pos} {T id : String} {g : PyData → List PyData → Option PyData}
theorem ze_meth (pa : PlainAttrs T) (slot : Slot T name id) (hty : typeOf (.builtin id) = pure (.type "method_descriptor")) (hm : MtD X id g) (ho : ZE X B o to) (ha : ZAs X B (e :: es) t)
    (hbase : attributeBase o name X.env (eval o X.env) = eval o X.env := by rfl)
    (hfew : ((backTo cpos (starEach (e :: es) X.env)).all (fun x => !x.1) && (backToKw cpos (keywordEach [] X.env)).all (fun x => x.1.isSome)
      && decide ((e :: es).length + ([] : List Keyword).length + (if ([] : List Keyword).isEmpty then 0 else 1) < 30)) = true := by rfl)
    (hline : (apos.endLine == cpos.line) = true := by rfl) (hs : starEach (e :: es) X.env = (false, eval e X.env) :: starEach es X.env := by rfl) (hplain : (backTo cpos (starEach es X.env)).any (·.1) = false := by rfl) :
    ZE X B (.Call (.Attribute o name apos) (e :: es) [] cpos) (zMeth T g to t) := by
  refine ⟨fun {ρ S Q Q'} q w => ho.mono (fun x S1 h1 => ?_) w, PE.imp (pe_bm pa slot hty hm ho.pe ha.pa hbase hfew hline hs hplain) ?_⟩
  · split at h1
    · refine ⟨h1.1, ha.mono (fun zs S2 h2 => ?_) h1.2⟩
      split at h2
      · split at h2
        · exact q _ _ h2
        · exact h2.elim
      · exact h2.elim
    · exact h1.elim
  · rintro σ H Q ⟨ρ, S, hE, hS, w⟩
    refine ho.go hE hS w fun x S1 v1 H1 h1 st1 E1 R1 z1 => ?_
    split at h1
    · rename_i d
      cases z1 with | d z1 =>
      refine ⟨tyD_ok h1.1 z1, ha.go E1 R1 h1.2 fun zs S2 vs H2 h2 st2 E2 R2 z2 => ?_⟩
      split at h2
      · rename_i ds ed
        split at h2
        · rename_i y ey
          exact ⟨d, ds, y, z1.le (st2.le R1.1), datas_fz z2 ed, ey, fun x' f => h2 x' H2 (st1.trans st2) (.d f) R2⟩
        · exact h2.elim
      · exact h2.elim
    · exact h1.elim
def countO : PyData → List PyData → Option PyData
  | .list xs, [y] => if SeqAt.shaped y && SeqAt.shaped (.list xs) then some (.int (xs.countP fun z => PyData.eqv z y : Nat)) else none
  | _, _ => none
theorem mt_count (hu : X.A.units + 65 < cLine) : MtD X "list.count" countO := by
  intro pins s σ H x xs v us Q I rx rxs h
  obtain ⟨d, ds, y, f, fs, e, q⟩ := h
  unfold countO at e
  split at e
  · rename_i zs y
    split at e
    · rename_i hc
      cases e
      rw [Bool.and_eq_true] at hc
      cases fs with | cons f1 ft =>
      cases ft
      cases rxs with | cons ry rt =>
      cases rt
      obtain ⟨as, r1, _⟩ := f1.reads I ry
      cases f with | lst sq fa =>
      cases rx
      obtain ⟨its, rv, ⟨⟨cls, dd, data, sls⟩, n, ho, hc1, hdn, hdt⟩, hlen⟩ := I.list (SqF.l sq)
      simp only at hc1 hdt
      subst hc1 hdt
      obtain ⟨bs, ra, _⟩ := FzAll.reads I fa rv
      have hxs := SeqAt.canLay_of_shaped hc.2
      have hxs : PyData.canLayAll0 zs = true := by simpa [PyData.canLay0] using hxs
      have ra' : ReadsAll s.heap its.toArray.toList zs bs := by simpa using ra
      refine call_meets PySem.F.slot_list_count ⟨_, ho, rfl⟩ PySem.F.entry_list_count (PySem.F.args_list_count_2 _ _) (SeqAt.list_countAt _ its.toArray n dd sls _ (fun u => PyData.eqv (SeqAt.readOf s.heap u) y)) ⟨ho, SeqAt.items_eqAt ra' r1 hxs (SeqAt.canLay_of_shaped hc.1) (room_in_shaped hc.1 hu), ?_⟩
      have ec : its.toArray.toList.countP (fun u => PyData.eqv (SeqAt.readOf s.heap u) y) = zs.countP fun z => PyData.eqv z y := by
        rw [← SeqAt.readsAll_map zs _ _ hxs ra', List.countP_map]
        rfl
      refine ⟨.int (zs.countP fun z => PyData.eqv z y : Nat), H, I.tok _, ⟨s.toks, ?_⟩, q _ (.int _)⟩
      show Value.int ((its.toArray.toList.countP (fun u => PyData.eqv (SeqAt.readOf s.heap u) y) : Nat) : Int) s.toks = _
      rw [ec]
    · cases e
  · cases e
end
end ZL
namespace ZL
open PySem PySem.Spec PyProof.Rows L2
def siO (t : Bool) (h : Heap) (it a : Addr) (i : Nat) : Prop := match t with
  | true => h.IsTupleIter it a i
  | false => h.IsListIter it a i
theorem siO_at {t : Bool} {h h' : Heap} {it a : Addr} {i : Nat} (q : siO t h it a i) (e : ∀ o, h.get? it = some o → h'.get? it = some o) : siO t h' it a i := by
  cases t <;> (obtain ⟨o, ho, r⟩ := q; exact ⟨o, e _ ho, r⟩)
section
variable {X : Cx} {pins : List (Addr × Obj)} {σ : L2.St} {H : Hp} {s : Shared}
end
def zipD (xs ys : List PyData) : List PyData := List.zipWith (fun x y => PyData.tuple [x, y]) xs ys
section
variable {X : Cx} {B : Bs}
end
end ZL
namespace ZL
open PySem PySem.Spec PyProof.Rows L2
def enumD (xs : List PyData) : List PyData := List.zipWith (fun (i : Nat) x => PyData.tuple [.int (i : Int), x]) (List.range xs.length) xs
section
variable {X : Cx} {B : Bs}
end
end ZL
namespace ZL
open PySem PySem.Spec PyProof.Rows L2
section
variable {X : Cx} {B : Bs}
def rRepL : R2 := fun x y H Q => ∃ l k xs, x = .ref l ∧ y = .int k ∧ Rd H l (.lst xs) ∧ -(2 ^ 63) ≤ k ∧ k < 2 ^ 63 ∧ xs.length * k.toNat ≤ sizeLine ∧ ∀ p, H p = none → Q (.ref p) (upd H p (.lst (List.replicate k.toNat xs).flatten))
theorem rep_fold (its : List Value) (k : Nat) : List.foldl (fun x1 x2 => x1 ++ x2) #[] (List.replicate (if its.toArray.isEmpty = true then 0 else k) its.toArray) = (List.replicate k its).flatten.toArray := by
  have f : ∀ (m : Nat) (a : Array Value), List.foldl (fun x1 x2 => x1 ++ x2) a (List.replicate m its.toArray) = a ++ (List.replicate m its).flatten.toArray := by
    intro m
    induction m with
    | zero => intro a; simp
    | succ m ih => intro a; rw [List.replicate_succ, List.foldl_cons, ih, List.replicate_succ, List.flatten_cons]; simp
  rw [f, Array.empty_append]
  cases its with
  | nil => simp
  | cons a r => rw [if_neg (by simp)]
theorem op_repL : OpR X (binaryOp .Mult) rRepL := by
  rintro pins s σ H x y v u Q I rx ry ⟨l, k, xs, rfl, rfl, hH, h1, h2, hz, q⟩
  cases rx
  obtain ⟨t, rfl⟩ := ry
  obtain ⟨its, n, r, e⟩ := lst_of I hH
  have hl := r.length
  have hs : its.toArray.size = its.length := List.size_toArray
  have small : its.toArray.size * k.toNat ≤ sizeLine := by rw [hs, ← hl]; exact hz
  have ty : s.TypeIs (.ref l) "list" := ⟨_, e, rfl⟩
  refine wpAny_binaryOp_repeat_ref (T := "list") (U := "int") (by decide) ty (fun s' => typeIs_int s' k t) noFill_list_mul F.fills_int_mul F.slot_int_rmul repeat_list F.slot_int_index.lookup ?_
  refine call_meets F.slot_int_rmul (typeIs_int s k t) F.entry_int_rmul (F.args_int_rmul_2 _ _) (int___rmul___int_list k t l its.toArray n) ⟨e, rfl, ty, ?_⟩
  refine call_meets F.slot_list_mul ty F.entry_list_mul (F.args_list_mul_2 _ _) (AutoListH.list___mul___list_int_3 l its.toArray n k t (by rw [fitsIndex_both h1 h2]; exact Bool.false_ne_true) ?_ (by rw [notLongL small]; exact Bool.false_ne_true)) ⟨e, ?_⟩
  · have : (sizeLine : Nat) ≤ (2 ^ 63 - 1) / 8 := by decide
    omega
  · rw [rep_fold]
    exact ⟨.ref _, _, I.lnew (t' := s.toks) (r.rep k.toNat) (by rw [PyProof.Rows.lm_len_rep_flat, Nat.mul_comm]; exact hz), rfl, q _ I.fresh⟩
def repD (n : Nat) (ds : List PyData) : List PyData := (List.replicate n ds).flatten
theorem FzAll.rep {K : PySem.W.Frag} {H : Hp} {vs : List V} {ds : List PyData} (f : FzAll K H vs ds) : ∀ n : Nat, FzAll K H (List.replicate n vs).flatten (repD n ds)
  | 0 => .nil
  | n + 1 => by
    unfold repD
    rw [List.replicate_succ, List.replicate_succ, List.flatten_cons, List.flatten_cons]
    exact f.append (FzAll.rep f n)
def RepOk (k : Int) (n : Nat) : Prop := In62 k ∧ n * k.toNat ≤ sizeLine
theorem RepOk.b {k : Int} {n : Nat} (h : RepOk k n) : -(2 ^ 63) ≤ k ∧ k < 2 ^ 63 := by
  have := h.1
  unfold In62 at this
  omega
def rZRep : ZR2 := fun x y S Q => match listZ S x, y with
  | some a, .d (.int k) => RepOk k a.length ∧ Q (zl (repD k.toNat a)) S
  | _, _ => False
theorem zrep : ZOp X (binaryOp .Mult) rZRep := by
  constructor
  · intro x y S Q Q' q w
    unfold rZRep at *
    split at w
    · exact ⟨w.1, q _ _ w.2⟩
    · exact w.elim
  · rintro B pins s σ H x y v u Q I rx ry ⟨z1, z2, S, h1, h2, hS, w⟩
    unfold rZRep at w
    split at w
    · rename_i a k e1
      obtain ⟨l, vs, rfl, q1, f1⟩ := listZ_rd hS.1 h1 e1
      cases h2 with | d h2 =>
      cases h2
      exact opR_rest op_repL pins s σ H _ _ v u Q I rx ry ⟨l, k, vs, rfl, rfl, q1, w.1.b.1, w.1.b.2, by rw [f1.length]; exact w.1.2, fun p hp => rest_end hS (f1.rep _) w.2 p hp⟩
    · exact w.elim
def Rg (i j : Int) : Prop := In62 i ∧ In62 j ∧ (j - i).toNat ≤ 2 ^ 24
theorem Rg.ok {i j : Int} (h : Rg i j) : RgOk i j := by
  obtain ⟨h1, h2, h3⟩ := h
  exact ⟨h1.1, h1.2, h2.1, h2.2, h3⟩
variable {ta tb : ZT} {a b : Expr} {p p2 pos pos2 : Pos}
end
end ZL
namespace ZL
open PySem PySem.Spec PyProof.Rows L2
section
variable {X : Cx} {B : Bs}
theorem FzAll.dp {K : PySem.W.Frag} {H : Hp} : ∀ {ds : List PyData} {vs : List V}, PyData.hasDictAll ds = false → FzAll K H vs ds → DpAll K H vs ds
  | _, _, _, .nil => .nil
  | _, _, h, .cons f t => by
    simp only [PyData.hasDictAll, Bool.or_eq_false_iff] at h
    exact .cons (f.dp h.1) (FzAll.dp h.2 t)
end
end ZL
namespace ZL
open PySem PySem.Spec PyProof.Rows L2
section
variable {X : Cx} {B : Bs}
theorem PG.or {e : Expr} {t u : TG} (h : PG X e t) (k : PG X e u) : PG X e (fun v σ H Q => t v σ H Q ∨ u v σ H Q) :=
  ⟨fun pins s σ H v w Q I r hw => hw.elim (fun a => h.run pins s σ H v w Q I r a) (fun a => k.run pins s σ H v w Q I r a)⟩
end
end ZL
namespace ZL
open PySem PySem.Spec PyProof.Rows L2
section
variable {X : Cx} {B : Bs} {pos : Pos}
def popD (xs : List PyData) (k : Int) : Option (Nat × PyData) := if -(2 ^ 62) ≤ k ∧ k < 2 ^ 62 then (ixN xs.length k).bind fun n => (xs[n]?).map fun d => (n, d) else none
theorem FzAll.eraseIdx {K : PySem.W.Frag} {H : Hp} : ∀ {ds : List PyData} {vs : List V} (n : Nat), FzAll K H vs ds → FzAll K H (vs.eraseIdx n) (ds.eraseIdx n)
  | _, _, _, .nil => .nil
  | _, _, 0, .cons f t => t
  | _, _, n + 1, .cons f t => .cons f (FzAll.eraseIdx n t)
end
end ZL
namespace ZL
open PySem PySem.Spec PyProof.Rows L2
section
variable {X : Cx} {B : Bs} {pos : Pos}
section
variable {i j l : Nat} {x y z : Str} {a b c : Expr} {ta : ZA} {px py pz pt : Pos} {kt k2 pt2 : _}
end
end
end ZL
namespace ZL
open PySem PySem.Spec PyProof.Rows L2
def intsD : List PyData → Option (List Int)
  | [] => some []
  | .int i :: r => (intsD r).map (i :: ·)
  | _ => none
def sortI (ns : List Int) : List Int := ns.mergeSort fun a b => decide (a ≤ b)
theorem sortI_perm (ns : List Int) : (sortI ns).Perm ns := List.mergeSort_perm _ _
theorem sortI_le (ns : List Int) : (sortI ns).Pairwise (· ≤ ·) := by
  have := List.pairwise_mergeSort (le := fun (a b : Int) => decide (a ≤ b)) (fun a b c h1 h2 => by simp at *; omega) (fun a b => by simp; omega) ns
  exact this.imp fun h => by simpa using h
theorem sortI_uniq {ns ms : List Int} (p : ms.Perm ns) (h : ms.Pairwise (· ≤ ·)) : ms = sortI ns :=
  List.Perm.eq_of_pairwise (le := (· ≤ ·)) (fun a b _ _ h1 h2 => Int.le_antisymm h1 h2) h (sortI_le ns) (p.trans (sortI_perm ns).symm)
section
variable {X : Cx} {B : Bs}
def tupsD : List PyData → Option (List (List Int))
  | [] => some []
  | .tuple t :: r => (intsD t).bind fun ns => (tupsD r).map (ns :: ·)
  | _ => none
def tupI (ns : List Int) : PyData := .tuple (ns.map PyData.int)
abbrev bB : Int := 1048576
def okT (d : Nat) (ns : List Int) : Bool := ns.length == d && ns.all fun m => decide (0 ≤ m) && decide (m < bB)
theorem okT_inv {d : Nat} {ns : List Int} (h : okT d ns = true) : ns.length = d ∧ TS.Bd bB ns := by
  unfold okT at h
  rw [Bool.and_eq_true, List.all_eq_true] at h
  refine ⟨by simpa using h.1, fun m hm => ?_⟩
  have := h.2 m hm
  simpa using this
def sortT (nss : List (List Int)) : List (List Int) := nss.mergeSort fun a b => decide (TS.code bB a ≤ TS.code bB b)
theorem sortT_perm (nss : List (List Int)) : (sortT nss).Perm nss := List.mergeSort_perm _ _
theorem sortT_le (nss : List (List Int)) : (sortT nss).Pairwise fun a b => TS.code bB a ≤ TS.code bB b := by
  have := List.pairwise_mergeSort (le := fun (a b : List Int) => decide (TS.code bB a ≤ TS.code bB b)) (fun a b c h1 h2 => by simp at *; omega) (fun a b => by simp; omega) nss
  exact this.imp fun h => by simpa using h
theorem code_inj : ∀ {a b : List Int}, a.length = b.length → TS.Bd bB a → TS.Bd bB b → TS.code bB a = TS.code bB b → a = b
  | [], [], _, _, _, _ => rfl
  | [], _ :: _, h, _, _, _ => by simp at h
  | _ :: _, [], h, _, _, _ => by simp at h
  | x :: a, y :: b, hl, ha, hb, h => by
    have hl' : a.length = b.length := by simpa using hl
    have e : x = y := by
      rcases Int.lt_trichotomy x y with q | q | q
      · have := TS.code_lt hl' ha.tail hb.tail q; omega
      · exact q
      · have := TS.code_lt hl'.symm hb.tail ha.tail q; omega
    subst e
    have h2 : x * bB ^ a.length + TS.code bB a = x * bB ^ b.length + TS.code bB b := h
    rw [hl'] at h2
    rw [code_inj hl' ha.tail hb.tail (by omega)]
theorem sortT_uniq {d : Nat} {nss mss : List (List Int)} (hd : ∀ ns ∈ nss, okT d ns = true) (p : mss.Perm nss) (h : mss.Pairwise fun a b => TS.code bB a ≤ TS.code bB b) : mss = sortT nss := by
  refine List.Perm.eq_of_pairwise (le := fun a b => TS.code bB a ≤ TS.code bB b) (fun a b ha hb h1 h2 => ?_) h (sortT_le nss) (p.trans (sortT_perm nss).symm)
  obtain ⟨l1, b1⟩ := okT_inv (hd a (p.mem_iff.mp ha))
  obtain ⟨l2, b2⟩ := okT_inv (hd b ((sortT_perm nss).mem_iff.mp hb))
  exact code_inj (by omega) b1 b2 (Int.le_antisymm h1 h2)
def sortD (ds : List PyData) : Option (List PyData) := match intsD ds with
  | some ns => some ((sortI ns).map PyData.int)
  | none => match tupsD ds with
    | some nss => if nss.length < 64 ∧ ((nss.headD []).length ≥ 1 ∧ nss.all (okT (nss.headD []).length) = true) then some ((sortT nss).map tupI) else none
    | none => none
end
end ZL
namespace ZL
open PySem PySem.Spec PyProof.Rows L2
section
variable {X : Cx} {B : Bs}
def isNone : PyData → Bool
  | .none => true
  | _ => false
end
end ZL
namespace L2
open PySem PySem.Spec PyProof.Rows
end L2
namespace ZL
open PySem PySem.Spec PyProof.Rows L2
section
variable {X : Cx} {B : Bs}
end
end ZL
namespace ZipW
open PySem
abbrev ZX (h : Heap) (z TI TO : Addr) (f0 f1 : Value) : Prop := h.get? z = some { cls := .type "zip", dict := none, data := .fields #[f0, f1, .bool false, .ref TI, .ref TO], slots := #[] }
inductive Own : Value → Value → Prop
  | free : Own .none (.bool false)
  | out (T : Addr) (b : Bool) : Own (rawInt T) (.bool b)
section
variable {prog : Program} {w : World} {A : Around} {E : Value → Shared → Prop} {s : Shared} {z TI TO i1 i2 : Addr} {fp1 fp2 : List Addr} {n1 n2 i : Nat} {P1 P2 : Nat → Value → Prop} {St1 St2 : Nat → Heap → Prop} {a1 a2 : Value}
end
end ZipW
namespace ZipW
open PySem
section
variable {prog : Program} {w : World} {A : Around} {E : Value → Shared → Prop} {s : Shared}
end
end ZipW
namespace ZL
open PySem PySem.Spec PyProof.Rows L2 ZipW
end ZL
namespace ZL
open PySem PySem.Spec PyProof.Rows L2
end ZL
namespace ZL
open PySem PySem.Spec PyProof.Rows L2
abbrev nox : Value → Shared → Prop := fun _ _ => False
abbrev asks (ifs : List Expr) (env : Env) : Sem Bool := forIn ifs true fun c r => if r = true then do let b ← isTrue c env (eval c env); pure (ForInStep.yield b) else pure (ForInStep.yield r)
abbrev okR (P : Shared → Prop) : Result → Shared → Prop := fun r s => match r with
  | .ok _ => P s
  | .error _ => False
structure LoopBy (M : Model) (A : Around) (e : Expr) (d : Nat) (tg : Expr) (ifs : List Expr) (acc : Value) (env : Env) (body : Sem Unit) : Prop where
  run : ∀ (I : Nat → Shared → Prop) (R : Shared → Prop) (it : Value), (∀ n s, I n s → wpAny M A (pyNext it) (fun r s1 => match r with
      | none => R s1
      | some v => wpAny M A (letOwnedTupleGo tg it v) (fun _ s2 => wpAny M A (assign tg env v) (fun _ s3 => wpAny M A (asks ifs env) (fun ok s4 =>
          if ok = true then wpAny M A body (fun _ s5 => ∃ m, m < n ∧ I m s5) nox s4 else ∃ m, m < n ∧ I m s4) nox s3) nox s2) nox s1) nox s) → ∀ n s, I n s → codeAny M A (.compLoop e d it acc env) (okR R) s
section
variable {prog : Program} {w : World} {A : Around} {e : Expr} {d : Nat} {tg : Expr} {ifs : List Expr} {acc : Value} {env : Env} {body : Sem Unit} {p : Pos}
abbrev turnF (p : Pos) (tg : Expr) (ifs : List Expr) (env : Env) (it : Value) (c : Code) (K : Sem Fin) : Sem Fin := standAt p >>= fun _ => pyNext it >>= fun r => match r with
  | none => pure (.done .next)
  | some v => letOwnedTupleGo tg it v >>= fun _ => assign tg env v >>= fun _ => asks ifs env >>= fun ok => if ok = true then K else again c
structure Laid (M : Model) (A : Around) (e : Expr) (d : Nat) (acc : Value) (env : Env) : Prop where
  q : ∀ it, (Code.compLoop e d it acc env).quiet = true
  u : ∀ it, A.under (.compLoop e d it acc env) = A
  m : ∀ it, M.den (.compLoop e d it acc env) = (compTurn e d it acc env).onRaise (fun x => do noteFrame x env; theTreesLotGoes x)
theorem loopBy {K : Value → Sem Fin} (hl : Laid (model prog w) A e d acc env) (ht : ∀ it, compTurn e d it acc env = turnF p tg ifs env it (.compLoop e d it acc env) (K it))
    (hK : ∀ it s (P : Shared → Prop) (E : Value → Shared → Prop), wpAny (model prog w) A body (fun _ s' => P s') nox s → wpAny (model prog w) A (K it) (fun f s' => f = .again (.compLoop e d it acc env) ∧ P s') E s) : LoopBy (model prog w) A e d tg ifs acc env body := by
  refine ⟨fun I R it turn n s h => codeAny_loop (hl.q it) I (fun n s hI => ?_) n h⟩
  rw [hl.u it, hl.m it]
  refine wpAny_noted ?_
  rw [ht it]
  refine wpAny_bind (wpAny_standAt (wpAny_bind (wpAny_mono (turn n s hI) (fun r s1 h1 => ?_) fun _ _ z => z.elim)))
  cases r with
  | none => exact wpAny_pure h1
  | some v =>
    refine wpAny_bind (wpAny_mono h1 (fun _ s2 h2 => wpAny_bind (wpAny_mono h2 (fun _ s3 h3 => wpAny_bind (wpAny_mono h3 (fun ok s4 h4 => ?_) fun _ _ z => z.elim)) fun _ _ z => z.elim)) fun _ _ z => z.elim)
    cases ok with
    | false => exact wpAny_pure ⟨rfl, h4⟩
    | true =>
      refine wpAny_mono (hK it s4 _ _ h4) (fun f s5 h5 => ?_) fun _ _ z => z
      obtain ⟨rfl, h5⟩ := h5
      exact ⟨rfl, h5⟩
theorem hK_emit {c : Value → Code} : ∀ (it : Value) (s : Shared) (P : Shared → Prop) (E : Value → Shared → Prop), wpAny (model prog w) A body (fun _ s' => P s') nox s → wpAny (model prog w) A (body >>= fun _ => again (c it)) (fun f s' => f = .again (c it) ∧ P s') E s := fun it s P E h =>
  wpAny_bind (wpAny_mono h (fun _ s' q => wpAny_pure ⟨rfl, q⟩) fun _ _ z => z.elim)
end
section
variable {prog : Program} {w : World} {A : Around} {acc : Value} {env : Env} {elt t0 i0 t1 i1 t2 i2 : Expr} {ifs0 ifs1 ifs2 : List Expr} {scope : Scope} {pos : Pos}
abbrev addS (elt : Expr) (env : Env) (acc : Value) : Sem Unit := do let v ← eval elt env; standAt elt.pos; let _ ← call (.builtin "set.add") [acc, v]
abbrev addL (elt : Expr) (env : Env) (acc : Value) : Sem Unit := do let _ ← call (.builtin "list.append") [acc, ← eval elt env]
theorem laidL {gs : List Comprehension} {d : Nat} : Laid (model prog w) A (.ListComp elt gs scope pos) d acc env := ⟨fun _ => rfl, fun _ => rfl, fun _ => rfl⟩
structure StartBy (M : Model) (A : Around) (e : Expr) (d : Nat) (acc : Value) (env : Env) : Prop where
  run : ∀ (R : Result → Shared → Prop) (it : Value) (s : Shared), codeAny M A (.compLoop e d it acc env) R s → wpAny M A (pyIter it) (fun j s' => codeAny M A (.compLoop e d j acc env) R s') nox s → codeAny M A (.compStart e d it acc env) R s
theorem startBy {e : Expr} {d : Nat} {g : Comprehension} (ga : g.is_async = 0) (hc : (clausesOf e)[d]? = some g) (hq : ∀ it, (Code.compLoop e d it acc env).quiet = true) (hu : ∀ it, A.under (.compStart e d it acc env) = A) (hm : ∀ it, (model prog w).den (.compStart e d it acc env) = (compStart e d it acc env).onRaise (fun x => do noteFrame x env; standAt theWindowsPlace)) : StartBy (model prog w) A e d acc env := by
  refine ⟨fun R it s h0 h => codeAny_of_tree ?_⟩
  rw [hu it, hm it]
  refine wpAny_notedAt ?_
  unfold compStart
  rw [hc]
  simp only [Option.elim, ga, bne_self_eq_false, Bool.false_eq_true, if_false]
  refine wpAny_bind (wpAny_askSetting (wpAny_ite ?_))
  split
  · first
      | exact wpAny_bind (wpAny_pure (wpAny_pure ⟨hq it, h0⟩))
      | exact wpAny_pure ⟨hq it, h0⟩
  · refine wpAny_bind (wpAny_rule ?_)
    refine wpAny_bind (wpAny_standAt (wpAny_bind (wpAny_mono h (fun j s' h' => wpAny_pure ⟨hq j, h'⟩) fun _ _ z => z.elim)))
theorem startL {gs : List Comprehension} {d : Nat} {g : Comprehension} (ga : g.is_async = 0) (hc : gs[d]? = some g) : StartBy (model prog w) A (.ListComp elt gs scope pos) d acc env := startBy ga hc (fun _ => rfl) (fun _ => rfl) fun _ => rfl
end
end ZL
namespace ZL
open PySem PySem.Spec PyProof.Rows L2
abbrev TL := L2.St → Hp → (Hp → Prop) → Prop
structure Lv (X : Cx) (b : Sem Unit) (vs : List Nat) (t : TL) : Prop where
  run : ∀ (pins : List (Addr × Obj)) (s : Shared) (σ : L2.St) (H : Hp) (N : Hp → Prop), Inv X pins σ H s → t σ H N → wpAny (model X.prog X.w) X.A b (fun _ s' => ∃ H', Inv X pins (wipe σ vs) H' s' ∧ N H') nox s
theorem Lv.imp {X : Cx} {b : Sem Unit} {vs : List Nat} {t t' : TL} (h : Lv X b vs t) (q : ∀ σ H N, t' σ H N → t σ H N) : Lv X b vs t' := ⟨fun pins s σ H N I w => h.run pins s σ H N I (q σ H N w)⟩
def Turns (J : It) (g : TG) (tt : TT) (t1 : TL) (vs : List Nat) (σ : L2.St) (W : Nat → Nat → Hp → Prop) (N : Hp → Prop) : Prop := ∀ i m H, W i m H → (J.stop i H ∧ N H) ∨
  (J.go i H ∧ ∃ N1 : Hp → Prop, (∀ H', N1 H' → ∃ m', m' < m ∧ W (i + 1) m' H') ∧ ∀ x H', J.yld i H x H' → g x (wipe σ vs) H' fun σ2 H2 => wipe σ2 vs = wipe σ vs ∧ tt σ2 H2 fun b H3 => if b = true then t1 σ2 H3 N1 else N1 H3)
section
variable {X : Cx} {e : Expr} {d : Nat} {tg iter : Expr} {ifs : List Expr} {acc : Value} {body : Sem Unit} {wi : TI} {g : TG} {tt : TT} {t1 : TL} {vs vs1 : List Nat}
theorem walk_loop (hx : X.xe = nox) (hc : X.calm = true) (L : LoopBy (model X.prog X.w) X.A e d tg ifs acc X.env body) (pg : PG X tg g) (pt : PTs X ifs tt) (lv : Lv X body vs1 t1) (hv : ∀ i ∈ vs1, i ∈ vs)
    {J : It} {fp : List Addr} {it : Addr} {tn : Nat → Heap → Prop} (T : Turn X.prog X.w X.K tg J fp it tn) {pins : List (Addr × Obj)} {σ : L2.St} {N : Hp → Prop} {W : Nat → Nat → Hp → Prop}
    (stat : ∀ s' H', Inv X pins (wipe σ vs) H' s' → (∀ b ∈ fp, H' b = none) → ∀ b ∈ fp, FpOk X pins H' b) (turn : Turns J g tt t1 vs σ W N)
    {s : Shared} {H : Hp} {m0 : Nat} (I : Inv X pins (wipe σ vs) H s) (st : tn 0 s.heap) (nf : ∀ b ∈ fp, H b = none) (w0 : W 0 m0 H) :
    codeAny (model X.prog X.w) X.A (.compLoop e d (.ref it) acc X.env) (okR fun s' => ∃ H', Inv X pins (wipe σ vs) H' s' ∧ N H') s := by
  refine L.run (fun n s' => ∃ i H', Inv X pins (wipe σ vs) H' s' ∧ tn i s'.heap ∧ (∀ b ∈ fp, H' b = none) ∧ W i n H') _ (.ref it) ?_ m0 s ⟨0, H, I, st, nf, w0⟩
  rintro n s5 ⟨i, H5, I5, st5, n5, w5⟩
  rcases turn i n H5 w5 with ⟨stop, qq⟩ | ⟨go, N1, hN1, step⟩
  · refine wpAny_mono (T.done X rfl rfl rfl hc i pins s5 _ H5 nox I5 (stat _ _ I5 n5) st5 stop) (fun r s6 h => ?_) fun _ _ z => z
    obtain ⟨rfl, I6⟩ := h
    exact ⟨H5, I6, qq⟩
  · refine wpAny_mono (T.item X rfl rfl rfl hc i pins s5 _ H5 nox I5 (stat _ _ I5 n5) st5 go) (fun r s6 h => ?_) fun _ _ z => z
    obtain ⟨u, rfl, h6⟩ := h
    refine wpAny_mono h6 (fun _ s7 h7 => ?_) fun _ _ z => z
    obtain ⟨x, H7, I7, r7, y7, st7, n7⟩ := h7
    have p1 := pg.run _ s7 _ H7 x u _ (I7.pinned (stat _ _ I7 n7) (T.obj _ _ st7)) r7 (step x H7 y7)
    rw [hx] at p1
    refine wpAny_mono p1 (fun _ s8 h8 => ?_) fun _ _ z => z
    obtain ⟨σ8, H8, I8, hw8, q8⟩ := h8
    have p2 := pt.run _ s8 σ8 H8 _ I8 q8
    rw [hx] at p2
    refine wpAny_mono p2 (fun b s9 h9 => ?_) fun _ _ z => z
    obtain ⟨H9, I9, q9⟩ := h9
    have back : ∀ {σ9 : L2.St} {s' : Shared} {H' : Hp}, Inv X (pins ++ pinsAt fp s7.heap) σ9 H' s' → (wipe σ vs).length = σ9.length → (∀ (j : Nat) v, (wipe σ vs)[j]? = some (some v) → σ9[j]? = some (some v)) → N1 H' →
        ∃ m, m < n ∧ ∃ i H', Inv X pins (wipe σ vs) H' s' ∧ tn i s'.heap ∧ (∀ b ∈ fp, H' b = none) ∧ W i m H' := by
      intro σ9 s' H' I' hl hk nx
      obtain ⟨m', hm, w'⟩ := hN1 H' nx
      have held : ∀ b ∈ fp, ∀ o, s7.heap.get? b = some o → s'.heap.get? b = some o ∧ H' b = none := by
        intro b hb o eo
        have z := I'.pin (b, o) (List.mem_append_right _ (List.mem_append_right _ (mem_pinsAt hb eo)))
        exact ⟨z.1, z.2.1⟩
      refine ⟨m', hm, i + 1, H', I'.unpinned.weak hl hk, T.keep _ _ _ st7 (fun b hb o eo => (held b hb o eo).1), fun b hb => ?_, w'⟩
      obtain ⟨o, eo, _⟩ := T.obj _ _ st7 b hb
      exact (held b hb o eo).2
    have hl8 : (wipe σ vs).length = σ8.length := by rw [← hw8, wipe_length]
    cases b with
    | false =>
      simp only [Bool.false_eq_true, if_false] at q9 ⊢
      refine back I9 hl8 (fun j v ej => ?_) q9
      rw [← hw8] at ej
      exact (wipe_some ej).1
    | true =>
      simp only [if_true] at q9 ⊢
      refine wpAny_mono (lv.run _ s9 σ8 H9 _ I9 q9) (fun _ s10 h10 => ?_) fun _ _ z => z
      obtain ⟨H10, I10, nx⟩ := h10
      refine back I10 (hl8.trans (wipe_length σ8 vs1).symm) (fun j v ej => ?_) nx
      rw [← hw8] at ej
      obtain ⟨e1, e2⟩ := wipe_some ej
      rw [wipe_out fun z => e2 (hv j z)]
      exact e1
end
def tCore (wi : TI) (g : TG) (tt : TT) (t1 : Addr → TL) (vs : List Nat) (o0 : Addr → HO) : TE := fun σ H Q => wi σ H fun J H1 => ∀ D, H1 D = none → ∃ W : Nat → Nat → Hp → Prop, (∃ m, W 0 m (upd H1 D (o0 D))) ∧ Turns J g tt (t1 D) vs σ W fun H' => Q (.ref D) H'
section
variable {X : Cx}
end
end ZL
namespace ZL
open PySem PySem.Spec PyProof.Rows L2
def StepD (D : Addr) (S S' : Sto) (H H' : Hp) : Prop := ∀ b o, b ≠ D → H b = some o → S b = none → H' b = some o ∧ S' b = none
theorem StepD.refl (D : Addr) (S : Sto) (H : Hp) : StepD D S S H H := fun _ _ _ h n => ⟨h, n⟩
theorem StepD.trans {D : Addr} {S S1 S2 : Sto} {H H1 H2 : Hp} (a : StepD D S S1 H H1) (b : StepD D S1 S2 H1 H2) : StepD D S S2 H H2 := fun c o ne h e => let ⟨h1, e1⟩ := a c o ne h e; b c o ne h1 e1
theorem Step.d {D : Addr} {S S' : Sto} {H H' : Hp} (a : Step S S' H H') : StepD D S S' H H' := fun b o _ h e => a b o h e
abbrev AcT := Hp → List PyData → Prop
structure AcOk (D : Addr) (Ac : AcT) : Prop where
  le : ∀ {H H' acc}, Ac H acc → H' D = H D → Le H H' → Ac H' acc
  no : ∀ {H acc}, Ac H acc → ∃ o, H D = some o ∧ (∀ xs, o ≠ .tup xs) ∧ (∀ ob u, o ≠ .frz ob u) ∧ (∀ ps, o ≠ .tbl ps) ∧ (∀ q, o ≠ LamX.CodeO D q) ∧ ∀ kvs, o ≠ .dK kvs
section
variable {K : PySem.W.Frag} {B : Bs} {D : Addr} {Ac : AcT} {S S' : Sto} {H H' : Hp} {acc : List PyData}
theorem AcOk.step (A : AcOk D Ac) (a : Ac H acc) (r : RS0 K S H) (n : S D = none) (st : Step S S' H H') : Ac H' acc ∧ S' D = none := by
  obtain ⟨o, e, _⟩ := A.no a
  obtain ⟨e1, e2⟩ := st D o e n
  exact ⟨A.le a (e1.trans e.symm) (st.le r), e2⟩
def OutD (B : Bs) (D : Addr) : Prop := ∀ u, B.H0 D = some u → B.S0 D = none → False
end
abbrev ZV := ZEnv → Sto → List PyData → (List PyData → Sto → Prop) → Prop
def lowV (K : PySem.W.Frag) (B : Bs) (D : Addr) (Ac : AcT) (zv : ZV) : TL := fun σ H N => ∃ ρ S acc, RE K H ρ σ ∧ RS K B S H ∧ S D = none ∧ OutD B D ∧ Ac H acc ∧
  zv ρ S acc fun acc' S' => ∀ H', StepD D S S' H H' → RS K B S' H' → S' D = none → Ac H' acc' → N H'
structure ZLv (X : Cx) (B : Bs) (b : Sem Unit) (D : Addr) (Ac : AcT) (vs : List Nat) (zv : ZV) : Prop where
  mono : ∀ {ρ S acc} {N N' : List PyData → Sto → Prop}, (∀ a s, N a s → N' a s) → zv ρ S acc N → zv ρ S acc N'
  lv : Lv X b vs (lowV X.K B D Ac zv)
section
variable {X : Cx} {B : Bs} {D : Addr} {Ac : AcT} {ok : List PyData → Prop} {elt : Expr} {te : ZT}
end
structure GenR (g : ZG) (tt : ZB) (zv1 : ZV) (vs : List Nat) (ρ : ZEnv) (acc0 : List PyData) (N : List PyData → Sto → Prop) (xs : List PyData) (l : List (Addr × List PyData)) (S1 : Sto) : Prop where
  ex : ∃ I : Nat → List PyData → Sto → Prop, I 0 acc0 S1 ∧ (∀ i acc S', i ≤ xs.length → I i acc S' → Need S' l) ∧
    (∀ (i : Nat) (x : PyData) acc S', xs[i]? = some x → I i acc S' → g (.d x) (zwipe ρ vs) S' fun ρ2 S2 => tt ρ2 S2 fun b S3 => zBr b (zv1 ρ2 S3 acc (I (i + 1))) (I (i + 1) acc S3)) ∧ ∀ acc S', I xs.length acc S' → N acc S'
theorem turns_it {J : It} {n : Nat} {G : Hp → Prop} {Y : Nat → Hp → V → Hp → Prop} (w : Walk J n G Y) {g : TG} {tt : TT} {t1 : TL} {vs : List Nat} {σ : L2.St} {N : Hp → Prop} {H1 : Hp} (Pv : Nat → Hp → Prop) (h0 : Pv 0 H1) (hG : ∀ i H, i ≤ n → Pv i H → G H)
    (hs : ∀ i x H H', i < n → Pv i H → Y i H x H' → g x (wipe σ vs) H' fun σ2 H2 => wipe σ2 vs = wipe σ vs ∧ tt σ2 H2 fun b H3 => if b = true then t1 σ2 H3 (Pv (i + 1)) else Pv (i + 1) H3) (hd : ∀ H, Pv n H → N H) :
    ∃ W : Nat → Nat → Hp → Prop, (∃ m, W 0 m H1) ∧ Turns J g tt t1 vs σ W N := by
  refine ⟨fun i m H => m = n - i ∧ i ≤ n ∧ Pv i H, ⟨n, by simp, Nat.zero_le _, h0⟩, ?_⟩
  rintro i m H ⟨rfl, hi, p⟩
  have q := hG i H hi p
  by_cases hlt : i < n
  · exact .inr ⟨w.goes i H hlt q, Pv (i + 1), fun H' p' => ⟨n - (i + 1), by omega, rfl, hlt, p'⟩, fun x H' y => hs i x H H' hlt p (w.yields i H x H' hlt q y)⟩
  · have ei : i = n := by omega
    subst ei
    exact .inl ⟨w.stops H q, hd H p⟩
section
variable {X : Cx} {B : Bs} {D : Addr} {Ac : AcT} {tg iter : Expr} {ifs : List Expr} {o : List Nat} {ti : ZTI} {g : ZG} {tt : ZB} {zv1 : ZV} {vs vs1 : List Nat}
end
end ZL
namespace ZL
open PySem PySem.Spec PyProof.Rows L2
section
variable {α : Type} [DecidableEq α]
def dd : List α → List α
  | [] => []
  | x :: xs => if x ∈ xs then dd xs else x :: dd xs
end
theorem intsD_of : ∀ ns : List Int, intsD (ns.map PyData.int) = some ns
  | [] => rfl
  | n :: ns => by simp only [List.map_cons, intsD, intsD_of ns]; rfl
theorem tupsD_of : ∀ nss : List (List Int), tupsD (nss.map tupI) = some nss
  | [] => rfl
  | n :: ns => by
    show (intsD (n.map PyData.int)).bind _ = _
    rw [intsD_of, Option.bind_some, tupsD_of ns]; rfl
section
variable {X : Cx} {pins : List (Addr × Obj)} {σ : L2.St} {H : Hp} {s : Shared} {D : Addr} {E : Value → Shared → Prop}
end
end ZL
namespace ZL
open PySem PySem.Spec PyProof.Rows L2
section
variable {P : Program} {w : World} {A : Around} {E : Value → Shared → Prop} {s : Shared}
end
section
variable {P : Program} {w : World} {s : Shared} {A : Around}
end
section
variable {X : Cx}
def setSortD (es : List PyData) : Option (List PyData) := match intsD es with
  | some ns => if (dd ns).length < 63 then some ((sortI (dd ns)).map PyData.int) else none
  | none => match tupsD es with
    | some nss => if (dd nss).length < 63 ∧ ((nss.headD []).length ≥ 1 ∧ nss.all (okT (nss.headD []).length) = true) then some ((sortT (dd nss)).map tupI) else none
    | none => none
def setLenD (es : List PyData) : Option Nat := match intsD es with
  | some ns => if (dd ns).length < 63 then some (dd ns).length else none
  | none => match tupsD es with
    | some nss => if (dd nss).length < 63 then some (dd nss).length else none
    | none => none
end
end ZL
namespace V
open PySem PySem.Spec
abbrev Cells := List (Option ZL.Cell)
structure Exn where
  name : Str
  fs : List (Str × PyData)
inductive Res (α : Type) where
  | ok (a : α) (s : Cells)
  | ex (x : Exn) (s : Cells)
  | bad
def M (α : Type) := Cells → Res α
def M.pure {α : Type} (a : α) : M α := fun s => .ok a s
def M.bind {α β : Type} (m : M α) (k : α → M β) : M β := fun s => match m s with
  | .ok a s' => k a s'
  | .ex x s' => .ex x s'
  | .bad => .bad
instance : Monad M := { pure := M.pure, bind := M.bind }
def bad {α : Type} : M α := fun _ => .bad
def ofO {α : Type} : Option α → M α
  | some a => pure a
  | none => bad
def noex {α : Type} (m : M α) : M α := fun s => match m s with
  | .ok a s' => .ok a s'
  | _ => .bad
def raise {α : Type} (n : Str) : M α := fun s => .ex ⟨n, []⟩ s
theorem bind_def {α β : Type} (m : M α) (k : α → M β) (s : Cells) : (m >>= k) s = match m s with
  | .ok a s' => k a s'
  | .ex x s' => .ex x s'
  | .bad => .bad := rfl
@[simp] theorem pure_run {α : Type} (a : α) (s : Cells) : (pure a : M α) s = .ok a s := rfl
@[simp] theorem pure_bind' {α β : Type} (a : α) (k : α → M β) : ((pure a : M α) >>= k) = k a := rfl
@[simp] theorem bind_pure' {α : Type} (m : M α) : (m >>= fun a => pure a) = m := by
  funext s; rw [bind_def]; cases m s <;> rfl
@[simp] theorem bad_bind {α β : Type} (k : α → M β) : ((bad : M α) >>= k) = bad := rfl
@[simp] theorem raise_bind {α β : Type} (n : Str) (k : α → M β) : ((raise n : M α) >>= k) = raise n := rfl
@[simp] theorem bind_assoc' {α β γ : Type} (m : M α) (k : α → M β) (l : β → M γ) : ((m >>= k) >>= l) = (m >>= fun a => k a >>= l) := by
  funext s; simp only [bind_def]; cases m s <;> rfl
@[simp] theorem noex_pure {α : Type} (a : α) : noex (pure a : M α) = pure a := rfl
@[simp] theorem noex_bad {α : Type} : noex (bad : M α) = bad := rfl
@[simp] theorem ofO_some {α : Type} (a : α) : ofO (some a) = (pure a : M α) := rfl
@[simp] theorem ofO_none {α : Type} : ofO (none : Option α) = (bad : M α) := rfl
theorem bind_ok {α β : Type} {m : M α} {k : α → M β} {s s' : Cells} {a : α} (h : m s = .ok a s') : (m >>= k) s = k a s' := by rw [bind_def, h]
def getC (j : Nat) : M (List PyData) := fun s => match s[j]? with
  | some (some (.lst xs)) => .ok xs s
  | _ => .bad
def setC (j : Nat) (xs : List PyData) : M Unit := fun s => if j < s.length then .ok () (s.set j (some (.lst xs))) else .bad
def delC (j : Nat) : M Unit := fun s => .ok () (s.set j none)
def pick (s : Cells) : List Nat → Cells
  | [] => []
  | j :: r => s.getD j none :: pick s r
def put (s : Cells) : List Nat → Cells → Cells
  | j :: r, c :: cs => put (s.set j c) r cs
  | _, _ => s
def liveC : Option ZL.Cell → Bool
  | some (.tbl _) => false
  | some _ => true
  | none => false
def liveB (s : Cells) (js : List Nat) : Bool := js.all fun j => liveC (s.getD j none)
def sub {α : Type} (js : List Nat) (m : M α) : M α := fun s => bif liveB s js then (match m (pick s js) with
  | .ok a s' => .ok a (put s js s')
  | .ex x s' => .ex x (put s js s')
  | .bad => .bad) else .bad
@[simp] theorem sub_pure {α : Type} (a : α) : sub [] (pure a : M α) = pure a := rfl
inductive Fl (L T : Type) where
  | nx (t : T)
  | bk (l : L)
  | ct (l : L)
  | rt (v : PyData)
def flk {L T U : Type} (k : T → M (Fl L U)) : Fl L T → M (Fl L U)
  | .nx t => k t
  | .bk l => pure (.bk l)
  | .ct l => pure (.ct l)
  | .rt v => pure (.rt v)
@[simp] theorem flk_nx {L T U : Type} (k : T → M (Fl L U)) (t : T) : flk k (.nx t) = k t := rfl
@[simp] theorem flk_rt {L T U : Type} (k : T → M (Fl L U)) (v : PyData) : flk k (.rt v) = pure (.rt v) := rfl
@[simp] theorem flk_bk {L T U : Type} (k : T → M (Fl L U)) (v : L) : flk k (.bk v) = pure (.bk v) := rfl
@[simp] theorem flk_ct {L T U : Type} (k : T → M (Fl L U)) (v : L) : flk k (.ct v) = pure (.ct v) := rfl
def fin (m : M (Fl Unit Unit)) : M PyData := m >>= fun f => match f with
  | .nx _ => pure .none
  | .rt v => pure v
  | _ => bad
@[simp] theorem fin_rt (v : PyData) : fin (pure (.rt v)) = pure v := rfl
@[simp] theorem fin_nx (v : Unit) : fin (pure (.nx v)) = pure .none := rfl
@[simp] theorem fin_raise (n : Str) : fin (raise n) = raise n := rfl
@[simp] theorem fin_bind {α : Type} (m : M α) (k : α → M (Fl Unit Unit)) : fin (m >>= k) = (m >>= fun a => fin (k a)) := by
  unfold fin; rw [bind_assoc']
@[simp] theorem fin_cond (b : Bool) (x y : M (Fl Unit Unit)) : fin (bif b then x else y) = bif b then fin x else fin y := by cases b <;> rfl
@[simp] theorem bind_cond {α β : Type} (b : Bool) (x y : M α) (k : α → M β) : ((bif b then x else y) >>= k) = bif b then (x >>= k) else (y >>= k) := by cases b <;> rfl
def forM {L T α : Type} (pt : PyData → Option α) (body : α → T → M (Fl T T)) : List PyData → T → M (Fl L T)
  | [], t => pure (.nx t)
  | x :: r, t => ofO (pt x) >>= fun u => body u t >>= fun f => match f with
    | .nx t' => forM pt body r t'
    | .ct t' => forM pt body r t'
    | .bk t' => pure (.nx t')
    | .rt v => pure (.rt v)
def whileM {L T : Type} (c : T → M Bool) (body : T → M (Fl T T)) : Nat → T → M (Fl L T)
  | 0, _ => bad
  | n + 1, t => c t >>= fun b => bif b then (body t >>= fun f => match f with
    | .nx t' => whileM c body n t'
    | .ct t' => whileM c body n t'
    | .bk t' => pure (.nx t')
    | .rt v => pure (.rt v)) else pure (.nx t)
theorem whileM_succ {L T : Type} (c : T → M Bool) (body : T → M (Fl T T)) (n : Nat) (t : T) : (whileM c body (n + 1) t : M (Fl L T)) = (c t >>= fun b => bif b then (body t >>= fun f => match f with
    | .nx t' => whileM c body n t'
    | .ct t' => whileM c body n t'
    | .bk t' => pure (.nx t')
    | .rt v => pure (.rt v)) else pure (.nx t)) := rfl
def line : Nat := 16777216
end V
namespace ZL
open PySem PySem.Spec PyProof.Rows L2
inductive Fgz : ZEnv → ZEnv → Prop
  | nil : Fgz [] []
  | n {o : Option Z} {a b : ZEnv} : Fgz a b → Fgz (none :: a) (o :: b)
  | s {z : Z} {a b : ZEnv} : Fgz a b → Fgz (some z :: a) (some z :: b)
theorem Fgz.refl : ∀ a : ZEnv, Fgz a a
  | [] => .nil
  | none :: a => .n (Fgz.refl a)
  | some _ :: a => .s (Fgz.refl a)
theorem Fgz.trans : ∀ {a b c : ZEnv}, Fgz a b → Fgz b c → Fgz a c
  | _, _, _, .nil, h => h
  | _, _, _, .n h, .n k => .n (Fgz.trans h k)
  | _, _, _, .n h, .s k => .n (Fgz.trans h k)
  | _, _, _, .s h, .s k => .s (Fgz.trans h k)
theorem Fgz.set : ∀ {a b : ZEnv} (i : Nat) (o : Option Z), Fgz a b → Fgz (a.set i o) (b.set i o)
  | _, _, _, _, .nil => .nil
  | _, _, 0, none, .n h => .n h
  | _, _, 0, some z, .n h => .s h
  | _, _, 0, none, .s h => .n h
  | _, _, 0, some z, .s h => .s h
  | _, _, i + 1, o, .n h => .n (Fgz.set i o h)
  | _, _, i + 1, o, .s h => .s (Fgz.set i o h)
theorem Fgz.unset : ∀ {a b : ZEnv} (i : Nat) (o : Option Z), Fgz a b → Fgz (a.set i none) (b.set i o)
  | _, _, _, _, .nil => .nil
  | _, _, 0, _, .n h => .n h
  | _, _, 0, _, .s h => .n h
  | _, _, i + 1, o, .n h => .n (Fgz.unset i o h)
  | _, _, i + 1, o, .s h => .s (Fgz.unset i o h)
theorem Fgz.wipe {a b : ZEnv} (h : Fgz a b) : ∀ vs : List Nat, Fgz (zwipe a vs) (zwipe b vs)
  | [] => h
  | v :: vs => (Fgz.wipe h vs).set v none
theorem RE.forget {K : PySem.W.Frag} {H : Hp} : ∀ {a b : ZEnv} {σ : L2.St}, Fgz a b → RE K H b σ → RE K H a σ
  | _, _, _, .nil, .nil => .nil
  | _, _, _, .n h, .non r => .non (RE.forget h r)
  | _, _, _, .n h, .val _ r => .non (RE.forget h r)
  | _, _, _, .s h, .val q r => .val q (RE.forget h r)
section
variable {X : Cx} {B : Bs}
def WE (X : Cx) (B : Bs) (e : Expr) : ZT := fun ρ S Q => ∃ ρ' t, Fgz ρ' ρ ∧ ZE X B e t ∧ t ρ' S Q
def WT (X : Cx) (B : Bs) (e : Expr) : ZB := fun ρ S Q => ∃ ρ' t, Fgz ρ' ρ ∧ ZTe X B e t ∧ t ρ' S Q
def WW (X : Cx) (B : Bs) (e : Expr) : ZB := fun ρ S Q => ∃ ρ' t, Fgz ρ' ρ ∧ ZW X B e t ∧ t ρ' S Q
def WAs (X : Cx) (B : Bs) (e : List Expr) : ZA := fun ρ S Q => ∃ ρ' t, Fgz ρ' ρ ∧ ZAs X B e t ∧ t ρ' S Q
def WKw (X : Cx) (B : Bs) (e : List Keyword) : ZA := fun ρ S Q => ∃ ρ' t, Fgz ρ' ρ ∧ ZKw X B e t ∧ t ρ' S Q
def WSt (X : Cx) (B : Bs) (e : Stmt) : ZTS := fun D ρ S => ∃ ρ' t, Fgz ρ' ρ ∧ ZS X B e t ∧ t D ρ' S
def WSs (X : Cx) (B : Bs) (e : List Stmt) : ZTS := fun D ρ S => ∃ ρ' t, Fgz ρ' ρ ∧ ZSs X B e t ∧ t D ρ' S
def WI (X : Cx) (B : Bs) (tg e : Expr) : ZTI := fun ρ S Q => ∃ ρ' t, Fgz ρ' ρ ∧ ZI X B tg e t ∧ t ρ' S Q
theorem we_ze {e : Expr} : ZE X B e (WE X B e) := ⟨fun q ⟨ρ', t, f, h, w⟩ => ⟨ρ', t, f, h, h.mono q w⟩, ⟨fun pins s σ H Q I ⟨ρ, S, hE, hS, ρ', t, f, h, w⟩ => h.pe.run pins s σ H Q I ⟨ρ', S, hE.forget f, hS, w⟩⟩⟩
theorem wt_zt {e : Expr} : ZTe X B e (WT X B e) := ⟨fun q ⟨ρ', t, f, h, w⟩ => ⟨ρ', t, f, h, h.mono q w⟩, ⟨fun pins s σ H Q I ⟨ρ, S, hE, hS, ρ', t, f, h, w⟩ => h.pt.run pins s σ H Q I ⟨ρ', S, hE.forget f, hS, w⟩⟩⟩
theorem ww_zw {e : Expr} : ZW X B e (WW X B e) := ⟨fun q ⟨ρ', t, f, h, w⟩ => ⟨ρ', t, f, h, h.mono q w⟩, ⟨fun wh pins s σ H Q I ⟨ρ, S, hE, hS, ρ', t, f, h, w⟩ => h.pw.run wh pins s σ H Q I ⟨ρ', S, hE.forget f, hS, w⟩⟩⟩
theorem wa_za {e : List Expr} : ZAs X B e (WAs X B e) := ⟨fun q ⟨ρ', t, f, h, w⟩ => ⟨ρ', t, f, h, h.mono q w⟩, ⟨fun pos pins s σ H Q I ⟨ρ, S, hE, hS, ρ', t, f, h, w⟩ => h.pa.run pos pins s σ H Q I ⟨ρ', S, hE.forget f, hS, w⟩⟩⟩
theorem wk_zk {e : List Keyword} : ZKw X B e (WKw X B e) := ⟨fun q ⟨ρ', t, f, h, w⟩ => ⟨ρ', t, f, h, h.mono q w⟩, ⟨fun pos pins s σ H Q I ⟨ρ, S, hE, hS, ρ', t, f, h, w⟩ => h.pk.run pos pins s σ H Q I ⟨ρ', S, hE.forget f, hS, w⟩⟩⟩
theorem wss_zss {e : List Stmt} : ZSs X B e (WSs X B e) := ⟨⟨fun pins s σ H E I ⟨ρ, S, D, hE, hS, l, ρ', t, f, h, w⟩ => h.pss.run pins s σ H E I ⟨ρ', S, D, hE.forget f, hS, l, w⟩⟩⟩
theorem wi_zi {tg e : Expr} : ZI X B tg e (WI X B tg e) := ⟨fun q ⟨ρ', t, f, h, w⟩ => ⟨ρ', t, f, h, h.mono q w⟩, ⟨fun pins s σ H Q I ⟨ρ, S, hE, hS, ρ', t, f, h, w⟩ => h.pi.run pins s σ H Q I ⟨ρ', S, hE.forget f, hS, w⟩⟩⟩
theorem ZE.we {e : Expr} {t : ZT} (h : ZE X B e t) {ρ : ZEnv} {S : Sto} {Q : ZQ} (w : t ρ S Q) : WE X B e ρ S Q := ⟨ρ, t, .refl _, h, w⟩
theorem ZTe.we {e : Expr} {t : ZB} (h : ZTe X B e t) {ρ : ZEnv} {S : Sto} {Q} (w : t ρ S Q) : WT X B e ρ S Q := ⟨ρ, t, .refl _, h, w⟩
theorem ZW.we {e : Expr} {t : ZB} (h : ZW X B e t) {ρ : ZEnv} {S : Sto} {Q} (w : t ρ S Q) : WW X B e ρ S Q := ⟨ρ, t, .refl _, h, w⟩
theorem ZAs.we {e : List Expr} {t : ZA} (h : ZAs X B e t) {ρ : ZEnv} {S : Sto} {Q} (w : t ρ S Q) : WAs X B e ρ S Q := ⟨ρ, t, .refl _, h, w⟩
theorem ZKw.we {e : List Keyword} {t : ZA} (h : ZKw X B e t) {ρ : ZEnv} {S : Sto} {Q} (w : t ρ S Q) : WKw X B e ρ S Q := ⟨ρ, t, .refl _, h, w⟩
theorem ZI.we {tg e : Expr} {t : ZTI} (h : ZI X B tg e t) {ρ : ZEnv} {S : Sto} {Q} (w : t ρ S Q) : WI X B tg e ρ S Q := ⟨ρ, t, .refl _, h, w⟩
theorem ZS.we {e : Stmt} {t : ZTS} (h : ZS X B e t) {D : ZEnds} {ρ : ZEnv} {S : Sto} (w : t D ρ S) : WSt X B e D ρ S := ⟨ρ, t, .refl _, h, w⟩
theorem ZSs.we {e : List Stmt} {t : ZTS} (h : ZSs X B e t) {D : ZEnds} {ρ : ZEnv} {S : Sto} (w : t D ρ S) : WSs X B e D ρ S := ⟨ρ, t, .refl _, h, w⟩
theorem WSs.forget {e : List Stmt} {D : ZEnds} {ρ ρ' : ZEnv} {S : Sto} (f : Fgz ρ' ρ) (w : WSs X B e D ρ' S) : WSs X B e D ρ S := let ⟨ρ2, t, f2, h, w⟩ := w; ⟨ρ2, t, f2.trans f, h, w⟩
theorem WE.forget {e : Expr} {ρ ρ' : ZEnv} {S : Sto} {Q : ZQ} (f : Fgz ρ' ρ) (w : WE X B e ρ' S Q) : WE X B e ρ S Q := let ⟨ρ2, t, f2, h, w⟩ := w; ⟨ρ2, t, f2.trans f, h, w⟩
theorem WT.forget {e : Expr} {ρ ρ' : ZEnv} {S : Sto} {Q} (f : Fgz ρ' ρ) (w : WT X B e ρ' S Q) : WT X B e ρ S Q := let ⟨ρ2, t, f2, h, w⟩ := w; ⟨ρ2, t, f2.trans f, h, w⟩
end
inductive Vl where
  | d (x : PyData)
  | c (j : Nat)
  | k (xs : List PyData)
  | ob (a : Addr)
def Vl.den (ps : List Addr) : Vl → Z
  | .d x => .d x
  | .c j => .r (ps.getD j 0)
  | .k xs => .k xs
  | .ob a => .r a
abbrev VEnv := List (Option Vl)
def VEnv.den (ps : List Addr) (ρ : VEnv) : ZEnv := List.map (Option.map (Vl.den ps)) ρ
inductive Fg : VEnv → VEnv → Prop
  | nil : Fg [] []
  | n {o : Option Vl} {a b : VEnv} : Fg a b → Fg (none :: a) (o :: b)
  | s {z : Vl} {a b : VEnv} : Fg a b → Fg (some z :: a) (some z :: b)
theorem Fg.den (ps : List Addr) : ∀ {a b : VEnv}, Fg a b → Fgz (VEnv.den ps a) (VEnv.den ps b)
  | _, _, .nil => .nil
  | _, _, .n h => .n (Fg.den ps h)
  | _, _, .s h => .s (Fg.den ps h)
theorem Fg.refl : ∀ a : VEnv, Fg a a
  | [] => .nil
  | none :: a => .n (Fg.refl a)
  | some _ :: a => .s (Fg.refl a)
theorem Fg.none : ∀ b : VEnv, Fg (List.replicate b.length Option.none) b
  | [] => .nil
  | _ :: a => .n (Fg.none a)
def fgE (a b : VEnv) : Prop := match a, b with
  | [], [] => True
  | none :: a, _ :: b => fgE a b
  | some z :: a, o :: b => o = some z ∧ fgE a b
  | _, _ => False
theorem Fg.of : ∀ {a b : VEnv}, fgE a b → Fg a b
  | [], [], _ => .nil
  | Option.none :: a, _ :: b, h => .n (Fg.of h)
  | some z :: a, o :: b, h => by obtain ⟨rfl, h⟩ := h; exact .s (Fg.of h)
  | [], _ :: _, h => h.elim
  | Option.none :: _, [], h => h.elim
  | some _ :: _, [], h => h.elim
theorem den_set (ps : List Addr) (ρ : VEnv) (i : Nat) (o : Option Vl) : VEnv.den ps (ρ.set i o) = (VEnv.den ps ρ).set i (o.map (Vl.den ps)) := by
  unfold VEnv.den
  rw [List.map_set]
theorem den_get (ps : List Addr) (ρ : VEnv) (i : Nat) {v : Vl} (h : ρ[i]? = some (some v)) : (VEnv.den ps ρ)[i]? = some (some (v.den ps)) := by
  unfold VEnv.den
  rw [List.getElem?_map, h]
  rfl
def vwipe (ρ : VEnv) : List Nat → VEnv
  | [] => ρ
  | v :: vs => (vwipe ρ vs).set v none
theorem den_wipe (ps : List Addr) (ρ : VEnv) : ∀ vs : List Nat, VEnv.den ps (vwipe ρ vs) = zwipe (VEnv.den ps ρ) vs
  | [] => rfl
  | v :: vs => by rw [vwipe, zwipe, den_set, den_wipe ps ρ vs]; rfl
open V (Cells Exn Res M)
structure Gd where
  p : List Addr
  S : Sto
def OwnOk (S : Sto) : Prop := ∀ b a m, S b = some (.own a m) → ∃ dss, S a = some (.tab dss)
structure Rel (G : Gd) (ps : List Addr) (s : Cells) (S : Sto) : Prop where
  len : ps.length = s.length
  own : ∀ (j : Nat) (c : Cell) (a : Addr), s[j]? = some (some c) → ps[j]? = some a → S a = some c
  inj : ∀ (i j : Nat) (ci cj : Cell) (a : Addr), s[i]? = some (some ci) → s[j]? = some (some cj) → ps[i]? = some a → ps[j]? = some a → i = j
  fr : ∀ (a : Addr) (c : Cell), a ∉ G.p → G.S a = some c → S a = some c
  loc : ∀ (j : Nat) (c : Cell) (a : Addr), s[j]? = some (some c) → ps[j]? = some a → (j < G.p.length ∧ a ∈ G.p) ∨ (G.p.length ≤ j ∧ a ∉ G.p ∧ G.S a = none)
  gp : ∀ a ∈ G.p, S a ≠ none
  par : ps.take G.p.length = G.p
  owS : OwnOk S
  owG : OwnOk G.S
  gq : ∀ a ∈ G.p, ∀ p m, S a ≠ some (.own p m)
  cn : ∀ (j : Nat) (p : Addr) (m : Nat), s[j]? ≠ some (some (.own p m))
def sat {α : Type} (r : Res α) (Q : α → Cells → Prop) (E : Exn → Cells → Prop) : Prop := match r with
  | .ok a s => Q a s
  | .ex x s => E x s
  | .bad => False
theorem sat_bind {α β : Type} {m : M α} {k : α → M β} {s : Cells} {Q : β → Cells → Prop} {E : Exn → Cells → Prop} (h : sat ((m >>= k) s) Q E) : sat (m s) (fun a s' => sat (k a s') Q E) E := by
  rw [V.bind_def] at h
  unfold sat at *
  cases e : m s with
  | ok a s' => rw [e] at h; exact h
  | ex x s' => rw [e] at h; exact h
  | bad => rw [e] at h; exact h
theorem sat.mono {α : Type} {r : Res α} {Q Q' : α → Cells → Prop} {E E' : Exn → Cells → Prop} (h : sat r Q E) (q : ∀ a s, Q a s → Q' a s) (e : ∀ x s, E x s → E' x s) : sat r Q' E' := by
  unfold sat at *
  cases r with
  | ok a s => exact q _ _ h
  | ex x s => exact e _ _ h
  | bad => exact h
def XR (mg : Str → Option Value) (x : Exn) (zx : ZX) : Prop := mg x.name = some (.ref zx.cls) ∧ zx.fs = x.fs
abbrev XW := ZX → Sto → Prop
def XOk (mg : Str → Option Value) (G : Gd) (EZ : XW) (x : Exn) (s : Cells) : Prop := ∀ zx ps S, Rel G ps s S → XR mg x zx → EZ zx S
structure Ct where
  X : Cx
  B : Bs
  G : Gd
  EZ : XW
def FE (C : Ct) (e : Expr) (ρ : VEnv) (m : M PyData) : Prop := ∀ ps s S (Q : ZQ), Rel C.G ps s S → sat (m s) (fun d s' => ∀ S', Rel C.G ps s' S' → Q (.d d) S') (XOk C.X.mg C.G C.EZ) → WE C.X C.B e (VEnv.den ps ρ) S Q
def FT (C : Ct) (e : Expr) (ρ : VEnv) (m : M Bool) : Prop := ∀ ps s S (Q : Bool → Sto → Prop), Rel C.G ps s S → sat (m s) (fun d s' => ∀ S', Rel C.G ps s' S' → Q d S') (XOk C.X.mg C.G C.EZ) → WT C.X C.B e (VEnv.den ps ρ) S Q
def FW (C : Ct) (e : Expr) (ρ : VEnv) (m : M Bool) : Prop := ∀ ps s S (Q : Bool → Sto → Prop), Rel C.G ps s S → sat (m s) (fun d s' => ∀ S', Rel C.G ps s' S' → Q d S') (XOk C.X.mg C.G C.EZ) → WW C.X C.B e (VEnv.den ps ρ) S Q
def WL (X : Cx) (B : Bs) : List Expr → ZA
  | [] => fun ρ S Q => Q [] S
  | e :: es => fun ρ S Q => WE X B e ρ S fun z S1 => WL X B es ρ S1 fun zs S2 => Q (z :: zs) S2
def FL (C : Ct) (es : List Expr) (ρ : VEnv) (acc : List Vl) {β : Type} (m : M β) (k : List Vl → M β) : Prop :=
  ∀ ps s S (Q : List Z → Sto → Prop) (R : β → Cells → Prop), Rel C.G ps s S → sat (m s) R (XOk C.X.mg C.G C.EZ) → (∀ ds s' S', Rel C.G ps s' S' → sat (k (acc ++ ds) s') R (XOk C.X.mg C.G C.EZ) → Q (ds.map (Vl.den ps)) S') → WL C.X C.B es (VEnv.den ps ρ) S Q
section
variable {C : Ct} {e a b : Expr} {es : List Expr} {ρ : VEnv}
theorem fl_nil {β : Type} {acc : List Vl} {m : M β} {k : List Vl → M β} (h : m = k acc := by rfl) : FL C [] ρ acc m k := by
  subst h
  exact fun ps s S Q R r w q => q [] s S r (by rw [List.append_nil]; exact w)
theorem fl_cons {β : Type} {acc : List Vl} {me : M PyData} {m : PyData → M β} {k : List Vl → M β} (he : FE C e ρ me) (hr : ∀ x, FL C es ρ (acc ++ [.d x]) (m x) k) : FL C (e :: es) ρ acc (me >>= m) k := by
  intro ps s S Q R r w q
  refine he ps s S _ r ((sat_bind w).mono (fun x s1 h S1 r1 => ?_) fun _ _ h => h)
  exact hr x ps s1 S1 _ R r1 h fun ds s' S' r' h' => q (.d x :: ds) s' S' r' (by rw [List.append_assoc] at h'; exact h')
theorem fl_at {β : Type} {acc : List Vl} {x : PyData} {m : M β} {k : List Vl → M β} (he : FE C e ρ (pure x)) (hr : FL C es ρ (acc ++ [.d x]) m k) : FL C (e :: es) ρ acc m k := by
  intro ps s S Q R r w q
  refine he ps s S _ r ?_
  intro S1 r1
  exact hr ps s S1 _ R r1 w fun ds s' S' r' h' => q (.d x :: ds) s' S' r' (by rw [List.append_assoc] at h'; exact h')
theorem fl_c {β : Type} {acc : List Vl} {m : M β} {k : List Vl → M β} (i : Nat) (v : Vl) {x : Str} {pos : Pos} (hρ : ρ[i]? = some (some v)) (hr : FL C es ρ (acc ++ [v]) m k) (hN : C.X.N[i]? = some x := by rfl) (hv : Vis C.X.env.scope x := by first | exact Or.inl rfl | exact Or.inr (Or.inl rfl) | exact Or.inr (Or.inr rfl)) (hd : (x == ("__debug__" : Str)) = false := by decide)
    (hcd : (x == ("__classdict__" : Str)) = false := by decide) : FL C (.Name x pos :: es) ρ acc m k := by
  intro ps s S Q R r w q
  refine (zv i hN hv hd hcd).we ?_
  show zVar i _ _ _
  unfold zVar
  rw [den_get ps ρ i hρ]
  exact hr ps s S _ R r w fun ds s' S' r' h' => q (v :: ds) s' S' r' (by rw [List.append_assoc] at h'; exact h')
end
theorem ofO_ok {α : Type} {o : Option α} {a : α} {s s' : Cells} (h : V.ofO o s = .ok a s') : o = some a ∧ s' = s := by
  cases o with
  | none => cases h
  | some b => cases h; exact ⟨rfl, rfl⟩
theorem sat_ofO {α : Type} {o : Option α} {s : Cells} {Q : α → Cells → Prop} {E : Exn → Cells → Prop} (h : sat (V.ofO o s) Q E) : ∃ a, o = some a ∧ Q a s := by
  cases o with
  | none => exact h.elim
  | some b => exact ⟨b, rfl, h⟩
theorem sat_getC {s : Cells} {j : Nat} {Q : List PyData → Cells → Prop} {E : Exn → Cells → Prop} (h : sat (V.getC j s) Q E) : ∃ xs, s[j]? = some (some (.lst xs)) ∧ Q xs s := by
  unfold V.getC at h
  split at h
  · rename_i xs e; exact ⟨xs, e, h⟩
  · exact h.elim
theorem Rel.at {G : Gd} {ps : List Addr} {s : Cells} {S : Sto} (r : Rel G ps s S) {j : Nat} {c : Cell} (h : s[j]? = some (some c)) : ps[j]? = some (ps.getD j 0) ∧ S (ps.getD j 0) = some c := by
  have hj : j < ps.length := by rw [r.len]; exact (List.getElem?_eq_some_iff.mp h).1
  have e : ps[j]? = some (ps.getD j 0) := by simp [hj]
  exact ⟨e, r.own j c _ h e⟩
end ZL
namespace V
open PySem PySem.Spec ZL L2
def addO : PyData → PyData → Option PyData
  | .int i, .int j => some (.int (i + j))
  | .str i, .str j => if i.length + j.length ≤ line then some (.str (i ++ j)) else none
  | .tuple i, .tuple j => if i.length + j.length ≤ line then some (.tuple (i ++ j)) else none
  | .list i, .list j => if i.length + j.length ≤ line then some (.list (i ++ j)) else none
  | _, _ => none
def subO : PyData → PyData → Option PyData
  | .int i, .int j => some (.int (i - j))
  | _, _ => none
def mulOk (i j : Int) : Bool := decide (i.natAbs.log2 + j.natAbs.log2 + 2 ≤ 134217728)
def mulO : PyData → PyData → Option PyData
  | .int i, .int j => if mulOk i j then some (.int (i * j)) else none
  | _, _ => none
def divOk (j : Int) : Bool := decide (j ≠ 0) && decide (j.natAbs.log2 < 9000)
def fdivO : PyData → PyData → Option PyData
  | .int i, .int j => if divOk j then some (.int (i.fdiv j)) else none
  | _, _ => none
def modO : PyData → PyData → Option PyData
  | .int i, .int j => if 0 < j then some (.int (i % j)) else none
  | _, _ => none
def powOk (i j : Int) : Bool := decide (0 ≤ j) && decide (j ≤ 1000000) && decide (i.natAbs < 2 ^ 64)
def powO : PyData → PyData → Option PyData
  | .int i, .int j => if powOk i j then some (.int (i ^ j.toNat)) else none
  | _, _ => none
def negO : PyData → Option PyData
  | .int i => some (.int (-i))
  | _ => none
def ltO : PyData → PyData → Option Bool
  | .int i, .int j => some (decide (i < j))
  | _, _ => none
def leO : PyData → PyData → Option Bool
  | .int i, .int j => some (decide (i ≤ j))
  | _, _ => none
def gtO : PyData → PyData → Option Bool
  | .int i, .int j => some (decide (j < i))
  | _, _ => none
def eqO : PyData → PyData → Option Bool
  | .int i, .int j => some (decide (i = j))
  | .str i, .str j => some (decide (i = j))
  | a, b => if SeqAt.shaped a && SeqAt.shaped b then some (PyData.eqv a b) else none
def neO : PyData → PyData → Option Bool
  | .int i, .int j => some (!decide (i = j))
  | .str i, .str j => some (!decide (i = j))
  | a, b => if SeqAt.shaped a && SeqAt.shaped b then some (!PyData.eqv a b) else none
def rowD : PyData → Option (List PyData)
  | .list xs => some xs
  | .tuple xs => some xs
  | _ => none
def ixO : PyData → PyData → Option PyData
  | .list xs, .int i => atI xs i
  | .tuple xs, .int i => atI xs i
  | _, _ => none
def lenO : PyData → Option PyData
  | .str x => if x.length ≤ line then some (.int x.length) else none
  | .list xs => some (.int xs.length)
  | .tuple xs => some (.int xs.length)
  | _ => none
def isO (T : Ty7) (d : PyData) : PyData := .bool (isD T d)
def reprOk (d : PyData) : Bool := d.showable && decide (d.depth ≤ 100) && (!d.hasDict || lfree d) && decide (d.shown.length ≤ line)
def reprO (d : PyData) : Option PyData := if reprOk d then some (.str d.shown) else none
def allO : PyData → Option PyData
  | .list xs => (boolsZ xs).map fun bs => .bool (bs.all fun b => b)
  | _ => none
def anyO : PyData → Option PyData
  | .list xs => (boolsZ xs).map fun bs => .bool (bs.any fun b => b)
  | _ => none
def intO : PyData → Option PyData
  | .int i => some (.int i)
  | .bool b => some (.int (if b then 1 else 0))
  | _ => none
def absO : PyData → Option PyData
  | .int i => some (.int (absI i))
  | _ => none
def maxO : PyData → PyData → Option PyData
  | .int i, .int j => some (.int (maxI i j))
  | _, _ => none
def minO : PyData → PyData → Option PyData
  | .int i, .int j => some (.int (minI i j))
  | _, _ => none
def tupleO (x : PyData) : Option PyData := (rowD x).map .tuple
def listO (x : PyData) : Option PyData := (rowD x).map .list
def sliceO (x : PyData) (lo hi : Option Int) : Option PyData := match x with
  | .list xs => some (.list (cutD xs lo hi))
  | .tuple xs => some (.tuple (cutD xs lo hi))
  | _ => none
def revO : PyData → Option PyData
  | .tuple xs => some (.tuple xs.reverse)
  | _ => none
def toB : PyData → M Bool
  | .bool b => pure b
  | _ => bad
def ofB (m : M Bool) : M PyData := m >>= fun b => pure (.bool b)
abbrev addM (x y : PyData) : M PyData := ofO (addO x y)
abbrev subM (x y : PyData) : M PyData := ofO (subO x y)
abbrev mulM (x y : PyData) : M PyData := ofO (mulO x y)
abbrev fdivM (x y : PyData) : M PyData := ofO (fdivO x y)
abbrev modM (x y : PyData) : M PyData := ofO (modO x y)
abbrev powM (x y : PyData) : M PyData := ofO (powO x y)
abbrev negM (x : PyData) : M PyData := ofO (negO x)
abbrev ltM (x y : PyData) : M Bool := ofO (ltO x y)
abbrev leM (x y : PyData) : M Bool := ofO (leO x y)
abbrev gtM (x y : PyData) : M Bool := ofO (gtO x y)
abbrev eqM (x y : PyData) : M Bool := ofO (eqO x y)
abbrev neM (x y : PyData) : M Bool := ofO (neO x y)
abbrev ixM (x y : PyData) : M PyData := ofO (ixO x y)
abbrev lenM (x : PyData) : M PyData := ofO (lenO x)
abbrev reprM (x : PyData) : M PyData := ofO (reprO x)
abbrev allM (x : PyData) : M PyData := ofO (allO x)
abbrev anyM (x : PyData) : M PyData := ofO (anyO x)
abbrev intM (x : PyData) : M PyData := ofO (intO x)
abbrev absM (x : PyData) : M PyData := ofO (absO x)
abbrev maxM (x y : PyData) : M PyData := ofO (maxO x y)
abbrev minM (x y : PyData) : M PyData := ofO (minO x y)
abbrev tupleM (x : PyData) : M PyData := ofO (tupleO x)
abbrev listM (x : PyData) : M PyData := ofO (listO x)
abbrev revM (x : PyData) : M PyData := ofO (revO x)
def ptO : Option PyData → Option (Option Int)
  | none => some none
  | some (.int i) => some (some i)
  | _ => none
def sliceM (x : PyData) (lo hi : Option PyData) : M PyData := ofO ((ptO lo).bind fun l => (ptO hi).bind fun h => sliceO x l h)
def bi2 {β : Type} (g : PyData → PyData → M β) : List Vl → M β
  | [.d x, .d y] => g x y
  | _ => bad
def un {β : Type} (g : PyData → M β) : List Vl → M β
  | [.d x] => g x
  | _ => bad
def row1 {β : Type} (g : PyData → M β) : List Vl → M β
  | [.d x] => g x
  | [.c j] => getC j >>= fun xs => g (.list xs)
  | [.k xs] => g (.list xs)
  | _ => bad
def row2 {β : Type} (g : PyData → PyData → M β) : List Vl → M β
  | [.d x, .d y] => g x y
  | [.c j, .d y] => getC j >>= fun xs => g (.list xs) y
  | [.k xs, .d y] => g (.list xs) y
  | _ => bad
def datV : List Vl → Option (List PyData)
  | [] => some []
  | .d x :: r => (datV r).map (x :: ·)
  | _ :: _ => none
def tupK (l : List Vl) : M PyData := match datV l with
  | some ds => if ds.length ≤ line then pure (.tuple ds) else bad
  | none => bad
def lstK (l : List Vl) : M PyData := match datV l with
  | some ds => if ds.length ≤ line then pure (.list ds) else bad
  | none => bad
def tNot (m : M Bool) : M Bool := m >>= fun b => pure (!b)
def tAnd (m n : M Bool) : M Bool := m >>= fun b => bif b then n else pure false
def tOr (m n : M Bool) : M Bool := m >>= fun b => bif b then pure true else n
end V
namespace ZL
open PySem PySem.Spec PyProof.Rows L2 V
theorem line_eq : V.line = sizeLine := by rw [sizeLine_eq]; rfl
theorem mulOk_ok {i j : Int} (h : mulOk i j = true) : MulOk i j := by
  have h := of_decide_eq_true h
  unfold MulOk
  refine IntMulOk.of_le (a := i) (b := j) (bits_le (n := i.natAbs.log2 + 1) ?_) (bits_le (n := j.natAbs.log2 + 1) ?_) (by omega)
  · exact Nat.lt_log2_self
  · exact Nat.lt_log2_self
theorem divOk_ok {i j : Int} (h : divOk j = true) : DivOk i j := by
  unfold divOk at h
  simp only [Bool.and_eq_true, decide_eq_true_eq] at h
  exact h
theorem powOk_ok {i j : Int} (h : powOk i j = true) : PowOk i j := by
  unfold powOk at h
  simp only [Bool.and_eq_true, decide_eq_true_eq] at h
  exact ⟨h.1.1, h.1.2, h.2⟩
def Op2 (r : ZR2) (g : PyData → PyData → Option PyData) : Prop := ∀ x y d S Q, g x y = some d → Q (.d d) S → r (.d x) (.d y) S Q
def Op2b (r : ZR2) (g : PyData → PyData → Option Bool) : Prop := ∀ x y d S Q, g x y = some d → Q (.d (.bool d)) S → r (.d x) (.d y) S Q
theorem o_add : Op2 rZPlus addO := by
  intro x y d S Q h q
  unfold addO at h
  split at h
  · cases h; exact q
  · split at h <;> cases h; rename_i h; rw [line_eq] at h; exact ⟨h, q⟩
  · split at h <;> cases h; rename_i h; rw [line_eq] at h; exact ⟨h, q⟩
  · split at h <;> cases h; rename_i h; rw [line_eq] at h; exact ⟨h, q⟩
  · cases h
theorem o_sub : Op2 (rZ0 fun i j => zi (i - j)) subO := by
  intro x y d S Q h q
  unfold subO at h
  split at h <;> cases h
  exact q
theorem o_mul : Op2 rZMul mulO := by
  intro x y d S Q h q
  unfold mulO at h
  split at h
  · split at h <;> cases h; rename_i h; exact ⟨mulOk_ok h, q⟩
  · cases h
theorem o_fdiv : Op2 (rZI DivOk fun i j => zi (i.fdiv j)) fdivO := by
  intro x y d S Q h q
  unfold fdivO at h
  split at h
  · split at h <;> cases h; rename_i h; exact ⟨divOk_ok h, q⟩
  · cases h
theorem o_mod : Op2 (rZI (fun _ j => 0 < j) fun i j => zi (i % j)) modO := by
  intro x y d S Q h q
  unfold modO at h
  split at h
  · split at h <;> cases h; rename_i h; exact ⟨h, q⟩
  · cases h
theorem o_pow : Op2 (rZI PowOk fun i j => zi (i ^ j.toNat)) powO := by
  intro x y d S Q h q
  unfold powO at h
  split at h
  · split at h <;> cases h; rename_i h; exact ⟨powOk_ok h, q⟩
  · cases h
theorem o_lt : Op2b (rZ0 fun i j => zb (decide (i < j))) ltO := by
  intro x y d S Q h q
  unfold ltO at h
  split at h <;> cases h
  exact q
theorem o_gt : Op2b (rZ0 fun i j => zb (decide (j < i))) gtO := by
  intro x y d S Q h q
  unfold gtO at h
  split at h <;> cases h
  exact q
theorem o_eq : Op2b rZEq eqO := by
  intro x y d S Q h q
  unfold eqO at h
  split at h
  · cases h; exact q
  · cases h; exact q
  · rename_i n1 n2
    split at h <;> cases h
    rename_i h
    simp only [Bool.and_eq_true] at h
    unfold rZEq
    split
    · rename_i e1 e2; cases e1; cases e2; exact (n1 _ _ rfl rfl).elim
    · rename_i e1 e2; cases e1; cases e2; exact (n2 _ _ rfl rfl).elim
    · rename_i e1 e2; cases e1; cases e2; exact ⟨h, q⟩
    · rename_i k; exact (k _ _ rfl rfl).elim
theorem o_ne : Op2b rZNe neO := by
  intro x y d S Q h q
  unfold neO at h
  split at h
  · cases h; exact q
  · cases h; exact q
  · rename_i n1 n2
    split at h <;> cases h
    rename_i h
    simp only [Bool.and_eq_true] at h
    unfold rZNe
    split
    · rename_i e1 e2; cases e1; cases e2; exact (n1 _ _ rfl rfl).elim
    · rename_i e1 e2; cases e1; cases e2; exact (n2 _ _ rfl rfl).elim
    · rename_i e1 e2; cases e1; cases e2; exact ⟨h, q⟩
    · rename_i k; exact (k _ _ rfl rfl).elim
section
variable {C : Ct} {e a b c : Expr} {es : List Expr} {ρ : VEnv} {pos : Pos}
theorem f_v (i : Nat) {x : Str} {d : PyData} (hρ : ρ[i]? = some (some (.d d)) := by rfl) (hN : C.X.N[i]? = some x := by rfl) (hv : Vis C.X.env.scope x := by first | exact Or.inl rfl | exact Or.inr (Or.inl rfl) | exact Or.inr (Or.inr rfl)) (hd : (x == ("__debug__" : Str)) = false := by decide)
    (hcd : (x == ("__classdict__" : Str)) = false := by decide) : FE C (.Name x pos) ρ (pure d) := by
  intro ps s S Q r w
  refine (zv i hN hv hd hcd).we ?_
  show zVar i _ _ _
  unfold zVar
  rw [den_get ps ρ i hρ]
  exact w S r
theorem f_of {d : PyData} (h : ZE C.X C.B e (zC (.d d))) : FE C e ρ (pure d) := fun ps s S Q r w => h.we (w S r)
theorem f_int {i j pos} : FE C (.Constant (.int i) j pos) ρ (pure (.int i)) := f_of ze_int
theorem f_bl {i j pos} : FE C (.Constant (.bool i) j pos) ρ (pure (.bool i)) := f_of ze_bl
theorem f_non {j pos} : FE C (.Constant .none j pos) ρ (pure .none) := f_of ze_non
theorem f_str {x j pos} : FE C (.Constant (.str x) j pos) ρ (pure (.str x)) := f_of ze_str
theorem fl_two {β : Type} {m : M β} {g : PyData → PyData → M β} (h : FL C [a, b] ρ [] m (bi2 g)) {ps : List Addr} {s : Cells} {S : Sto} {Q : Z → Z → Sto → Prop} {R : β → Cells → Prop} (r : Rel C.G ps s S) (w : sat (m s) R (XOk C.X.mg C.G C.EZ))
    (q : ∀ x y s' S', Rel C.G ps s' S' → sat (g x y s') R (XOk C.X.mg C.G C.EZ) → Q (.d x) (.d y) S') : WE C.X C.B a (VEnv.den ps ρ) S fun x S1 => WE C.X C.B b (VEnv.den ps ρ) S1 fun y S2 => Q x y S2 := by
  have := h ps s S (fun zs S' => match zs with | [x, y] => Q x y S' | _ => True) R r w fun ds s' S' r' w' => by
    rw [List.nil_append] at w'
    unfold bi2 at w'
    split at w'
    · exact q _ _ s' S' r' w'
    · exact w'.elim
  exact this
theorem f_bin {op : Operator} {rr : ZR2} {g : PyData → PyData → Option PyData} {m : M PyData} (ho : ZOp C.X (binaryOp op) rr) (hg : Op2 rr g) (h : FL C [a, b] ρ [] m (bi2 fun x y => ofO (g x y))) : FE C (.BinOp a op b pos) ρ m := by
  intro ps s S Q r w
  refine (ze_op ho we_ze we_ze).we ?_
  refine fl_two h r w fun x y s' S' r' w' => ?_
  obtain ⟨d, e, q⟩ := sat_ofO w'
  exact hg x y d S' Q e (q S' r')
theorem f_add {m : M PyData} (h : FL C [a, b] ρ [] m (bi2 addM)) : FE C (.BinOp a .Add b pos) ρ m := f_bin zplus o_add h
theorem f_sub {m : M PyData} (h : FL C [a, b] ρ [] m (bi2 subM)) : FE C (.BinOp a .Sub b pos) ρ m := f_bin zsub o_sub h
theorem f_mul {m : M PyData} (h : FL C [a, b] ρ [] m (bi2 mulM)) : FE C (.BinOp a .Mult b pos) ρ m := f_bin zmul o_mul h
theorem f_fdiv {m : M PyData} (h : FL C [a, b] ρ [] m (bi2 fdivM)) : FE C (.BinOp a .FloorDiv b pos) ρ m := f_bin zfdiv o_fdiv h
theorem f_mod {m : M PyData} (h : FL C [a, b] ρ [] m (bi2 modM)) : FE C (.BinOp a .Mod b pos) ρ m := f_bin zmod o_mod h
theorem f_pow {m : M PyData} (h : FL C [a, b] ρ [] m (bi2 powM)) : FE C (.BinOp a .Pow b pos) ρ m := f_bin zpow o_pow h
theorem t_cmp {op : CmpOp} {rr : ZR2} {g : PyData → PyData → Option Bool} {m : M Bool} (ho : ZOp C.X (compareOp op) rr) (hg : Op2b rr g) (h : FL C [a, b] ρ [] m (bi2 fun x y => ofO (g x y))) (hm : behindInMarks op b = false := by first | rfl | exact nomark _) : FT C (.Compare a [op] [b] pos) ρ m := by
  intro ps s S Q r w
  refine (zt_cmp ho we_ze we_ze hm).we ?_
  refine fl_two h r w fun x y s' S' r' w' => ?_
  obtain ⟨d, e, q⟩ := sat_ofO w'
  exact hg x y d S' _ e (q S' r')
theorem f_cmp {op : CmpOp} {rr : ZR2} {g : PyData → PyData → Option Bool} {m : M Bool} (ho : ZOp C.X (compareOp op) rr) (hg : Op2b rr g) (h : FL C [a, b] ρ [] m (bi2 fun x y => ofO (g x y))) (hm : behindInMarks op b = false := by first | rfl | exact nomark _) : FE C (.Compare a [op] [b] pos) ρ (ofB m) := by
  intro ps s S Q r w
  refine (ze_cmp ho we_ze we_ze hm).we ?_
  refine fl_two h r (sat_bind w) fun x y s' S' r' w' => ?_
  obtain ⟨d, e, q⟩ := sat_ofO w'
  exact hg x y d S' _ e (q S' r')
theorem t_val {m : M PyData} (h : FE C e ρ m) (he : ∀ whole, isTrue e C.X.env whole = (do let v ← whole; standAt e.pos; holding [v] (truthy v)) := by intro _; rfl) : FT C e ρ (m >>= toB) := by
  intro ps s S Q r w
  refine (zt_val we_ze he).we ?_
  refine h ps s S _ r ((sat_bind w).mono (fun d s' h S' r' => ?_) fun _ _ h => h)
  cases d with
  | bool b => exact h S' r'
  | _ => exact h.elim
theorem t_not {m : M Bool} (h : FT C a ρ m) : FT C (.UnaryOp .Not a pos) ρ (tNot m) := by
  intro ps s S Q r w
  refine (zt_not wt_zt).we ?_
  exact h ps s S _ r ((sat_bind w).mono (fun d s' h S' r' => h S' r') fun _ _ h => h)
variable {rest : List Expr} {ma mb : M Bool}
theorem w_and1 (h : FT C a ρ ma) : FW C (.BoolOp .And [a] pos) ρ ma := fun ps s S Q r w => (zw_and1 wt_zt).we (h ps s S _ r w)
theorem w_or1 (h : FT C a ρ ma) : FW C (.BoolOp .Or [a] pos) ρ ma := fun ps s S Q r w => (zw_or1 wt_zt).we (h ps s S _ r w)
theorem w_and (h : FT C a ρ ma) (h2 : FW C (.BoolOp .And (b :: rest) pos) ρ mb) : FW C (.BoolOp .And (a :: b :: rest) pos) ρ (tAnd ma mb) := by
  intro ps s S Q r w
  refine (zw_and wt_zt ww_zw).we ?_
  refine h ps s S _ r ((sat_bind w).mono (fun d s' w' S' r' => ?_) fun _ _ h => h)
  cases d with
  | true => exact h2 ps s' S' _ r' w'
  | false => exact w' S' r'
theorem w_or (h : FT C a ρ ma) (h2 : FW C (.BoolOp .Or (b :: rest) pos) ρ mb) : FW C (.BoolOp .Or (a :: b :: rest) pos) ρ (tOr ma mb) := by
  intro ps s S Q r w
  refine (zw_or wt_zt ww_zw).we ?_
  refine h ps s S _ r ((sat_bind w).mono (fun d s' w' S' r' => ?_) fun _ _ h => h)
  cases d with
  | true => exact w' S' r'
  | false => exact h2 ps s' S' _ r' w'
theorem FW.t (h : FW C a ρ ma) : FT C a ρ ma := fun ps s S Q r w => (ww_zw.t).we (h ps s S _ r w)
theorem f_one {op} {m : M PyData} (h : FE C a ρ m) : FE C (.BoolOp op [a] pos) ρ m := fun ps s S Q r w => (ze_one we_ze).we (h ps s S _ r w)
def andV (m n : M PyData) : M PyData := m >>= fun x => toB x >>= fun b => bif b then n else pure (.bool false)
def orV (m n : M PyData) : M PyData := m >>= fun x => toB x >>= fun b => bif b then pure (.bool true) else n
variable {na nb : M PyData}
theorem f_and (h : FE C a ρ na) (h2 : FE C (.BoolOp .And (b :: rest) pos) ρ nb) : FE C (.BoolOp .And (a :: b :: rest) pos) ρ (andV na nb) := by
  intro ps s S Q r w
  refine (ze_and we_ze we_ze).we ?_
  refine h ps s S _ r ((sat_bind w).mono (fun d s' w' S' r' => ?_) fun _ _ h => h)
  cases d with
  | bool b =>
    cases b with
    | true => exact h2 ps s' S' _ r' w'
    | false => exact w' S' r'
  | _ => exact w'.elim
def notV (m : M PyData) : M PyData := m >>= fun x => toB x >>= fun b => pure (.bool (!b))
theorem f_not (h : FE C a ρ na) : FE C (.UnaryOp .Not a pos) ρ (notV na) := by
  intro ps s S Q r w
  refine (ze_not we_ze).we ?_
  refine h ps s S _ r ((sat_bind w).mono (fun d s' w' S' r' => ?_) fun _ _ h => h)
  cases d with
  | bool b => exact w' S' r'
  | _ => exact w'.elim
theorem f_if (hc : FT C c ρ ma) (h : FE C a ρ na) (h2 : FE C b ρ nb) : FE C (.IfExp c a b pos) ρ (ma >>= fun t => bif t then na else nb) := by
  intro ps s S Q r w
  refine (ze_if wt_zt we_ze we_ze).we ?_
  refine hc ps s S _ r ((sat_bind w).mono (fun d s' w' S' r' => ?_) fun _ _ h => h)
  cases d with
  | true => exact h ps s' S' _ r' w'
  | false => exact h2 ps s' S' _ r' w'
theorem f_neg (h : FL C [a] ρ [] na (un negM)) : FE C (.UnaryOp .USub a pos) ρ na := by
  intro ps s S Q r w
  refine (ze_neg we_ze).we ?_
  have := h ps s S (fun zs S' => match zs with | [x] => (match x with | .d (.int i) => Q (zi (-i)) S' | _ => False) | _ => True) _ r w fun ds s' S' r' w' => by
    rw [List.nil_append] at w'
    unfold un at w'
    split at w'
    · obtain ⟨d, e, q⟩ := sat_ofO w'
      unfold negO at e
      split at e <;> cases e
      exact q S' r'
    · exact w'.elim
  exact this
theorem ixO_int {x y d : PyData} (e : ixO x y = some d) : ∃ i, y = .int i := by
  unfold ixO at e
  split at e
  · exact ⟨_, rfl⟩
  · exact ⟨_, rfl⟩
  · cases e
theorem f_ix (h : FL C [a, b] ρ [] na (row2 ixM)) (hs : PlainIx b := by intro _ _; rfl) : FE C (.Subscript a b pos) ρ na := by
  intro ps s S Q r w
  refine (ze_ix we_ze we_ze hs).we ?_
  have := h ps s S (fun zs S' => match zs with | [x, y] => rZIx x y S' Q | _ => True) _ r w fun ds s' S' r' w' => by
    rw [List.nil_append] at w'
    unfold row2 at w'
    split at w'
    · obtain ⟨d, e, q⟩ := sat_ofO w'
      unfold ixO at e
      split at e
      · show rZIx _ _ _ _; unfold rZIx; simp only [Vl.den, rowZ]; rw [e]; exact q S' r'
      · show rZIx _ _ _ _; unfold rZIx; simp only [Vl.den, rowZ]; rw [e]; exact q S' r'
      · cases e
    · obtain ⟨xs, ex, w'⟩ := sat_getC (sat_bind w')
      obtain ⟨d, e, q⟩ := sat_ofO w'
      obtain ⟨i, rfl⟩ := ixO_int e
      have e : atI xs i = some d := e
      have o := (r'.at ex).2
      show rZIx _ _ _ _; unfold rZIx; simp only [Vl.den, rowZ]; rw [o]; simp only []; rw [e]; exact q S' r'
    · obtain ⟨d, e, q⟩ := sat_ofO w'
      obtain ⟨i, rfl⟩ := ixO_int e
      rename_i _ xs
      have e : atI xs i = some d := e
      show rZIx _ _ _ _; unfold rZIx; simp only [Vl.den, rowZ]; rw [e]; exact q S' r'
    · exact w'.elim
  exact this
end
end ZL
namespace V
open PySem PySem.Spec ZL L2
abbrev pN : PyData → Option PyData := some
def pT2 {α β : Type} (p : PyData → Option α) (q : PyData → Option β) : PyData → Option (α × β)
  | .tuple [x, y] => (p x).bind fun a => (q y).bind fun b => some (a, b)
  | _ => none
def pT3 {α β γ : Type} (p : PyData → Option α) (q : PyData → Option β) (r : PyData → Option γ) : PyData → Option (α × β × γ)
  | .tuple [x, y, z] => (p x).bind fun a => (q y).bind fun b => (r z).bind fun c => some (a, b, c)
  | _ => none
def compP {T : Type} (mt : PyData → Option T) (c : T → M Bool) (f : T → M PyData) : List PyData → M (List PyData)
  | [] => pure []
  | x :: r => ofO (mt x) >>= fun t => c t >>= fun b => bif b then (f t >>= fun y => compP mt c f r >>= fun ys => pure (y :: ys)) else compP mt c f r
def comp {T : Type} (mt : PyData → Option T) (c : T → M Bool) (f : T → M PyData) (xs : List PyData) : M (List PyData) := noex (if xs.length ≤ line then compP mt c f xs else bad)
abbrev yep {T : Type} : T → M Bool := fun _ => pure true
def setl (ρ : VEnv) (l : List (Nat × PyData)) : VEnv := l.foldl (fun ρ p => ρ.set p.1 (some (.d p.2))) ρ
def setz (ρ : ZEnv) (l : List (Nat × PyData)) : ZEnv := l.foldl (fun ρ p => ρ.set p.1 (some (.d p.2))) ρ
theorem den_setl (ps : List Addr) : ∀ (l : List (Nat × PyData)) (ρ : VEnv), VEnv.den ps (setl ρ l) = setz (VEnv.den ps ρ) l
  | [], _ => rfl
  | p :: l, ρ => by
    show VEnv.den ps (setl (ρ.set p.1 (some (.d p.2))) l) = setz ((VEnv.den ps ρ).set p.1 (some (.d p.2))) l
    rw [den_setl ps l, den_set]; rfl
theorem fg_setz : ∀ (l : List (Nat × PyData)) {a b : ZEnv}, Fgz a b → Fgz (setz a l) (setz b l)
  | [], _, _, h => h
  | p :: l, a, b, h => fg_setz l (h.set p.1 _)
def rangeO : PyData → PyData → Option (List PyData)
  | .int i, .int j => if decide (-(2 ^ 62) ≤ i) && decide (i < 2 ^ 62) && decide (-(2 ^ 62) ≤ j) && decide (j < 2 ^ 62) then some (rangeD i (j - i).toNat) else none
  | _, _ => none
abbrev rangeM (x y : PyData) : M (List PyData) := ofO (rangeO x y)
theorem rangeO_inv {x y : PyData} {xs : List PyData} (h : rangeO x y = some xs) : ∃ i j, x = .int i ∧ y = .int j ∧ (-(2 ^ 62) ≤ i ∧ i < 2 ^ 62) ∧ (-(2 ^ 62) ≤ j ∧ j < 2 ^ 62) ∧ xs = rangeD i (j - i).toNat := by
  unfold rangeO at h
  split at h
  · split at h
    · rename_i i j h1
      simp only [Bool.and_eq_true, decide_eq_true_eq] at h1
      cases h
      exact ⟨i, j, rfl, rfl, ⟨h1.1.1.1, h1.1.1.2⟩, ⟨h1.1.2, h1.2⟩, rfl⟩
    · cases h
  · cases h
abbrev rowM (x : PyData) : M (List PyData) := ofO (rowD x)
end V
namespace ZL
open PySem PySem.Spec PyProof.Rows L2 V
def FA (C : Ct) (es : List Expr) (ρ : VEnv) (acc : List Vl) {β : Type} (m : M β) (k : List Vl → M β) : Prop :=
  ∀ ps s S (Q : List Z → Sto → Prop) (R : β → Cells → Prop), Rel C.G ps s S → sat (m s) R (XOk C.X.mg C.G C.EZ) → (∀ ds s' S', Rel C.G ps s' S' → sat (k (acc ++ ds) s') R (XOk C.X.mg C.G C.EZ) → Q (ds.map (Vl.den ps)) S') → WAs C.X C.B es (VEnv.den ps ρ) S Q
section
variable {C : Ct} {e a b c : Expr} {es : List Expr} {ρ : VEnv} {pos : Pos}
theorem fa_nil {β : Type} {acc : List Vl} {m : M β} {k : List Vl → M β} (h : m = k acc := by rfl) : FA C [] ρ acc m k := by
  subst h
  exact fun ps s S Q R r w q => za_nil.we (q [] s S r (by rw [List.append_nil]; exact w))
theorem fa_cons {β : Type} {acc : List Vl} {me : M PyData} {m : PyData → M β} {k : List Vl → M β} (he : FE C e ρ me) (hr : ∀ x, FA C es ρ (acc ++ [.d x]) (m x) k) (hs : starEach (e :: es) C.X.env = (false, eval e C.X.env) :: starEach es C.X.env := by rfl) : FA C (e :: es) ρ acc (me >>= m) k := by
  intro ps s S Q R r w q
  refine (za_cons we_ze wa_za hs).we ?_
  refine he ps s S _ r ((sat_bind w).mono (fun x s1 h S1 r1 => ?_) fun _ _ h => h)
  exact hr x ps s1 S1 _ R r1 h fun ds s' S' r' h' => q (.d x :: ds) s' S' r' (by rw [List.append_assoc] at h'; exact h')
theorem fa_at {β : Type} {acc : List Vl} {x : PyData} {m : M β} {k : List Vl → M β} (he : FE C e ρ (pure x)) (hr : FA C es ρ (acc ++ [.d x]) m k) (hs : starEach (e :: es) C.X.env = (false, eval e C.X.env) :: starEach es C.X.env := by rfl) : FA C (e :: es) ρ acc m k := by
  intro ps s S Q R r w q
  refine (za_cons we_ze wa_za hs).we ?_
  refine he ps s S _ r ?_
  intro S1 r1
  exact hr ps s S1 _ R r1 w fun ds s' S' r' h' => q (.d x :: ds) s' S' r' (by rw [List.append_assoc] at h'; exact h')
theorem fa_c {β : Type} {acc : List Vl} {m : M β} {k : List Vl → M β} (i : Nat) (v : Vl) {x : Str} {pos : Pos} (hr : FA C es ρ (acc ++ [v]) m k) (hρ : ρ[i]? = some (some v) := by rfl) (hs : starEach (.Name x pos :: es) C.X.env = (false, eval (.Name x pos) C.X.env) :: starEach es C.X.env := by rfl) (hN : C.X.N[i]? = some x := by rfl) (hv : Vis C.X.env.scope x := by first | exact Or.inl rfl | exact Or.inr (Or.inl rfl) | exact Or.inr (Or.inr rfl)) (hd : (x == ("__debug__" : Str)) = false := by decide)
    (hcd : (x == ("__classdict__" : Str)) = false := by decide) : FA C (.Name x pos :: es) ρ acc m k := by
  intro ps s S Q R r w q
  refine (za_cons we_ze wa_za hs).we ?_
  refine (zv i hN hv hd hcd).we ?_
  show zVar i _ _ _
  unfold zVar
  rw [den_get ps ρ i hρ]
  exact hr ps s S _ R r w fun ds s' S' r' h' => q (v :: ds) s' S' r' (by rw [List.append_assoc] at h'; exact h')
theorem datas_map {ps : List Addr} : ∀ {l : List Vl} {ds : List PyData}, datV l = some ds → datas (l.map (Vl.den ps)) = some ds
  | [], _, e => e
  | .d x :: r, ds, e => by
    simp only [datV, Option.map_eq_some_iff] at e
    obtain ⟨es, e1, e2⟩ := e
    show (datas (r.map (Vl.den ps))).map (x :: ·) = some ds
    rw [datas_map e1]
    exact congrArg some e2
  | .c _ :: _, _, e => by simp [datV] at e
  | .k _ :: _, _, e => by simp [datV] at e
  | .ob _ :: _, _, e => by simp [datV] at e
theorem sat_if {α : Type} {b : Prop} [Decidable b] {a : α} {s : Cells} {Q : α → Cells → Prop} {E : Exn → Cells → Prop} (h : sat ((if b then (pure a : M α) else bad) s) Q E) : b ∧ Q a s := by
  split at h
  · rename_i hb; exact ⟨hb, h⟩
  · exact h.elim
theorem f_tup {x1} {m : M PyData} (h : FA C es ρ [] m tupK) : FE C (.Tuple es x1 pos) ρ m := by
  intro ps s S Q r w
  refine (ze_tup wa_za).we ?_
  refine h ps s S _ _ r w fun ds s' S' r' w' => ?_
  rw [List.nil_append] at w'
  unfold tupK at w'
  cases e : datV ds with
  | none => rw [e] at w'; exact w'.elim
  | some xs =>
    rw [e] at w'
    obtain ⟨hz, q⟩ := sat_if w'
    rw [datas_map e]
    exact ⟨by rw [← line_eq]; exact hz, q S' r'⟩
theorem f_lst {m : M PyData} (h : FA C es ρ [] m lstK) : FE C (.List es pos) ρ m := by
  intro ps s S Q r w
  refine (ze_lst wa_za).we ?_
  refine h ps s S _ _ r w fun ds s' S' r' w' => ?_
  rw [List.nil_append] at w'
  unfold lstK at w'
  cases e : datV ds with
  | none => rw [e] at w'; exact w'.elim
  | some xs =>
    rw [e] at w'
    obtain ⟨hz, q⟩ := sat_if w'
    rw [datas_map e]
    exact ⟨by rw [← line_eq]; exact hz, q S' r'⟩
def Fresh (G : Gd) (ps : List Addr) (s : Cells) (S : Sto) (p : Addr) (xs : List PyData) : Prop := S p = some (.lst xs) ∧ (∀ (j : Nat) (c : Cell), s[j]? = some (some c) → ps[j]? ≠ some p) ∧ p ∉ G.p ∧ G.S p = none
def FN (C : Ct) (e : Expr) (ρ : VEnv) (m : M (List PyData)) : Prop := ∀ ps s S (Q : ZQ), Rel C.G ps s S → sat (m s) (fun xs s' => ∀ S' p, Rel C.G ps s' S' → Fresh C.G ps s' S' p xs → Q (.r p) S') (XOk C.X.mg C.G C.EZ) → WE C.X C.B e (VEnv.den ps ρ) S Q
theorem own_put_new {S : Sto} {p : Addr} {xs : List PyData} (o : OwnOk S) (h : S p = none) : OwnOk (S.put p (.lst xs)) := fun b a m e => by
  have ne : b ≠ p := fun z => by subst z; rw [put_same] at e; cases e
  rw [put_ne ne] at e
  obtain ⟨dss, q⟩ := o b a m e
  exact ⟨dss, by rw [put_ne fun z => by rw [z, h] at q; cases q]; exact q⟩
def Cell.like : Cell → Cell → Prop
  | .lst _, .lst _ => True
  | .tab _, .tab _ => True
  | .dct _, .dct _ => True
  | _, _ => False
theorem own_put {S : Sto} {p : Addr} {c c' : Cell} (o : OwnOk S) (h : S p = some c) (l : Cell.like c c') : OwnOk (S.put p c') := fun b a m e => by
  have ne : b ≠ p := fun z => by subst z; rw [put_same] at e; cases e; cases c <;> exact l
  rw [put_ne ne] at e
  obtain ⟨dss, q⟩ := o b a m e
  by_cases z : a = p
  · subst z
    rw [h] at q; cases q
    cases c' with
    | tab d => exact ⟨d, put_same⟩
    | lst _ => exact l.elim
    | own _ _ => exact l.elim
    | tbl _ => exact l.elim
    | dct _ => exact l.elim
  · exact ⟨dss, by rw [put_ne z]; exact q⟩
theorem Rel.new {G : Gd} {ps : List Addr} {s : Cells} {S : Sto} (r : Rel G ps s S) {p : Addr} {xs : List PyData} (h : S p = none) : Rel G ps s (S.put p (.lst xs)) := by
  refine ⟨r.len, fun j c' a e1 e2 => ?_, r.inj, fun a c' e1 e2 => ?_, r.loc, ?_, r.par, own_put_new r.owS h, r.owG, fun a ha q m e => ?_, r.cn⟩
  · have := r.own j c' a e1 e2
    rw [put_ne (fun z => by rw [z, h] at this; cases this)]
    exact this
  · have := r.fr a c' e1 e2
    rw [put_ne (fun z => by rw [z, h] at this; cases this)]
    exact this
  · intro a ha
    by_cases q : a = p
    · subst q; rw [put_same]; exact fun z => nomatch z
    · rw [put_ne q]; exact r.gp a ha
  · by_cases z : a = p
    · subst z; rw [put_same] at e; cases e
    · rw [put_ne z] at e; exact r.gq a ha q m e
theorem Rel.fresh {G : Gd} {ps : List Addr} {s : Cells} {S : Sto} (r : Rel G ps s S) {p : Addr} {xs : List PyData} (h : S p = none) : Fresh G ps s (S.put p (.lst xs)) p xs := by
  have q : p ∉ G.p := fun q => r.gp p q h
  refine ⟨put_same, fun j c e1 e2 => ?_, q, ?_⟩
  · rw [r.own j c p e1 e2] at h; cases h
  · cases e : G.S p with
    | none => rfl
    | some c => rw [r.fr p c q e] at h; cases h
def lstN (l : List Vl) : M (List PyData) := match datV l with
  | some ds => if ds.length ≤ line then pure ds else bad
  | none => bad
theorem n_lst {m : M (List PyData)} (h : FA C es ρ [] m lstN) : FN C (.List es pos) ρ m := by
  intro ps s S Q r w
  refine (ze_lstM wa_za).we ?_
  refine h ps s S _ _ r w fun ds s' S' r' w' => ?_
  rw [List.nil_append] at w'
  unfold lstN at w'
  cases e : datV ds with
  | none => rw [e] at w'; exact w'.elim
  | some xs =>
    rw [e] at w'
    obtain ⟨hz, q⟩ := sat_if w'
    rw [datas_map e]
    exact ⟨by rw [← line_eq]; exact hz, fun p hp => q _ p (r'.new hp) (r'.fresh hp)⟩
theorem Rel.lay {G : Gd} {ps : List Addr} {s : Cells} {S : Sto} {p : Addr} {xs : List PyData} (r : Rel G ps s S) (f : Fresh G ps s S p xs) (j : Nat) (hj : j < s.length) (hl : G.p.length ≤ j) : Rel G (ps.set j p) (s.set j (some (.lst xs))) S := by
  have get : ∀ {i : Nat} {c : Cell} {a : Addr}, (s.set j (some (.lst xs)))[i]? = some (some c) → (ps.set j p)[i]? = some a → (i = j ∧ c = .lst xs ∧ a = p) ∨ (i ≠ j ∧ s[i]? = some (some c) ∧ ps[i]? = some a) := by
    intro i c a e1 e2
    by_cases q : i = j
    · subst q
      rw [List.getElem?_set_self hj] at e1
      rw [List.getElem?_set_self (by rw [r.len]; exact hj)] at e2
      cases e1; cases e2
      exact .inl ⟨rfl, rfl, rfl⟩
    · rw [List.getElem?_set_ne (Ne.symm q)] at e1 e2
      exact .inr ⟨q, e1, e2⟩
  refine ⟨by rw [List.length_set, List.length_set]; exact r.len, fun i c a e1 e2 => ?_, fun i k ci ck a e1 e2 e3 e4 => ?_, r.fr, fun i c a e1 e2 => ?_, r.gp, by rw [List.take_set_of_le hl]; exact r.par, r.owS, r.owG, r.gq, fun i q m e => ?_⟩
  · rcases get e1 e2 with ⟨_, rfl, rfl⟩ | ⟨_, h1, h2⟩
    · exact f.1
    · exact r.own i c a h1 h2
  · rcases get e1 e3 with ⟨rfl, _, rfl⟩ | ⟨n1, h1, h2⟩
    · rcases get e2 e4 with ⟨rfl, _, _⟩ | ⟨n2, h3, h4⟩
      · rfl
      · exact absurd h4 (f.2.1 k ck h3)
    · rcases get e2 e4 with ⟨rfl, _, rfl⟩ | ⟨n2, h3, h4⟩
      · exact absurd h2 (f.2.1 i ci h1)
      · exact r.inj i k ci ck a h1 h3 h2 h4
  · rcases get e1 e2 with ⟨rfl, rfl, rfl⟩ | ⟨_, h1, h2⟩
    · exact .inr ⟨hl, f.2.2⟩
    · exact r.loc i c a h1 h2
  · by_cases z : i = j
    · subst z; rw [List.getElem?_set_self hj] at e; cases e
    · rw [List.getElem?_set_ne (Ne.symm z)] at e; exact r.cn i q m e
theorem Rel.upd {G : Gd} {ps : List Addr} {s : Cells} {S : Sto} {j : Nat} {c c' : Cell} (r : Rel G ps s S) (h : s[j]? = some (some c)) (l : Cell.like c c' := by trivial) : Rel G ps (s.set j (some c')) (S.put (ps.getD j 0) c') := by
  have hj : j < s.length := (List.getElem?_eq_some_iff.mp h).1
  obtain ⟨e0, o0⟩ := r.at h
  have get : ∀ {i : Nat} {d : Cell}, (s.set j (some c'))[i]? = some (some d) → (i = j ∧ d = c') ∨ (i ≠ j ∧ s[i]? = some (some d)) := by
    intro i d e1
    by_cases q : i = j
    · subst q
      rw [List.getElem?_set_self hj] at e1
      cases e1
      exact .inl ⟨rfl, rfl⟩
    · rw [List.getElem?_set_ne (Ne.symm q)] at e1
      exact .inr ⟨q, e1⟩
  refine ⟨by rw [List.length_set]; exact r.len, fun i d a e1 e2 => ?_, fun i k ci ck a e1 e2 e3 e4 => ?_, fun a d n e => ?_, fun i d a e1 e2 => ?_, fun a ha => ?_, r.par, own_put r.owS o0 l, r.owG, fun a ha q m e => ?_, fun i q m e => ?_⟩
  · rcases get e1 with ⟨rfl, rfl⟩ | ⟨n, h1⟩
    · rw [e0] at e2; cases e2; exact put_same
    · rw [put_ne (fun z => n (r.inj i j _ _ a h1 h e2 (by rw [z]; exact e0)))]
      exact r.own i d a h1 e2
  · have live : ∀ {i : Nat} {d : Cell}, (s.set j (some c'))[i]? = some (some d) → ∃ d', s[i]? = some (some d') := by
      intro i d e
      rcases get e with ⟨rfl, rfl⟩ | ⟨_, h1⟩
      · exact ⟨_, h⟩
      · exact ⟨_, h1⟩
    obtain ⟨d1, h1⟩ := live e1
    obtain ⟨d2, h2⟩ := live e2
    exact r.inj i k d1 d2 a h1 h2 e3 e4
  · have ne : a ≠ ps.getD j 0 := by
      intro z
      rcases r.loc j c _ h e0 with q | q
      · exact n (z ▸ q.2)
      · rw [← z] at q; rw [q.2.2] at e; cases e
    rw [put_ne ne]
    exact r.fr a d n e
  · rcases get e1 with ⟨rfl, rfl⟩ | ⟨n, h1⟩
    · exact r.loc i c a h e2
    · exact r.loc i d a h1 e2
  · by_cases q : a = ps.getD j 0
    · rw [q, put_same]; exact fun z => nomatch z
    · rw [put_ne q]; exact r.gp a ha
  · by_cases z : a = ps.getD j 0
    · rw [z, put_same] at e; cases e; cases c <;> exact l
    · rw [put_ne z] at e; exact r.gq a ha q m e
  · rcases get e with ⟨_, h1⟩ | ⟨_, h1⟩
    · subst h1; cases c <;> exact l
    · exact r.cn i q m h1
theorem Rel.drop {G : Gd} {ps : List Addr} {s : Cells} {S : Sto} (r : Rel G ps s S) (j : Nat) : Rel G ps (s.set j none) S := by
  have get : ∀ {i : Nat} {d : Cell}, (s.set j none)[i]? = some (some d) → s[i]? = some (some d) := by
    intro i d e1
    by_cases q : i = j
    · subst q
      rw [List.getElem?_set] at e1
      split at e1
      · split at e1 <;> cases e1
      · exact (absurd rfl (by assumption))
    · rw [List.getElem?_set_ne (Ne.symm q)] at e1
      exact e1
  exact ⟨by rw [List.length_set]; exact r.len, fun i d a e1 e2 => r.own i d a (get e1) e2, fun i k ci ck a e1 e2 e3 e4 => r.inj i k ci ck a (get e1) (get e2) e3 e4, r.fr, fun i d a e1 e2 => r.loc i d a (get e1) e2, r.gp, r.par, r.owS, r.owG, r.gq, fun i q m e => r.cn i q m (get e)⟩
def VCl (r : ZC1) (k : List Vl → M PyData) : Prop := ∀ (C : Ct) ps s S vs (Q : ZQ), Rel C.G ps s S → sat (k vs s) (fun d s' => ∀ S', Rel C.G ps s' S' → Q (.d d) S') (XOk C.X.mg C.G C.EZ) → r (vs.map (Vl.den ps)) S Q
variable {x : Str} {p : Pos} {id T : String} {rr : ZC1} {k : List Vl → M PyData} {kN : List Vl → M (List PyData)} {m : M PyData} {mN : M (List PyData)}
theorem f_callB (hc : ZCl C.X (.builtin id) rr) (hk : VCl rr k) (hm : C.X.mg x = none) (hv : bootBuiltins x = some (.builtin id)) (ha : FA C (e :: es) ρ [] m k) (hg : Gl C.X x := by rfl) (hn : x ≠ "__name__" := by decide) (hdb : (x == ("__debug__" : Str)) = false := by decide)
    (he : starEach (e :: es) C.X.env = (false, eval e C.X.env) :: starEach es C.X.env := by rfl) (hpl : (backTo pos (starEach es C.X.env)).any (·.1) = false := by rfl) : FE C (.Call (.Name x p) (e :: es) [] pos) ρ m := by
  intro ps s S Q r w
  refine (ze_callB hc hg hm hv wa_za hn hdb he hpl).we ?_
  exact ha ps s S _ _ r w fun ds s' S' r' w' => hk C ps s' S' ds Q r' (by rw [List.nil_append] at w'; exact w')
theorem f_callT (hc : ZCl C.X (.type T) rr) (hk : VCl rr k) (hm : C.X.mg x = none) (hv : bootBuiltins x = some (.type T)) (ha : FA C (e :: es) ρ [] m k) (hg : Gl C.X x := by rfl) (hn : x ≠ "__name__" := by decide) (hdb : (x == ("__debug__" : Str)) = false := by decide)
    (he : starEach (e :: es) C.X.env = (false, eval e C.X.env) :: starEach es C.X.env := by rfl) (hpl : (backTo pos (starEach es C.X.env)).any (·.1) = false := by rfl) : FE C (.Call (.Name x p) (e :: es) [] pos) ρ m := by
  intro ps s S Q r w
  refine (ze_callTy hc hg hm hv wa_za hn hdb he hpl).we ?_
  exact ha ps s S _ _ r w fun ds s' S' r' w' => hk C ps s' S' ds Q r' (by rw [List.nil_append] at w'; exact w')
theorem v_un {r : ZC1} {g : PyData → Option PyData} (h : ∀ x d S Q, g x = some d → Q (.d d) S → r [.d x] S Q) : VCl r (un fun x => ofO (g x)) := by
  intro C ps s S vs Q r' w
  unfold un at w
  split at w
  · obtain ⟨d, e, q⟩ := sat_ofO w; exact h _ d S Q e (q S r')
  · exact w.elim
theorem v_bin {r : ZC1} {g : PyData → PyData → Option PyData} (h : ∀ x y d S Q, g x y = some d → Q (.d d) S → r [.d x, .d y] S Q) : VCl r (bi2 fun x y => ofO (g x y)) := by
  intro C ps s S vs Q r' w
  unfold bi2 at w
  split at w
  · obtain ⟨d, e, q⟩ := sat_ofO w; exact h _ _ d S Q e (q S r')
  · exact w.elim
theorem row_at {G : Gd} {ps : List Addr} {s : Cells} {S : Sto} {j : Nat} {xs : List PyData} (r : Rel G ps s S) (ex : s[j]? = some (some (.lst xs))) : rowZ S (Vl.den ps (.c j)) = some xs := by
  show (match S (ps.getD j 0) with | some (.lst xs) => some xs | _ => none) = some xs
  rw [(r.at ex).2]
theorem v_row {r : ZC1} {g : PyData → Option PyData} (h : ∀ x d S Q, g x = some d → Q (.d d) S → r [.d x] S Q) (h2 : ∀ z xs d S Q, rowZ S z = some xs → (∀ x, z ≠ .d x) → g (.list xs) = some d → Q (.d d) S → r [z] S Q) : VCl r (row1 fun x => ofO (g x)) := by
  intro C ps s S vs Q r' w
  unfold row1 at w
  split at w
  · obtain ⟨d, e, q⟩ := sat_ofO w; exact h _ d S Q e (q S r')
  · obtain ⟨xs, ex, w⟩ := sat_getC (sat_bind w)
    obtain ⟨d, e, q⟩ := sat_ofO w
    refine h2 _ xs d S Q ?_ (fun _ z => nomatch z) e (q S r')
    exact row_at r' ex
  · obtain ⟨d, e, q⟩ := sat_ofO w
    exact h2 (.k _) _ d S Q rfl (fun _ z => nomatch z) e (q S r')
  · exact w.elim
theorem v_abs : VCl rZAbs (un absM) := v_un (by
  intro x d S Q e q; unfold absO at e; split at e <;> cases e; exact q)
theorem v_max : VCl rZMax (bi2 maxM) := v_bin (by
  intro x y d S Q e q; unfold maxO at e; split at e <;> cases e; exact q)
theorem v_min : VCl rZMin (bi2 minM) := v_bin (by
  intro x y d S Q e q; unfold minO at e; split at e <;> cases e; exact q)
theorem v_int : VCl rZInt (un intM) := v_un (by
  intro x d S Q e q; unfold intO at e; split at e <;> cases e <;> exact q)
theorem v_len : VCl rZLen (row1 lenM) := v_row (by
    intro x d S Q e q
    unfold lenO at e
    split at e
    · split at e <;> cases e; rename_i h; rw [line_eq] at h; exact ⟨h, q⟩
    · cases e; exact q
    · cases e; exact q
    · cases e) (by
    intro z xs d S Q e n e2 q
    cases e2
    cases z with
    | d x => exact absurd rfl (n x)
    | r a => show rZLen _ _ _; unfold rZLen; simp only []; rw [e]; exact q
    | k ys => cases e; exact q)
theorem v_list : VCl rZList (row1 listM) := v_row (by
    intro x d S Q e q
    unfold listO at e
    obtain ⟨xs, e1, e2⟩ := Option.map_eq_some_iff.mp e
    subst e2
    unfold rowD at e1
    split at e1 <;> cases e1 <;> exact q) (by
    intro z xs d S Q e n e2 q
    cases e2
    show rZList _ _ _; unfold rZList; simp only []; rw [e]; exact q)
theorem v_all : VCl rZAll (un allM) := v_un (by
  intro x d S Q e q
  unfold allO at e
  split at e
  · obtain ⟨bs, e1, e2⟩ := Option.map_eq_some_iff.mp e
    subst e2
    exact ⟨bs, by rw [boolsZ_map e1], q⟩
  · cases e)
theorem v_repr : VCl rZRepr (un reprM) := v_un (by
  intro x d S Q e q
  unfold reprO at e
  split at e <;> cases e
  rename_i h
  unfold reprOk at h
  simp only [Bool.and_eq_true, decide_eq_true_eq, Bool.or_eq_true, Bool.not_eq_true'] at h
  exact ⟨⟨h.1.1.1, h.1.1.2, h.1.2, by rw [← line_eq]; exact h.2⟩, q⟩)
theorem f_isi (T : Ty7) {c : Expr} (hm : C.X.mg "isinstance" = none) (hc : PE C.X c (tC (.ty T.name))) (h : FL C [e] ρ [] m (un fun x => pure (isO T x))) (hg : Gl C.X "isinstance" := by rfl)
    (hs : starEach (e :: [c]) C.X.env = (false, eval e C.X.env) :: starEach [c] C.X.env := by rfl) (hs2 : starEach [c] C.X.env = (false, eval c C.X.env) :: starEach [] C.X.env := by rfl) (hpl : (backTo pos (starEach [c] C.X.env)).any (·.1) = false := by rfl) : FE C (.Call (.Name "isinstance" p) [e, c] [] pos) ρ m := by
  intro ps s S Q r w
  refine (ze_isi T hm we_ze hc hg hs hs2 hpl).we ?_
  have := h ps s S (fun zs S' => match zs with | [z] => thereZ S' z ∧ Q (zb (isZ T z)) S' | _ => True) _ r w fun ds s' S' r' w' => by
    rw [List.nil_append] at w'
    unfold un at w'
    split at w'
    · exact ⟨trivial, by have := w' S' r'; cases T <;> exact this⟩
    · exact w'.elim
  exact this
theorem slice_ok {z : PyData} {lo hi : Option Int} {d : PyData} {S : Sto} {Q : ZQ} (h : sliceO z lo hi = some d) (q : Q (.d d) S) : rZSl (.d z) lo hi S Q := by
  unfold sliceO at h
  split at h <;> cases h
  · exact q
  · exact q
def slL (x y : PyData) : M PyData := sliceM x (some y) none
def slH (x y : PyData) : M PyData := sliceM x none (some y)
theorem slice_row {z : Z} {xs : List PyData} {lo hi : Option Int} {d : PyData} {S : Sto} {Q : ZQ} (e : rowZ S z = some xs) (n : ∀ x, z ≠ .d x) (h : sliceO (.list xs) lo hi = some d) (q : Q (.d d) S) : rZSl z lo hi S Q := by
  cases h
  unfold rZSl
  split
  · exact absurd rfl (n _)
  · rw [e]; exact q
theorem ptO_some {y : PyData} {o : Option Int} (h : ptO (some y) = some o) : ∃ i, y = .int i ∧ o = some i := by
  unfold ptO at h
  split at h
  · rename_i e; cases e
  · rename_i e; cases e; cases h; exact ⟨_, rfl, rfl⟩
  · cases h
theorem sl_split {lo hi : Option PyData} {x d : PyData} (h : ((ptO lo).bind fun l => (ptO hi).bind fun k => sliceO x l k) = some d) : ∃ l k, ptO lo = some l ∧ ptO hi = some k ∧ sliceO x l k = some d := by
  cases e1 : ptO lo with
  | none => rw [e1] at h; cases h
  | some l =>
    rw [e1] at h
    cases e2 : ptO hi with
    | none => rw [e2] at h; cases h
    | some k => rw [e2] at h; exact ⟨l, k, rfl, rfl, h⟩
theorem f_slL {lo : Expr} {p2 : Pos} (h : FL C [e, lo] ρ [] m (row2 slL)) : FE C (.Subscript e (.Slice (some lo) none none p2) pos) ρ m := by
  intro ps s S Q r w
  refine (ze_slice we_ze (zo_some we_ze) zo_none).we ?_
  have := h ps s S (fun zs S' => match zs with | [x, y] => (match y with | .d (.int i) => rZSl x (some i) none S' Q | _ => False) | _ => True) _ r w fun ds s' S' r' w' => by
    rw [List.nil_append] at w'
    unfold row2 at w'
    split at w'
    · obtain ⟨d, e, q⟩ := sat_ofO w'
      obtain ⟨l, k, e1, e2, e3⟩ := sl_split e
      obtain ⟨i, rfl, rfl⟩ := ptO_some e1
      cases e2
      exact slice_ok e3 (q S' r')
    · obtain ⟨xs, ex, w'⟩ := sat_getC (sat_bind w')
      obtain ⟨d, e, q⟩ := sat_ofO w'
      obtain ⟨l, k, e1, e2, e3⟩ := sl_split e
      obtain ⟨i, rfl, rfl⟩ := ptO_some e1
      cases e2
      exact slice_row (row_at r' ex) (fun _ z => nomatch z) e3 (q S' r')
    · obtain ⟨d, e, q⟩ := sat_ofO w'
      obtain ⟨l, k, e1, e2, e3⟩ := sl_split e
      obtain ⟨i, rfl, rfl⟩ := ptO_some e1
      cases e2
      exact slice_row (z := .k _) rfl (fun _ z => nomatch z) e3 (q S' r')
    · exact w'.elim
  exact this
theorem f_slH {hi : Expr} {p2 : Pos} (h : FL C [e, hi] ρ [] m (row2 slH)) : FE C (.Subscript e (.Slice none (some hi) none p2) pos) ρ m := by
  intro ps s S Q r w
  refine (ze_slice we_ze zo_none (zo_some we_ze)).we ?_
  have := h ps s S (fun zs S' => match zs with | [x, y] => (match y with | .d (.int i) => rZSl x none (some i) S' Q | _ => False) | _ => True) _ r w fun ds s' S' r' w' => by
    rw [List.nil_append] at w'
    unfold row2 at w'
    split at w'
    · obtain ⟨d, e, q⟩ := sat_ofO w'
      obtain ⟨l, k, e1, e2, e3⟩ := sl_split e
      cases e1
      obtain ⟨i, rfl, rfl⟩ := ptO_some e2
      exact slice_ok e3 (q S' r')
    · obtain ⟨xs, ex, w'⟩ := sat_getC (sat_bind w')
      obtain ⟨d, e, q⟩ := sat_ofO w'
      obtain ⟨l, k, e1, e2, e3⟩ := sl_split e
      cases e1
      obtain ⟨i, rfl, rfl⟩ := ptO_some e2
      exact slice_row (row_at r' ex) (fun _ z => nomatch z) e3 (q S' r')
    · obtain ⟨d, e, q⟩ := sat_ofO w'
      obtain ⟨l, k, e1, e2, e3⟩ := sl_split e
      cases e1
      obtain ⟨i, rfl, rfl⟩ := ptO_some e2
      exact slice_row (z := .k _) rfl (fun _ z => nomatch z) e3 (q S' r')
    · exact w'.elim
  exact this
theorem f_rev {k : Nat} {p1 p2 p3 : Pos} (h : FL C [e] ρ [] m (un revM)) : FE C (.Subscript e (.Slice none none (some (.UnaryOp .USub (.Constant (.int 1) k p1) p2)) p3) pos) ρ m := by
  intro ps s S Q r w
  refine (ze_back we_ze).we ?_
  have := h ps s S (fun zs S' => match zs with | [z] => (match z with | .d (.tuple xs) => Q (zt xs.reverse) S' | _ => False) | _ => True) _ r w fun ds s' S' r' w' => by
    rw [List.nil_append] at w'
    unfold un at w'
    split at w'
    · obtain ⟨d, e, q⟩ := sat_ofO w'
      unfold revO at e
      split at e <;> cases e
      exact q S' r'
    · exact w'.elim
  exact this
end
end ZL
namespace ZL
open PySem PySem.Spec PyProof.Rows L2 V
def FI (C : Ct) (tg e : Expr) (ρ : VEnv) (m : M (List PyData)) : Prop := ∀ ps s S (Q : List PyData → List (Addr × List PyData) → Sto → Prop), Rel C.G ps s S → sat (m s) (fun xs s' => ∀ S', Rel C.G ps s' S' → Q xs [] S') (XOk C.X.mg C.G C.EZ) → WI C.X C.B tg e (VEnv.den ps ρ) S Q
section
variable {C : Ct} {e a b c tg : Expr} {es : List Expr} {ρ : VEnv} {pos p : Pos} {m : M PyData} {mi : M (List PyData)}
theorem i_row (h : FE C e ρ m) : FI C tg e ρ (m >>= rowM) := by
  intro ps s S Q r w
  refine (zi_row we_ze).we ?_
  refine h ps s S _ r ((sat_bind w).mono (fun d s' w' S' r' => ?_) fun _ _ h => h)
  obtain ⟨xs, e, q⟩ := sat_ofO w'
  have : rowZ S' (.d d) = some xs := by rw [← e]; cases d <;> rfl
  simp only [this]
  exact q S' r'
theorem i_range1 (hm : C.X.mg "range" = none) (h : FA C [a] ρ [] mi (un fun y => rangeM (.int 0) y)) (hg : Gl C.X "range" := by rfl) (hs : starEach [a] C.X.env = [(false, eval a C.X.env)] := by rfl) : FI C tg (.Call (.Name "range" p) [a] [] pos) ρ mi := by
  intro ps s S Q r w
  refine (zi_range1 hg hm wa_za hs).we ?_
  refine h ps s S _ _ r w fun ds s' S' r' w' => ?_
  rw [List.nil_append] at w'
  unfold un at w'
  split at w'
  · obtain ⟨xs, e, q⟩ := sat_ofO w'
    obtain ⟨i, j, e1, rfl, h1, h2, rfl⟩ := rangeO_inv e
    cases e1
    have w2 := q S' r'
    rw [Int.sub_zero] at w2
    exact ⟨h2, w2⟩
  · exact w'.elim
def GOk {T : Type} (g : ZG) (mt : PyData → Option T) (asg : T → List (Nat × PyData)) : Prop := ∀ x t ρ S (Q : ZEnv → Sto → Prop), mt x = some t → Q (setz ρ (asg t)) S → g (.d x) ρ S Q
theorem go_name {i : Nat} : GOk (zgName i) pN (fun x => [(i, x)]) := by
  intro x t ρ S Q e q
  cases e
  exact q
variable {α β γ δ : Type} {p1 : PyData → Option α} {p2 : PyData → Option β} {p3 : PyData → Option γ} {p4 : PyData → Option δ} {g1 g2 g3 g4 : ZG} {a1 : α → List (Nat × PyData)} {a2 : β → List (Nat × PyData)} {a3 : γ → List (Nat × PyData)} {a4 : δ → List (Nat × PyData)}
abbrev noW : XW := fun _ _ => False
abbrev Ct.blk (C : Ct) (s : Shared) (H : Hp) (scope : Scope) (A : Addr) (cl : List (Str × Addr)) (fp : List Addr) : Ct := { C with X := C.X.blk s H scope (compEnvC scope cl A C.X.env) fp, EZ := noW }
abbrev FBlk (C : Ct) (scope : Scope) (P : Ct → Prop) : Prop := ∀ (s : Shared) (H : Hp) (A : Addr) (cl : List (Str × Addr)) (fp : List Addr), P (C.blk s H scope A cl fp)
def WEb (C : Ct) (scope : Scope) (e : Expr) : ZT := fun ρ S Q => FBlk C scope fun C => WE C.X C.B e ρ S Q
def WTb (C : Ct) (scope : Scope) (e : Expr) : ZB := fun ρ S Q => FBlk C scope fun C => WT C.X C.B e ρ S Q
theorem web {scope : Scope} : Blk C.X scope fun X => ZE X C.B e (WEb C scope e) := fun s H A cl fp => ⟨fun q w s H A cl fp => we_ze.mono q (w s H A cl fp), PE.imp we_ze.pe fun σ H' Q ⟨ρ, S, hE, hS, w⟩ => ⟨ρ, S, hE, hS, w s H A cl fp⟩⟩
theorem wtb {scope : Scope} : Blk C.X scope fun X => ZTe X C.B e (WTb C scope e) := fun s H A cl fp => ⟨fun q w s H A cl fp => wt_zt.mono q (w s H A cl fp), PT.imp wt_zt.pt fun σ H' Q ⟨ρ, S, hE, hS, w⟩ => ⟨ρ, S, hE, hS, w s H A cl fp⟩⟩
def FTs (C : Ct) (scope : Scope) (ifs : List Expr) {T : Type} (ρ : T → VEnv) (c : T → M Bool) : Prop := (ifs = [] ∧ c = yep) ∨ (∃ e, ifs = [e] ∧ FBlk C scope fun C => ∀ t, FT C e (ρ t) (c t))
theorem ts_nil {scope : Scope} {T : Type} {r : T → VEnv} : FTs C scope [] r yep := .inl ⟨rfl, rfl⟩
def tsR (C : Ct) (scope : Scope) : List Expr → ZB
  | [] => zYes
  | e :: _ => WTb C scope e
theorem ts_zts {scope : Scope} {ifs : List Expr} {T : Type} {r : T → VEnv} {k : T → M Bool} (h : FTs C scope ifs r k) : Blk C.X scope fun X => ZTs X C.B ifs (tsR C scope ifs) := by
  rcases h with ⟨rfl, _⟩ | ⟨e, rfl, _⟩
  · exact fun _ _ _ _ _ => zts_nil
  · exact fun s H A cl fp => zts_one (wtb s H A cl fp)
theorem noex_ok {α : Type} {m : M α} {s s' : Cells} {a : α} (h : V.noex m s = .ok a s') : m s = .ok a s' := by
  unfold V.noex at h
  split at h
  · rename_i e; cases h; exact e
  · cases h
theorem sat_noex {α : Type} {m : M α} {s : Cells} {Q : α → Cells → Prop} {E : Exn → Cells → Prop} (h : sat (V.noex m s) Q E) : ∃ a s', m s = .ok a s' ∧ Q a s' := by
  cases e : V.noex m s with
  | ok a s' => rw [e] at h; exact ⟨a, s', noex_ok e, h⟩
  | ex x s' => unfold V.noex at e; split at e <;> cases e
  | bad => rw [e] at h; exact h.elim
theorem bind_inv {α β : Type} {m : M α} {k : α → M β} {s s' : Cells} {b : β} (h : (m >>= k) s = .ok b s') : ∃ a s1, m s = .ok a s1 ∧ k a s1 = .ok b s' := by
  rw [V.bind_def] at h
  split at h
  · rename_i a s1 e; exact ⟨a, s1, e, h⟩
  · cases h
  · cases h
theorem sat_of {α : Type} {m : M α} {s s' : Cells} {a : α} {Q : α → Cells → Prop} {E : Exn → Cells → Prop} (h : m s = .ok a s') (q : Q a s') : sat (m s) Q E := by rw [h]; exact q
theorem comp_turns {T : Type} {scope : Scope} {g : ZG} {mt : PyData → Option T} {asg : T → List (Nat × PyData)} {cnd : T → M Bool} {f : T → M PyData} {vs : List Nat} {elt : Expr} {ifs : List Expr} {ps : List Addr} {xs : List PyData} {s s' : Cells} {S1 : Sto} {ys : List PyData}
    (hg : GOk g mt asg) (hgm : ∀ {z ρ S} {Q Q' : ZEnv → Sto → Prop}, (∀ ρ' S', Q ρ' S' → Q' ρ' S') → g z ρ S Q → g z ρ S Q') (ht : FTs C scope ifs (fun t => setl (vwipe ρ vs) (asg t)) cnd) (he : FBlk C scope fun C => ∀ t, FE C elt (setl (vwipe ρ vs) (asg t)) (f t))
    (r : Rel C.G ps s S1) (hz : xs.length ≤ sizeLine) (hrun : compP mt cnd f xs s = .ok ys s') {P : List PyData → Sto → Prop} (fin : ∀ S', Rel C.G ps s' S' → P ys S') :
    ∃ I : Nat → List PyData → Sto → Prop, I 0 [] S1 ∧ (∀ i acc S', i ≤ xs.length → I i acc S' → Need S' []) ∧
    (∀ (i : Nat) (x : PyData) acc S', xs[i]? = some x → I i acc S' → g (.d x) (zwipe (VEnv.den ps ρ) vs) S' fun ρ2 S2 => tsR C scope ifs ρ2 S2 fun b S3 =>
      zBr b (WEb C scope elt ρ2 S3 fun y S4 => match y with
        | .d d => acc.length < sizeLine ∧ I (i + 1) (acc ++ [d]) S4
        | _ => False) (I (i + 1) acc S3)) ∧ ∀ acc S', I xs.length acc S' → P acc S' := by
  refine ⟨fun i acc S' => ∃ s1, Rel C.G ps s1 S' ∧ acc.length ≤ i ∧ ∃ zs, compP mt cnd f (xs.drop i) s1 = .ok zs s' ∧ ys = acc ++ zs, ⟨s, r, Nat.le_refl _, ys, by rw [List.drop_zero]; exact hrun, rfl⟩, fun _ _ _ _ _ => need_nil, ?_, ?_⟩
  · rintro i x acc S' ex ⟨s1, r1, hl, zs, run, ey⟩
    have hi : i < xs.length := (List.getElem?_eq_some_iff.mp ex).1
    have ed : xs.drop i = x :: xs.drop (i + 1) := by rw [← (List.getElem?_eq_some_iff.mp ex).2]; exact List.drop_eq_getElem_cons hi
    rw [ed] at run
    unfold compP at run
    obtain ⟨t, s2, e1, run1⟩ := bind_inv run
    obtain ⟨e0, e00⟩ := ofO_ok e1
    subst e00
    refine hg x t _ S' _ e0 ?_
    obtain ⟨b, s3, e2, run2⟩ := bind_inv run1
    have test : ∀ (Q : Bool → Sto → Prop), (∀ S3, Rel C.G ps s3 S3 → Q b S3) → tsR C scope ifs (setz (zwipe (VEnv.den ps ρ) vs) (asg t)) S' Q := by
      intro Q q
      rcases ht with ⟨rfl, ec⟩ | ⟨e, rfl, hc⟩
      · subst ec
        cases e2
        exact q S' r1
      · intro sh H A cl fp
        have := hc sh H A cl fp t ps s2 S' Q r1 (sat_of e2 q)
        rw [den_setl, den_wipe] at this
        exact this
    refine test _ fun S3 r3 => ?_
    cases b with
    | true =>
      obtain ⟨y, s4, e3, run3⟩ := bind_inv run2
      obtain ⟨zs', s5, e4, run4⟩ := bind_inv run3
      cases run4
      show WEb C scope elt _ _ _
      intro sh H A cl fp
      have := he sh H A cl fp t ps s3 S3 (fun y S4 => match y with
        | .d d => acc.length < sizeLine ∧ ∃ s1, Rel C.G ps s1 S4 ∧ (acc ++ [d]).length ≤ i + 1 ∧ ∃ zs, compP mt cnd f (xs.drop (i + 1)) s1 = .ok zs s' ∧ ys = (acc ++ [d]) ++ zs
        | _ => False) r3 (sat_of e3 fun S4 r4 => ⟨by omega, s4, r4, by rw [List.length_append]; simp; omega, zs', e4, by rw [ey, List.append_assoc]; rfl⟩)
      rw [den_setl, den_wipe] at this
      exact this
    | false => exact ⟨s3, r3, by omega, zs, run2, ey⟩
  · rintro acc S' ⟨s1, r1, hl, zs, run, ey⟩
    rw [List.drop_length] at run
    cases run
    rw [List.append_nil] at ey
    subst ey
    exact fin S' r1
variable {T : Type} {mt : PyData → Option T} {asg : T → List (Nat × PyData)} {cnd : T → M Bool} {f : T → M PyData} {g : ZG} {iter elt : Expr} {ifs : List Expr} {scope : Scope} {own : List (Str × Nat)} {o : List Nat}
theorem sat_comp {xs : List PyData} {s : Cells} {Q : List PyData → Cells → Prop} {E : Exn → Cells → Prop} (h : sat (comp mt cnd f xs s) Q E) : xs.length ≤ sizeLine ∧ ∃ ys s', compP mt cnd f xs s = .ok ys s' ∧ Q ys s' := by
  unfold comp at h
  obtain ⟨ys, s', e, q⟩ := sat_noex h
  split at e
  · rename_i hz
    rw [line_eq] at hz
    exact ⟨hz, ys, s', e, q⟩
  · cases e
theorem f_lc (hN : C.X.N.Nodup) (hi : FI C tg iter ρ mi) (ok : BlkOk C.X.N C.X.env.scope scope own) (zg : Blk C.X scope fun X => ZGt X C.B tg o g) (hg : GOk g mt asg) (ht : FTs C scope ifs (fun t => setl (vwipe ρ (own.map (·.2))) (asg t)) cnd) (he : FBlk C scope fun C => ∀ t, FE C elt (setl (vwipe ρ (own.map (·.2))) (asg t)) (f t))
    (hc : C.X.calm = true := by rfl) (hv : ∀ i ∈ o, i ∈ own.map (·.2) := by decide) (hs : ∀ x, foldedSetIterable iter C.X.env x = pure x := by intro _; rfl) : FE C (.ListComp elt [⟨tg, iter, ifs, 0⟩] scope pos) ρ (mi >>= fun xs => comp mt cnd f xs >>= fun ys => pure (.list ys)) := by
  intro ps s S Q r w
  refine (ze_lc hN wi_zi ok zg (ts_zts ht) web hc hv hs).we ?_
  refine hi ps s S _ r ((sat_bind w).mono (fun xs s1 w1 S1 r1 => ?_) fun _ _ h => h)
  obtain ⟨hz, ys, s', run, q⟩ := sat_comp (sat_bind w1)
  exact ⟨comp_turns hg (zg C.X.s_0 C.X.H_0 0 [] []).mono ht he r1 hz run (P := fun acc S' => Q (zl acc) S') q⟩
end
end ZL
namespace V
open PySem PySem.Spec ZL L2
inductive Md where
  | d | c | k
def unl : PyData → List PyData
  | .list xs => xs
  | _ => []
def encode : List Md → Nat → List PyData → List Vl
  | [], _, _ => []
  | .d :: ms, i, x :: ds => .d x :: encode ms i ds
  | .d :: _, _, [] => []
  | .c :: ms, i, ds => .c i :: encode ms (i + 1) ds
  | .k :: ms, i, x :: ds => .k (unl x) :: encode ms i ds
  | .k :: _, _, [] => []
def splitV : List Md → List Vl → Option (List Nat × List PyData)
  | [], [] => some ([], [])
  | .d :: ms, .d x :: vs => (splitV ms vs).map fun p => (p.1, x :: p.2)
  | .c :: ms, .c j :: vs => (splitV ms vs).map fun p => (j :: p.1, p.2)
  | .k :: ms, .k xs :: vs => (splitV ms vs).map fun p => (p.1, .list xs :: p.2)
  | _, _ => none
def nD : List Md → Nat
  | [] => 0
  | .c :: ms => nD ms
  | _ :: ms => nD ms + 1
def nC : List Md → Nat
  | [] => 0
  | .c :: ms => nC ms + 1
  | _ :: ms => nC ms
def nod : List Nat → Bool
  | [] => true
  | j :: r => !(r.contains j) && nod r
def callK (ms : List Md) (F : List PyData → M PyData) (vs : List Vl) : M PyData := match splitV ms vs with
  | some (js, ds) => bif nod js then sub js (F ds) else bad
  | none => bad
def callL (m : M PyData) : M (List PyData) := m >>= fun d => match d with
  | .list xs => pure xs
  | _ => bad
def callN (ms : List Md) (F : List PyData → M PyData) (vs : List Vl) : M (List PyData) := callL (callK ms F vs)
def frame (nl : Nat) (m : M PyData) : M PyData := fun s => match m (s ++ List.replicate nl none) with
  | .ok a s' => .ok a (s'.take s.length)
  | .ex x s' => .ex x (s'.take s.length)
  | .bad => .bad
def noC (j : Nat) : VEnv → Bool
  | [] => true
  | some (.c i) :: r => !(i == j) && noC j r
  | _ :: r => noC j r
def appC (j : Nat) (d : PyData) : M PyData := fun s => match s[j]? with
  | some (some (.lst xs)) => if xs.length < line then .ok .none (s.set j (some (.lst (xs ++ [d])))) else .bad
  | _ => .bad
def putC (j : Nat) (i d : PyData) : M Unit := fun s => match s[j]?, i with
  | some (some (.lst xs)), .int k => match ixN xs.length k with
    | some n => .ok () (s.set j (some (.lst (xs.set n d))))
    | none => .bad
  | _, _ => .bad
end V
namespace ZL
open PySem PySem.Spec PyProof.Rows L2 V
def Sto.del (S : Sto) (a : Addr) : Sto := fun b => if b = a then none else S b
theorem del_same {S : Sto} {a : Addr} : S.del a a = none := by unfold Sto.del; rw [if_pos rfl]
theorem del_ne {S : Sto} {a b : Addr} (h : b ≠ a) : S.del a b = S b := by unfold Sto.del; rw [if_neg h]
theorem RS.lock {K : PySem.W.Frag} {B : Bs} {S : Sto} {H : Hp} {a : Addr} {xs : List V} {ds : List PyData} {o : Obj} (r : RS K B S H) (e : S a = some (.lst ds)) (h : H a = some (.lst xs)) :
    Le H (upd H a (.frz o (.lst xs))) ∧ Step S (S.del a) H (upd H a (.frz o (.lst xs))) ∧ RS K B (S.del a) (upd H a (.frz o (.lst xs))) := by
  have ln : Ln H (upd H a (.frz o (.lst xs))) := ln_set h
  have le := ln.le
  have st : Step S (S.del a) H (upd H a (.frz o (.lst xs))) := fun b u q n => by
    have ne : b ≠ a := fun z => by rw [z, e] at n; cases n
    exact ⟨by rw [upd_ne ne]; exact q, by rw [del_ne ne]; exact n⟩
  refine ⟨le, st, r.step (fun b c q => ?_) st⟩
  have ne : b ≠ a := fun z => by rw [z, del_same] at q; cases q
  rw [del_ne ne] at q
  refine (r.1 b c q).keep ln (fun x zs hx hz => ?_) (fun x m hx => ?_) fun p m hp => ⟨q, fun dss hd => ⟨dss, ?_⟩⟩
  · have : x ≠ a := by
      rcases hx with rfl | ⟨m, hx⟩ | ⟨m, hx⟩
      · exact ne
      · intro z; rw [z, e] at hx; cases hx
      · intro z
        rw [q] at hx
        cases hx
        obtain ⟨_, ⟨dss, ep⟩, _⟩ := r.1 b _ q
        rw [z, e] at ep; cases ep
    rw [upd_ne this]; exact hz
  · rw [del_ne fun z => by rw [z, e] at hx; cases hx]; exact hx
  · rw [del_ne fun z => by rw [z, e] at hd; cases hd]; exact hd
theorem Rel.del {G : Gd} {ps : List Addr} {s : Cells} {S : Sto} {p : Addr} {xs : List PyData} (r : Rel G ps s S) (f : Fresh G ps s S p xs) : Rel G ps s (S.del p) := by
  refine ⟨r.len, fun j c a e1 e2 => ?_, r.inj, fun a c n e => ?_, r.loc, fun a ha => ?_, r.par, fun b a m e => ?_, r.owG, fun a ha q m e => ?_, r.cn⟩
  · rw [del_ne (fun z => f.2.1 j c e1 (by rw [← z]; exact e2))]; exact r.own j c a e1 e2
  · rw [del_ne (fun z => by rw [z, f.2.2.2] at e; cases e)]; exact r.fr a c n e
  · rw [del_ne (fun z : a = p => f.2.2.1 (by rw [← z]; exact ha))]; exact r.gp a ha
  · have ne : b ≠ p := fun z => by subst z; rw [del_same] at e; cases e
    rw [del_ne ne] at e
    obtain ⟨dss, q⟩ := r.owS b a m e
    exact ⟨dss, by rw [del_ne fun z => by rw [z, f.1] at q; cases q]; exact q⟩
  · have ne : a ≠ p := fun z => by subst z; rw [del_same] at e; cases e
    rw [del_ne ne] at e
    exact r.gq a ha q m e
end ZL
namespace ZL
open PySem PySem.Spec PyProof.Rows L2 V
abbrev Tbs := List (Addr × Str)
def TbIn (Ts : Tbs) (S : Sto) : Prop := ∀ x ∈ Ts, S x.1 = some (.tbl x.2)
structure Gt (Ts : Tbs) (G : Gd) : Prop where
  at_ : TbIn Ts G.S
  out : ∀ x ∈ Ts, x.1 ∉ G.p
theorem Gt.now {Ts : Tbs} {G : Gd} {ps : List Addr} {s : Cells} {S : Sto} (g : Gt Ts G) (r : Rel G ps s S) : TbIn Ts S := fun x hx => r.fr x.1 _ (g.out x hx) (g.at_ x hx)
theorem Gt.nil {G : Gd} : Gt [] G := ⟨fun _ h => (by cases h), fun _ h => (by cases h)⟩
def noTb (ps : List Addr) (S : Sto) : Prop := ∀ a ∈ ps, ∀ q, S a ≠ some (.tbl q)
def VSp (Ts : Tbs) (mg : Str → Option Value) (ms : List Md) (rm : Bool) (F : List PyData → M PyData) : ZSp := fun zs S Q E => TbIn Ts S ∧ ∃ (ds : List PyData) (ps0 : List Addr) (s0 : Cells), noTb ps0 S ∧ zs = (encode ms 0 ds).map (Vl.den ps0) ∧ (encode ms 0 ds).length = ms.length ∧ ds.length = nD ms ∧ ps0.length = nC ms ∧ Rel ⟨ps0, S⟩ ps0 s0 S ∧
  sat (F ds s0) (fun d s' => (rm = false ∧ ∀ S', Rel ⟨ps0, S⟩ ps0 s' S' → Q (.d d) S') ∨ (rm = true ∧ ∃ xs, d = .list xs ∧ ∀ S' p, Rel ⟨ps0, S⟩ ps0 s' S' → Fresh ⟨ps0, S⟩ ps0 s' S' p xs → Q (.r p) S')) fun x s' => ∀ zx S', Rel ⟨ps0, S⟩ ps0 s' S' → XR mg x zx → E zx S'
theorem vsp_mono {Ts : Tbs} {mg : Str → Option Value} {ms : List Md} {rm : Bool} {F : List PyData → M PyData} {zs : List Z} {S : Sto} {Q Q' : ZQ} {E E' : ZX → Sto → Prop} (q : ∀ z S', Q z S' → Q' z S') (e : ∀ x S', E x S' → E' x S') (h : VSp Ts mg ms rm F zs S Q E) : VSp Ts mg ms rm F zs S Q' E' := by
  obtain ⟨ht, ds, ps0, s0, hn, e1, e0, e2, e3, r, w⟩ := h
  refine ⟨ht, ds, ps0, s0, hn, e1, e0, e2, e3, r, w.mono (fun d s' h => ?_) fun x s' h zx S' a b => e _ _ (h zx S' a b)⟩
  rcases h with ⟨h1, h⟩ | ⟨h1, xs, e, h⟩
  · exact .inl ⟨h1, fun S' a => q _ _ (h S' a)⟩
  · exact .inr ⟨h1, xs, e, fun S' p a b => q _ _ (h S' p a b)⟩
theorem vsp_len {Ts : Tbs} {mg : Str → Option Value} {ms : List Md} {rm : Bool} {F : List PyData → M PyData} {n : Nat} (hn : ms.length = n) : ∀ zs S Q E, VSp Ts mg ms rm F zs S Q E → zs.length = n := by
  rintro zs S Q E ⟨_, ds, ps0, s0, _, e1, e0, _⟩
  rw [e1, List.length_map, e0, hn]
theorem split_den (ps : List Addr) : ∀ (ms : List Md) (vs : List Vl) (js : List Nat) (ds : List PyData) (pre : List Addr), splitV ms vs = some (js, ds) → vs.map (Vl.den ps) = (encode ms pre.length ds).map (Vl.den (pre ++ js.map (ps.getD · 0))) ∧ (encode ms pre.length ds).length = ms.length ∧ ds.length = nD ms ∧ js.length = nC ms
  | [], [], js, ds, pre, h => by cases h; exact ⟨rfl, rfl, rfl, rfl⟩
  | .d :: ms, .d x :: vs, js, ds, pre, h => by
    simp only [splitV, Option.map_eq_some_iff] at h
    obtain ⟨⟨js', ds'⟩, e, h⟩ := h
    cases h
    obtain ⟨h1, h2, h3, h4⟩ := split_den ps ms vs _ _ pre e
    exact ⟨by simp only [List.map_cons, encode, h1]; rfl, by simp only [encode, List.length_cons, h2], by simp only [nD, List.length_cons, h3], h4⟩
  | .c :: ms, .c j :: vs, js, ds, pre, h => by
    simp only [splitV, Option.map_eq_some_iff] at h
    obtain ⟨⟨js', ds'⟩, e, h⟩ := h
    cases h
    obtain ⟨h1, h2, h3, h4⟩ := split_den ps ms vs js' _ (pre ++ [ps.getD j 0]) e
    rw [List.length_append, List.append_assoc] at h1
    rw [List.length_append] at h2
    refine ⟨?_, congrArg (· + 1) h2, h3, by simp only [nC, List.length_cons, h4]⟩
    simp only [List.map_cons, encode, h1]
    congr 1
    simp [Vl.den]
  | .k :: ms, .k xs :: vs, js, ds, pre, h => by
    simp only [splitV, Option.map_eq_some_iff] at h
    obtain ⟨⟨js', ds'⟩, e, h⟩ := h
    cases h
    obtain ⟨h1, h2, h3, h4⟩ := split_den ps ms vs _ _ pre e
    exact ⟨by simp only [List.map_cons, encode, h1]; rfl, by simp only [encode, List.length_cons, h2], by simp only [nD, List.length_cons, h3], h4⟩
  | [], _ :: _, _, _, _, h => by simp [splitV] at h
  | .d :: _, [], _, _, _, h => by simp [splitV] at h
  | .d :: _, .ob _ :: _, _, _, _, h => by simp [splitV] at h
  | .d :: _, .c _ :: _, _, _, _, h => by simp [splitV] at h
  | .d :: _, .k _ :: _, _, _, _, h => by simp [splitV] at h
  | .c :: _, [], _, _, _, h => by simp [splitV] at h
  | .c :: _, .ob _ :: _, _, _, _, h => by simp [splitV] at h
  | .c :: _, .d _ :: _, _, _, _, h => by simp [splitV] at h
  | .c :: _, .k _ :: _, _, _, _, h => by simp [splitV] at h
  | .k :: _, [], _, _, _, h => by simp [splitV] at h
  | .k :: _, .ob _ :: _, _, _, _, h => by simp [splitV] at h
  | .k :: _, .d _ :: _, _, _, _, h => by simp [splitV] at h
  | .k :: _, .c _ :: _, _, _, _, h => by simp [splitV] at h
theorem pick_at (s : Cells) : ∀ (js : List Nat) (i : Nat) (c : Cell), (pick s js)[i]? = some (some c) → ∃ j, js[i]? = some j ∧ s[j]? = some (some c)
  | [], i, c, h => by simp [pick] at h
  | j :: r, 0, c, h => by
    refine ⟨j, rfl, ?_⟩
    simp only [pick, List.getElem?_cons_zero, Option.some.injEq, List.getD_eq_getElem?_getD] at h
    cases e : s[j]? with
    | none => rw [e] at h; cases h
    | some o => rw [e] at h; simpa using h
  | j :: r, i + 1, c, h => by
    obtain ⟨j', e1, e2⟩ := pick_at s r i c (by simpa [pick] using h)
    exact ⟨j', by simpa using e1, e2⟩
theorem pick_len (s : Cells) : ∀ js : List Nat, (pick s js).length = js.length
  | [] => rfl
  | j :: r => by simp [pick, pick_len s r]
theorem nod_nodup : ∀ {js : List Nat}, nod js = true → js.Nodup
  | [], _ => .nil
  | j :: r, h => by
    simp only [nod, Bool.and_eq_true, Bool.not_eq_true', List.contains_eq_mem, decide_eq_false_iff_not] at h
    exact List.nodup_cons.mpr ⟨h.1, nod_nodup h.2⟩
theorem put_len : ∀ (js : List Nat) (s s' : Cells), (V.put s js s').length = s.length
  | [], s, s' => by cases s' <;> rfl
  | j :: r, s, [] => rfl
  | j :: r, s, c :: cs => by simp [V.put, put_len r]
theorem put_get : ∀ (js : List Nat) (s s' : Cells) (k : Nat), js.Nodup → s'.length = js.length → (V.put s js s')[k]? = (if k ∈ js then (if k < s.length then s'[js.idxOf k]? else none) else s[k]?)
  | [], s, s', k, _, _ => by cases s' <;> simp [V.put]
  | j :: r, s, [], k, _, h => by simp at h
  | j :: r, s, c :: cs, k, nd, h => by
    have nd' := List.nodup_cons.mp nd
    simp only [V.put]
    rw [put_get r (s.set j c) cs k nd'.2 (by simpa using h)]
    by_cases q : k = j
    · subst q
      simp only [nd'.1, if_false, List.mem_cons, true_or, if_true, List.idxOf_cons_self, List.getElem?_cons_zero]
      rw [List.getElem?_set]
      simp
    · simp only [List.mem_cons, q, false_or, List.length_set]
      rw [List.getElem?_set_ne (Ne.symm q)]
      by_cases hk : k ∈ r
      · simp only [hk, if_true]
        have e2 : (j :: r).idxOf k = r.idxOf k + 1 := by
          rw [List.idxOf_cons]
          have : (j == k) = false := by simpa using (Ne.symm q)
          rw [this]; rfl
        rw [e2, List.getElem?_cons_succ]
      · simp only [hk, if_false]
theorem getD_at {ps : List Addr} {j : Nat} {a : Addr} (h : ps[j]? = some a) : ps.getD j 0 = a := by
  rw [List.getD_eq_getElem?_getD, h]; rfl
theorem Rel.into {G : Gd} {ps : List Addr} {s : Cells} {S : Sto} (r : Rel G ps s S) {js : List Nat} (nd : js.Nodup) (live : ∀ j ∈ js, ∃ c, s[j]? = some (some c)) : Rel ⟨js.map (ps.getD · 0), S⟩ (js.map (ps.getD · 0)) (pick s js) S := by
  have at' : ∀ {i : Nat} {c : Cell} {a : Addr}, (pick s js)[i]? = some (some c) → (js.map (ps.getD · 0))[i]? = some a → ∃ j, js[i]? = some j ∧ s[j]? = some (some c) ∧ ps[j]? = some a := by
    intro i c a e1 e2
    obtain ⟨j, h1, h2⟩ := pick_at s js i c e1
    rw [List.getElem?_map, h1] at e2
    cases e2
    exact ⟨j, h1, h2, (r.at h2).1⟩
  refine ⟨by rw [List.length_map, pick_len], fun i c a e1 e2 => ?_, fun i k ci ck a e1 e2 e3 e4 => ?_, fun a c _ e => e, fun i c a e1 e2 => ?_, fun a ha => ?_, List.take_length, r.owS, r.owS, fun a ha q m e => ?_, fun i q m e => ?_⟩
  · obtain ⟨j, h1, h2, h3⟩ := at' e1 e2
    exact r.own j c a h2 h3
  · obtain ⟨j, h1, h2, h3⟩ := at' e1 e3
    obtain ⟨j', h1', h2', h3'⟩ := at' e2 e4
    have := r.inj j j' ci ck a h2 h2' h3 h3'
    subst this
    exact (List.getElem?_inj (List.getElem?_eq_some_iff.mp h1).1 nd).mp (h1.trans h1'.symm)
  · refine .inl ⟨(List.getElem?_eq_some_iff.mp e2).1, List.mem_of_getElem? e2⟩
  · obtain ⟨j, hj, rfl⟩ := List.mem_map.mp ha
    obtain ⟨c, hc⟩ := live j hj
    rw [(r.at hc).2]
    exact fun z => nomatch z
  · obtain ⟨j, hj, rfl⟩ := List.mem_map.mp ha
    obtain ⟨c, hc⟩ := live j hj
    rw [(r.at hc).2] at e
    cases e
    exact r.cn j q m hc
  · obtain ⟨j, _, h2⟩ := pick_at s js i _ e
    exact r.cn j q m h2
theorem Rel.back {G : Gd} {ps : List Addr} {s s' : Cells} {S S' : Sto} (r : Rel G ps s S) {js : List Nat} (nd : js.Nodup) (live : ∀ j ∈ js, ∃ c, s[j]? = some (some c)) (r' : Rel ⟨js.map (ps.getD · 0), S⟩ (js.map (ps.getD · 0)) s' S') : Rel G ps (V.put s js s') S' := by
  have hl : s'.length = js.length := by rw [← r'.len, List.length_map]
  have get : ∀ {k : Nat} {c : Cell}, (V.put s js s')[k]? = some (some c) → (∃ i : Nat, js[i]? = some k ∧ s'[i]? = some (some c)) ∨ (k ∉ js ∧ s[k]? = some (some c)) := by
    intro k c e
    rw [put_get js s s' k nd hl] at e
    by_cases q : k ∈ js
    · simp only [q, if_true] at e
      split at e
      · refine .inl ⟨js.idxOf k, ?_, e⟩
        rw [List.getElem?_eq_getElem (List.idxOf_lt_length_of_mem q), List.getElem_idxOf]
      · cases e
    · simp only [q, if_false] at e
      exact .inr ⟨q, e⟩
  have was : ∀ {k : Nat} {c : Cell}, (V.put s js s')[k]? = some (some c) → ∃ c0, s[k]? = some (some c0) := by
    intro k c e
    rcases get e with ⟨i, h1, _⟩ | ⟨_, h⟩
    · exact live k (List.mem_of_getElem? h1)
    · exact ⟨_, h⟩
  have keep : ∀ {a : Addr} {c : Cell}, (∀ j ∈ js, ps[j]? ≠ some a) → S a = some c → S' a = some c := by
    intro a c n e
    refine r'.fr a c ?_ e
    intro z
    obtain ⟨j, hj, ej⟩ := List.mem_map.mp z
    obtain ⟨c', hc'⟩ := live j hj
    exact n j hj (by rw [(r.at hc').1]; exact congrArg some ej)
  refine ⟨by rw [put_len]; exact r.len, fun k c a e1 e2 => ?_, fun i k ci ck a e1 e2 e3 e4 => ?_, fun a c n e => ?_, fun k c a e1 e2 => ?_, fun a ha => ?_, r.par, r'.owS, r.owG, fun a ha q m e => ?_, fun k q m e => ?_⟩
  · rcases get e1 with ⟨i, h1, h2⟩ | ⟨n, h⟩
    · exact r'.own i c a h2 (by rw [List.getElem?_map, h1]; exact congrArg some (getD_at e2))
    · refine keep (fun j hj z => ?_) (r.own k c a h e2)
      obtain ⟨c', hc'⟩ := live j hj
      have := r.inj k j c c' a h hc' e2 z
      exact n (this ▸ hj)
  · obtain ⟨c1, h1⟩ := was e1
    obtain ⟨c2, h2⟩ := was e2
    exact r.inj i k c1 c2 a h1 h2 e3 e4
  · refine keep (fun j hj z => ?_) (r.fr a c n e)
    obtain ⟨c', hc'⟩ := live j hj
    rcases r.loc j c' a hc' z with q | q
    · exact n q.2
    · rw [q.2.2] at e; cases e
  · obtain ⟨c1, h1⟩ := was e1
    exact r.loc k c1 a h1 e2
  · by_cases q : ∃ j ∈ js, ps[j]? = some a
    · obtain ⟨j, hj, e⟩ := q
      refine r'.gp a (List.mem_map.mpr ⟨j, hj, getD_at e⟩)
    · cases e : S a with
      | none => exact absurd e (r.gp a ha)
      | some c => rw [keep (fun j hj z => q ⟨j, hj, z⟩) e]; exact fun z => nomatch z
  · by_cases z : ∃ j ∈ js, ps[j]? = some a
    · obtain ⟨j, hj, ej⟩ := z
      exact r'.gq a (List.mem_map.mpr ⟨j, hj, getD_at ej⟩) q m e
    · cases ea : S a with
      | none => exact r.gp a ha ea
      | some c =>
        rw [keep (fun j hj x => z ⟨j, hj, x⟩) ea] at e
        cases e
        exact r.gq a ha q m ea
  · rcases get e with ⟨i, h1, h2⟩ | ⟨_, h⟩
    · exact r'.cn i q m h2
    · exact r.cn k q m h
theorem Rel.back_fresh {G : Gd} {ps : List Addr} {s s' : Cells} {S S' : Sto} (r : Rel G ps s S) {js : List Nat} (nd : js.Nodup) (live : ∀ j ∈ js, ∃ c, s[j]? = some (some c)) (r' : Rel ⟨js.map (ps.getD · 0), S⟩ (js.map (ps.getD · 0)) s' S') {p : Addr} {xs : List PyData} (f : Fresh ⟨js.map (ps.getD · 0), S⟩ (js.map (ps.getD · 0)) s' S' p xs) : Fresh G ps (V.put s js s') S' p xs := by
  have hl : s'.length = js.length := by rw [← r'.len, List.length_map]
  have n0 : S p = none := f.2.2.2
  refine ⟨f.1, fun k c e1 e2 => ?_, fun z => r.gp p z n0, ?_⟩
  · rw [put_get js s s' k nd hl] at e1
    by_cases q : k ∈ js
    · obtain ⟨c', hc'⟩ := live k q
      rw [r.own k c' p hc' e2] at n0; cases n0
    · simp only [q, if_false] at e1
      rw [r.own k c p e1 e2] at n0; cases n0
  · cases e : G.S p with
    | none => rfl
    | some c =>
      by_cases q : p ∈ G.p
      · exact absurd n0 (r.gp p q)
      · rw [r.fr p c q e] at n0; cases n0
theorem live_at {s : Cells} {js : List Nat} (h : liveB s js = true) : ∀ j ∈ js, ∃ c, s[j]? = some (some c) ∧ ∀ q, c ≠ .tbl q := by
  intro j hj
  have := List.all_eq_true.mp h j hj
  rw [List.getD_eq_getElem?_getD] at this
  cases e : s[j]? with
  | none => rw [e] at this; simp [liveC] at this
  | some o =>
    rw [e] at this
    cases o with
    | none => simp [liveC] at this
    | some c =>
      refine ⟨c, rfl, fun q z => ?_⟩
      subst z
      simp [liveC] at this
theorem live_of {s : Cells} {js : List Nat} (h : liveB s js = true) : ∀ j ∈ js, ∃ c, s[j]? = some (some c) := fun j hj => let ⟨c, e, _⟩ := live_at h j hj; ⟨c, e⟩
theorem Rel.noTb {G : Gd} {ps : List Addr} {s : Cells} {S : Sto} (r : Rel G ps s S) {js : List Nat} (h : liveB s js = true) : noTb (js.map (ps.getD · 0)) S := fun a ha q z => by
  obtain ⟨j, hj, rfl⟩ := List.mem_map.mp ha
  obtain ⟨c, hc, n⟩ := live_at h j hj
  rw [(r.at hc).2] at z
  exact n q (Option.some.inj z)
end ZL
namespace ZL
open PySem PySem.Spec PyProof.Rows L2 V
section
variable {C : Ct} {e a b c tg : Expr} {es : List Expr} {ρ : VEnv} {pos p : Pos} {m : M PyData} {mN : M (List PyData)}
theorem sat_sub {α : Type} {js : List Nat} {m : M α} {s : Cells} {Q : α → Cells → Prop} {E : Exn → Cells → Prop} (h : sat (sub js m s) Q E) : liveB s js = true ∧ sat (m (pick s js)) (fun a s' => Q a (V.put s js s')) (fun x s' => E x (V.put s js s')) := by
  unfold sub at h
  cases e : liveB s js with
  | false => rw [e] at h; exact h.elim
  | true =>
    rw [e] at h
    refine ⟨rfl, ?_⟩
    unfold sat at *
    cases e2 : m (pick s js) with
    | ok a s' => simp only [cond_true, e2] at h; exact h
    | ex x s' => simp only [cond_true, e2] at h; exact h
    | bad => simp only [cond_true, e2] at h
variable {Ts : Tbs} {k : Nat} {f : Addr} {fd : FuncData} {ps' : List Str} {ms : List Md} {rm : Bool} {F : List PyData → M PyData} {x : Str}
theorem call_low (g : Gt Ts C.G) {ps : List Addr} {s : Cells} {S : Sto} {vs : List Vl} {Q : ZQ} (r : Rel C.G ps s S) {js : List Nat} {ds : List PyData} (es : splitV ms vs = some (js, ds)) (nd : nod js = true) (w : sat (sub js (F ds) s) (fun d s' => (rm = false ∧ ∀ S', Rel C.G ps s' S' → Q (.d d) S') ∨ (rm = true ∧ ∃ xs, d = .list xs ∧ ∀ S' p, Rel C.G ps s' S' → Fresh C.G ps s' S' p xs → Q (.r p) S')) (XOk C.X.mg C.G C.EZ)) :
    VSp Ts C.X.mg ms rm F (vs.map (Vl.den ps)) S Q (fun zx S' => C.EZ zx S') := by
  obtain ⟨h1, h2, h3, h4⟩ := split_den ps ms vs js ds [] es
  obtain ⟨lv, w⟩ := sat_sub w
  have nd := nod_nodup nd
  have live := live_of lv
  refine ⟨g.now r, ds, js.map (ps.getD · 0), pick s js, r.noTb lv, h1, h2, h3, by rw [List.length_map]; exact h4, r.into nd live, w.mono (fun d s' h => ?_) fun x s' h zx S' r' xr => h zx ps S' (r.back nd live r') xr⟩
  rcases h with ⟨e, h⟩ | ⟨e, xs, ed, h⟩
  · exact .inl ⟨e, fun S' r' => h S' (r.back nd live r')⟩
  · exact .inr ⟨e, xs, ed, fun S' p r' fr => h S' p (r.back nd live r') (r.back_fresh nd live r' fr)⟩
theorem sat_callK {vs : List Vl} {s : Cells} {Q : PyData → Cells → Prop} {E : Exn → Cells → Prop} (h : sat (callK ms F vs s) Q E) : ∃ js ds, splitV ms vs = some (js, ds) ∧ nod js = true ∧ sat (sub js (F ds) s) Q E := by
  unfold callK at h
  cases e : splitV ms vs with
  | none => rw [e] at h; exact h.elim
  | some p =>
    obtain ⟨js, ds⟩ := p
    rw [e] at h
    cases e2 : nod js with
    | false => simp only [e2, cond_false] at h; exact h.elim
    | true => simp only [e2, cond_true] at h; exact ⟨js, ds, rfl, e2, h⟩
theorem f_call (Fn : ZFn C.X.prog C.X.w C.X.K C.X.mg C.X.base k f fd ps' (VSp Ts C.X.mg ms false F)) (hG : C.X.A.guards = some [] ∧ Gt Ts C.G) (hr : Room k C.X.A) (hm : C.X.mg x = some (.ref f)) (hk : PySem.W.keepIn C.X.K (.ref f) = true) (hb : Binds C.X.K fd ps' []) (hx : Tk C.X C.B (fun _ zx S => C.EZ zx S))
    (ha : FA C (e :: es) ρ [] m (callK ms F)) (hg : Gl C.X x := by rfl) (hdb : (x == ("__debug__" : Str)) = false := by decide) (he : starEach (e :: es) C.X.env = (false, eval e C.X.env) :: starEach es C.X.env := by rfl) (hpl : (backTo pos (starEach es C.X.env)).any (·.1) = false := by rfl) : FE C (.Call (.Name x p) (e :: es) [] pos) ρ m := by
  intro ps s S Q r w
  refine (ze_call Fn hG.1 hr hm hk hb hx wa_za hg hdb he hpl).we ?_
  refine ha ps s S _ _ r w fun vs s' S' r' w' => ?_
  rw [List.nil_append] at w'
  obtain ⟨js, ds, e1, nd, w2⟩ := sat_callK w'
  exact call_low hG.2 r' e1 nd (w2.mono (fun d s2 h => .inl ⟨rfl, h⟩) fun _ _ h => h)
theorem n_call (Fn : ZFn C.X.prog C.X.w C.X.K C.X.mg C.X.base k f fd ps' (VSp Ts C.X.mg ms true F)) (hG : C.X.A.guards = some [] ∧ Gt Ts C.G) (hr : Room k C.X.A) (hm : C.X.mg x = some (.ref f)) (hk : PySem.W.keepIn C.X.K (.ref f) = true) (hb : Binds C.X.K fd ps' []) (hx : Tk C.X C.B (fun _ zx S => C.EZ zx S))
    (ha : FA C (e :: es) ρ [] mN (callN ms F)) (hg : Gl C.X x := by rfl) (hdb : (x == ("__debug__" : Str)) = false := by decide) (he : starEach (e :: es) C.X.env = (false, eval e C.X.env) :: starEach es C.X.env := by rfl) (hpl : (backTo pos (starEach es C.X.env)).any (·.1) = false := by rfl) : FN C (.Call (.Name x p) (e :: es) [] pos) ρ mN := by
  intro ps s S Q r w
  refine (ze_call Fn hG.1 hr hm hk hb hx wa_za hg hdb he hpl).we ?_
  refine ha ps s S _ _ r w fun vs s' S' r' w' => ?_
  rw [List.nil_append] at w'
  obtain ⟨js, ds, e1, nd, w2⟩ := sat_callK (sat_bind w')
  refine call_low hG.2 r' e1 nd (w2.mono (fun d s2 h => ?_) fun _ _ h => h)
  cases d with
  | list xs => exact .inr ⟨rfl, xs, rfl, h⟩
  | _ => exact h.elim
end
def FlOk (C : Ct) (rm : Bool) (D : ZEnds) {L T : Type} (emb : T → VEnv) (embL : L → VEnv) : Fl L T → Cells → Prop
  | .nx t, s => ∀ ps S ρ, Rel C.G ps s S → Fg (emb t) ρ → D.nx (VEnv.den ps ρ) S
  | .bk l, s => ∀ ps S ρ, Rel C.G ps s S → Fg (embL l) ρ → D.bk (VEnv.den ps ρ) S
  | .ct l, s => ∀ ps S ρ, Rel C.G ps s S → Fg (embL l) ρ → D.ct (VEnv.den ps ρ) S
  | .rt v, s => (rm = false ∧ ∀ ps S, Rel C.G ps s S → D.rt (.d v) S) ∨ (rm = true ∧ ∃ xs, v = .list xs ∧ ∀ ps S p, Rel C.G ps s S → Fresh C.G ps s S p xs → D.rt (.r p) S)
def WSK (X : Cx) (B : Bs) : List (List Stmt) → List Stmt → ZTS
  | [], ss => WSs X B ss
  | r :: K, ss => fun D ρ S => WSs X B ss { D with nx := fun ρ S => WSK X B K r D ρ S } ρ S
theorem wsk_cons {X : Cx} {B : Bs} {K : List (List Stmt)} {st : Stmt} {rest : List Stmt} {t : ZTS} (h : ZS X B st t) {D : ZEnds} {ρ : ZEnv} {S : Sto} (w : t { D with nx := fun ρ S => WSK X B K rest D ρ S } ρ S) : WSK X B K (st :: rest) D ρ S := by
  cases K with
  | nil => exact (zss_cons h wss_zss).we w
  | cons r K => exact (zss_cons h wss_zss).we w
theorem WSK.forget {X : Cx} {B : Bs} {K : List (List Stmt)} {ss : List Stmt} {D : ZEnds} {ρ ρ' : ZEnv} {S : Sto} (f : Fgz ρ' ρ) (w : WSK X B K ss D ρ' S) : WSK X B K ss D ρ S := by
  cases K with
  | nil => exact WSs.forget f w
  | cons r K => exact WSs.forget f w
def FS (C : Ct) (rm : Bool) (K : List (List Stmt)) (ss : List Stmt) (ρ : VEnv) {L T : Type} (emb : T → VEnv) (embL : L → VEnv) (m : M (Fl L T)) : Prop := ∀ ps s S (D : ZEnds), Rel C.G ps s S → sat (m s) (FlOk C rm D emb embL) (XOk C.X.mg C.G C.EZ) → WSK C.X C.B K ss D (VEnv.den ps ρ) S
section
variable {C : Ct} {rm : Bool} {e a b c tg : Expr} {es : List Expr} {ρ : VEnv} {pos p : Pos} {K : List (List Stmt)} {rest body orelse : List Stmt} {L T T1 : Type} {emb : T → VEnv} {embL : L → VEnv} {m : M (Fl L T)} {me mi : M PyData} {mN : M (List PyData)}
theorem s_pop (h : FS C rm K rest ρ emb embL m) : FS C rm (rest :: K) [] ρ emb embL m := fun ps s S D r w => zss_nil.we (h ps s S D r w)
theorem s_end {t : T} (h : Fg (emb t) ρ) : FS C rm [] [] ρ emb embL (pure (.nx t)) := fun ps s S D r w => zss_nil.we (w ps S ρ r h)
theorem s_end0 {n : Nat} (h : ρ.length = n := by rfl) : FS C rm [] [] ρ (fun _ : Unit => List.replicate n none) embL (pure (.nx ())) := by
  subst h
  exact s_end (Fg.none ρ)
theorem s_set (i : Nat) {x : Str} {pos' : Pos} {k : PyData → M (Fl L T)} (hN : C.X.N.Nodup) (he : FE C e ρ me) (hr : ∀ v, FS C rm K rest (ρ.set i (some (.d v))) emb embL (k v)) (hi : C.X.N[i]? = some x := by rfl) (hx : Loc C.X.env.scope x := by first | exact Or.inl rfl | exact Or.inr rfl) (hs : swapsWith e (some (.Name x pos')) pos.line C.X.env = pure false := by rfl) (hf : C.X.fn x = true ∨ C.X.env.scope.names.lookup x = some .local := by first | exact .inl rfl | exact .inr rfl | assumption) :
    FS C rm K (.Assign [.Name x pos'] e pos :: rest) ρ emb embL (me >>= k) := by
  intro ps s S D r w
  refine wsk_cons (zs_set i hN we_ze hi hx hs hf) ?_
  refine he ps s S _ r ((sat_bind w).mono (fun v s' w' S' r' => ?_) fun _ _ h => h)
  have := hr v ps s' S' D r' w'
  rw [den_set] at this
  exact this
theorem fgz_lay {ps : List Addr} {p : Addr} {j : Nat} : ∀ {ρ : VEnv}, noC j ρ = true → VEnv.den (ps.set j p) ρ = VEnv.den ps ρ
  | [], _ => rfl
  | o :: r, h => by
    have hd : noC j r = true := by
      cases o with
      | none => exact h
      | some v =>
        cases v with
        | c i => simp only [noC, Bool.and_eq_true] at h; exact h.2
        | d x => exact h
        | k x => exact h
        | ob x => exact h
    show Option.map (Vl.den (ps.set j p)) o :: VEnv.den (ps.set j p) r = Option.map (Vl.den ps) o :: VEnv.den ps r
    rw [fgz_lay hd]
    congr 1
    cases o with
    | none => rfl
    | some v =>
      cases v with
      | d x => rfl
      | k x => rfl
      | ob x => rfl
      | c i =>
        simp only [noC, Bool.and_eq_true, Bool.not_eq_true', beq_eq_false_iff_ne] at h
        show some (Z.r _) = some (Z.r _)
        congr 2
        rw [List.getD_eq_getElem?_getD, List.getD_eq_getElem?_getD, List.getElem?_set_ne (Ne.symm h.1)]
theorem den_lay {ps : List Addr} {p : Addr} {j i : Nat} {ρ : VEnv} (hj : j < ps.length) (h : noC j (ρ.set i none) = true) : VEnv.den (ps.set j p) (ρ.set i (some (.c j))) = (VEnv.den ps ρ).set i (some (.r p)) := by
  have e1 : ρ.set i (some (.c j)) = (ρ.set i none).set i (some (.c j)) := by rw [List.set_set]
  rw [e1, den_set, fgz_lay h, den_set, List.set_set]
  congr 1
  show some (Z.r _) = some (Z.r p)
  rw [List.getD_eq_getElem?_getD, List.getElem?_set_self hj]
  rfl
theorem sat_setC {j : Nat} {xs : List PyData} {s : Cells} {Q : Unit → Cells → Prop} {E : Exn → Cells → Prop} (h : sat (setC j xs s) Q E) : j < s.length ∧ Q () (s.set j (some (.lst xs))) := by
  unfold setC at h
  split at h
  · rename_i hj; exact ⟨hj, h⟩
  · exact h.elim
theorem s_setC (i j : Nat) {x : Str} {pos' : Pos} {k : Unit → M (Fl L T)} (hl : C.G.p.length ≤ j) (hN : C.X.N.Nodup) (he : FN C e ρ mN) (hr : FS C rm K rest (ρ.set i (some (.c j))) emb embL (k ())) (hno : noC j (ρ.set i none) = true := by rfl) (hi : C.X.N[i]? = some x := by rfl) (hx : Loc C.X.env.scope x := by first | exact Or.inl rfl | exact Or.inr rfl) (hs : swapsWith e (some (.Name x pos')) pos.line C.X.env = pure false := by rfl) (hf : C.X.fn x = true ∨ C.X.env.scope.names.lookup x = some .local := by first | exact .inl rfl | exact .inr rfl | assumption) :
    FS C rm K (.Assign [.Name x pos'] e pos :: rest) ρ emb embL (mN >>= fun xs => setC j xs >>= k) := by
  intro ps s S D r w
  refine wsk_cons (zs_set i hN we_ze hi hx hs hf) ?_
  refine he ps s S _ r ((sat_bind w).mono (fun xs s' w' S' p r' f => ?_) fun _ _ h => h)
  obtain ⟨hj, w2⟩ := sat_setC (sat_bind w')
  have := hr (ps.set j p) _ S' D (r'.lay f j hj hl) w2
  rw [den_lay (by rw [r'.len]; exact hj) hno] at this
  exact this
theorem s_expr {k : PyData → M (Fl L T)} (he : FE C e ρ me) (hr : ∀ v, FS C rm K rest ρ emb embL (k v)) (hs : swapsWith e none pos.line C.X.env = pure false := by rfl) : FS C rm K (.Expr e pos :: rest) ρ emb embL (me >>= k) := by
  intro ps s S D r w
  refine wsk_cons (zs_expr we_ze hs) ?_
  exact he ps s S _ r ((sat_bind w).mono (fun v s' w' S' r' => hr v ps s' S' D r' w') fun _ _ h => h)
theorem s_ret (he : FE C e ρ me) : FS C false K (.Return (some e) pos :: rest) ρ emb embL (me >>= fun v => pure (.rt v)) := by
  intro ps s S D r w
  refine wsk_cons (zs_ret we_ze) ?_
  refine he ps s S _ r ((sat_bind w).mono (fun v s' w' S' r' => ?_) fun _ _ h => h)
  rcases w' with ⟨_, h⟩ | ⟨h, _⟩
  · exact h ps S' r'
  · cases h
theorem s_retL (he : FN C e ρ mN) : FS C true K (.Return (some e) pos :: rest) ρ emb embL (mN >>= fun xs => pure (.rt (.list xs))) := by
  intro ps s S D r w
  refine wsk_cons (zs_ret we_ze) ?_
  refine he ps s S _ r ((sat_bind w).mono (fun v s' w' S' p r' f => ?_) fun _ _ h => h)
  rcases w' with ⟨h, _⟩ | ⟨_, xs, e, h⟩
  · cases h
  · cases e; exact h ps S' p r' f
def lockC (j : Nat) : M (List PyData) := getC j >>= fun xs => delC j >>= fun _ => pure xs
variable {mt : M Bool} {ma mb : M (Fl L T)} {m1 m2 : M (Fl L T1)} {emb1 : T1 → VEnv}
theorem s_if (hc : FT C c ρ mt) (h1 : FS C rm (rest :: K) body ρ emb embL ma) (h2 : FS C rm (rest :: K) orelse ρ emb embL mb) : FS C rm K (.If c body orelse pos :: rest) ρ emb embL (mt >>= fun t => bif t then ma else mb) := by
  intro ps s S D r w
  refine wsk_cons (zs_if wt_zt wss_zss wss_zss) ?_
  refine hc ps s S _ r ((sat_bind w).mono (fun t s' w' S' r' => ?_) fun _ _ h => h)
  cases t with
  | true => exact h1 ps s' S' D r' w'
  | false => exact h2 ps s' S' D r' w'
theorem s_join {k : T1 → M (Fl L T)} (hc : FT C c ρ mt) (h1 : FS C rm [] body ρ emb1 embL m1) (h2 : FS C rm [] orelse ρ emb1 embL m2) (hr : ∀ t, FS C rm K rest (emb1 t) emb embL (k t)) : FS C rm K (.If c body orelse pos :: rest) ρ emb embL (mt >>= fun t => (bif t then m1 else m2) >>= flk k) := by
  intro ps s S D r w
  refine wsk_cons (zs_if wt_zt wss_zss wss_zss) ?_
  refine hc ps s S _ r ((sat_bind w).mono (fun t s' w' S' r' => ?_) fun _ _ h => h)
  have flow : ∀ (fl : Fl L T1) s2, sat (flk k fl s2) (FlOk C rm D emb embL) (XOk C.X.mg C.G C.EZ) → FlOk C rm { D with nx := fun ρ S => WSK C.X C.B K rest D ρ S } emb1 embL fl s2 := by
    intro fl s2 w2
    cases fl with
    | nx t => exact fun ps2 S2 ρ2 r2 f2 => WSK.forget (Fg.den ps2 f2) (hr t ps2 s2 S2 D r2 w2)
    | bk l => exact w2
    | ct l => exact w2
    | rt v => exact w2
  cases t with
  | true => exact h1 ps s' S' { D with nx := fun ρ S => WSK C.X C.B K rest D ρ S } r' ((sat_bind w').mono flow fun _ _ h => h)
  | false => exact h2 ps s' S' { D with nx := fun ρ S => WSK C.X C.B K rest D ρ S } r' ((sat_bind w').mono flow fun _ _ h => h)
variable {α : Type} {pt : PyData → Option α} {g : ZG} {asg : α → List (Nat × PyData)} {own : List Nat}
theorem sat_putC {j : Nat} {i d : PyData} {s : Cells} {Q : Unit → Cells → Prop} {E : Exn → Cells → Prop} (h : sat (putC j i d s) Q E) : ∃ xs k n, s[j]? = some (some (.lst xs)) ∧ i = .int k ∧ ixN xs.length k = some n ∧ Q () (s.set j (some (.lst (xs.set n d)))) := by
  unfold putC at h
  split at h
  · rename_i xs k e
    split at h
    · rename_i n en; exact ⟨xs, k, n, e, rfl, en, h⟩
    · exact h.elim
  · exact h.elim
theorem s_sub (i0 j : Nat) {x : Str} {px pt' : Pos} {ix : Expr} {k : Unit → M (Fl L T)} (he : FE C e ρ me) (hi : FE C ix ρ mi) (hr : FS C rm K rest ρ emb embL (k ())) (hρ : ρ[i0]? = some (some (.c j)) := by rfl) (hN : C.X.N[i0]? = some x := by rfl) (hv : Vis C.X.env.scope x := by first | exact Or.inl rfl | exact Or.inr (Or.inl rfl) | exact Or.inr (Or.inr rfl)) (hd : (x == ("__debug__" : Str)) = false := by decide)
    (hcd : (x == ("__classdict__" : Str)) = false := by decide) (hs : swapsWithSole [.Subscript (.Name x px) ix pt'] e pos.line C.X.env = pure false := by rfl) (hw : swappedStores [.Subscript (.Name x px) ix pt'] e C.X.env = pure none := by rfl)
    (h1 : (assignEach [.Subscript (.Name x px) ix pt'] C.X.env).map (·.2) = [assign (.Subscript (.Name x px) ix pt') C.X.env] := by rfl)
    (has : ∀ v, assign (.Subscript (.Name x px) ix pt') C.X.env v = (do
      let ov ← holding [v] (eval (.Name x px) C.X.env)
      let iv ← holding [v, ov] (eval ix C.X.env)
      standAt pt'
      holding [v, ov, iv] (setItem ov iv v)
      release [v, ov, iv] []) := by intro _; rfl) :
    FS C rm K (.Assign [.Subscript (.Name x px) ix pt'] e pos :: rest) ρ emb embL (me >>= fun v => mi >>= fun i => putC j i v >>= k) := by
  intro ps s S D r w
  refine wsk_cons (zs_asg we_ze (zg_sub (zv i0 hN hv hd hcd) we_ze has) hs hw h1) ?_
  refine he ps s S _ r ((sat_bind w).mono (fun v s' w' S' r' => ?_) fun _ _ h => h)
  show zgSub _ _ _ _ _ _
  unfold zgSub
  show zVar i0 _ _ _
  unfold zVar
  rw [den_get ps ρ i0 hρ]
  refine hi ps s' S' _ r' ((sat_bind w').mono (fun i s2 w2 S2 r2 => ?_) fun _ _ h => h)
  obtain ⟨xs, kk, n, ex, rfl, en, w3⟩ := sat_putC (sat_bind w2)
  have o := (r2.at ex).2
  show (match S2 (ps.getD j 0) with
    | some (.lst xs) => match ixN xs.length kk with
      | some n => WSK C.X C.B K rest D (VEnv.den ps ρ) (S2.put (ps.getD j 0) (.lst (xs.set n v)))
      | none => False
    | _ => False)
  rw [o]
  show (match ixN xs.length kk with
      | some n => WSK C.X C.B K rest D (VEnv.den ps ρ) (S2.put (ps.getD j 0) (.lst (xs.set n v)))
      | none => False)
  rw [en]
  exact hr ps _ _ D (r2.upd ex) w3
theorem f_app (i0 j : Nat) {x : Str} {px apos : Pos} (he : FE C e ρ me) (hρ : ρ[i0]? = some (some (.c j)) := by rfl) (hN : C.X.N[i0]? = some x := by rfl) (hv : Vis C.X.env.scope x := by first | exact Or.inl rfl | exact Or.inr (Or.inl rfl) | exact Or.inr (Or.inr rfl)) (hd : (x == ("__debug__" : Str)) = false := by decide)
    (hcd : (x == ("__classdict__" : Str)) = false := by decide)
    (pe : ∀ {ta : TE} {tb : TE}, PE C.X (.Name x px) ta → PE C.X e tb → PE C.X (.Call (.Attribute (.Name x px) "append" apos) [e] [] pos) (tBM C.X.K "list" rAppend ta (tCons tb tNil)) := by intro ta tb h1 h2; exact pe_bm PySem.F.plainAttrs_list PySem.F.slot_list_append PySem.F.type_list_append mt_append h1 (pa_cons h2 pa_nil)) :
    FE C (.Call (.Attribute (.Name x px) "append" apos) [e] [] pos) ρ (getC j >>= fun _ => me >>= fun d => appC j d) := by
  intro ps s S Q r w
  refine (ze_app (zv i0 hN hv hd hcd) we_ze pe).we ?_
  show zVar i0 _ _ _
  unfold zVar
  rw [den_get ps ρ i0 hρ]
  obtain ⟨xs, ex, w⟩ := sat_getC (sat_bind w)
  refine ⟨⟨xs, (r.at ex).2⟩, he ps s S _ r ((sat_bind w).mono (fun d s' w' S' r' => ?_) fun _ _ h => h)⟩
  unfold appC at w'
  cases e2 : s'[j]? with
  | none => simp only [e2] at w'; exact w'.elim
  | some o =>
    cases o with
    | none => simp only [e2] at w'; exact w'.elim
    | some cl =>
      cases cl with
      | tab _ => simp only [e2] at w'; exact w'.elim
      | own _ _ => simp only [e2] at w'; exact w'.elim
      | tbl _ => simp only [e2] at w'; exact w'.elim
      | dct _ => simp only [e2] at w'; exact w'.elim
      | lst ys =>
        simp only [e2] at w'
        split at w'
        · rename_i hz
          rw [line_eq] at hz
          show (match S' (ps.getD j 0) with
            | some (.lst xs) => xs.length < sizeLine ∧ Q (.d .none) (S'.put (ps.getD j 0) (.lst (xs ++ [d])))
            | _ => False)
          rw [(r'.at e2).2]
          exact ⟨hz, w' _ (r'.upd e2)⟩
        · exact w'.elim
end
end ZL
namespace V
def fuel : Nat := 1000000000
end V
namespace ZL
open PySem PySem.Spec PyProof.Rows L2 V
section
variable {C : Ct} {rm : Bool} {e a b c tg iter : Expr} {es : List Expr} {ρ : VEnv} {pos p : Pos} {K : List (List Stmt)} {rest body orelse : List Stmt} {L T T1 α : Type} {emb : T → VEnv} {embL : L → VEnv} {emb1 : T1 → VEnv} {m : M (Fl L T)} {me : M PyData} {mi mN : M (List PyData)} {mt : M Bool}
  {pt : PyData → Option α} {g : ZG} {asg : α → List (Nat × PyData)} {own : List Nat}
theorem s_for {bodyM : α → T1 → M (Fl T1 T1)} {t0 : T1} {k : T1 → M (Fl L T)} (hp : PassesOwn (model C.X.prog C.X.w) C.X.A C.X.env C.X.xe) (hi : FI C tg iter ρ mi) (zg : ZGt C.X C.B tg own g) (hg : GOk g pt asg) (hb : ∀ u t, FS C rm [] body (setl (emb1 t) (asg u)) emb1 emb1 (bodyM u t)) (h0 : Fg (emb1 t0) ρ) (hr : ∀ t, FS C rm K rest (emb1 t) emb embL (k t)) (hc : C.X.calm = true := by rfl)
    (hs : ∀ x, foldedSetIterable iter C.X.env x = pure x := by intro _; rfl) : FS C rm K (.For tg iter body [] pos :: rest) ρ emb embL (mi >>= fun xs => V.forM pt bodyM xs t0 >>= flk k) := by
  intro ps s S D r w
  refine wsk_cons (zs_for hp wi_zi zg wss_zss hc hs) ?_
  refine hi ps s S _ r ((sat_bind w).mono (fun xs s' w' S' r' => ?_) fun _ _ h => h)
  have W : ∃ W : Fl L T1 → Cells → Prop, W = FlOk C rm { D with nx := fun ρ S => WSK C.X C.B K rest D ρ S } emb1 embL := ⟨_, rfl⟩
  obtain ⟨W, eW⟩ := W
  have run : sat (V.forM (L := L) pt bodyM xs t0 s') W (XOk C.X.mg C.G C.EZ) := (sat_bind w').mono (fun fl s2 w2 => by
    subst eW
    cases fl with
    | nx t => exact fun ps2 S2 ρ2 r2 f2 => WSK.forget (Fg.den ps2 f2) (hr t ps2 s2 S2 D r2 w2)
    | bk l => exact w2
    | ct l => exact w2
    | rt v => exact w2) fun _ _ h => h
  refine ⟨⟨fun i ρz S' => ∃ t ps' s', Fgz (VEnv.den ps' (emb1 t)) ρz ∧ Rel C.G ps' s' S' ∧ sat (V.forM (L := L) pt bodyM (xs.drop i) t s') W (XOk C.X.mg C.G C.EZ), ⟨t0, ps, s', Fg.den ps h0, r', by rw [List.drop_zero]; exact run⟩, fun _ _ _ _ _ => need_nil, ?_, ?_⟩⟩
  · rintro i x ρz S' ex ⟨t, ps', s', fz, r', run⟩
    have hi : i < xs.length := (List.getElem?_eq_some_iff.mp ex).1
    have ed : xs.drop i = x :: xs.drop (i + 1) := by rw [← (List.getElem?_eq_some_iff.mp ex).2]; exact List.drop_eq_getElem_cons hi
    rw [ed] at run
    unfold V.forM at run
    obtain ⟨u, eu, run1⟩ := sat_ofO (sat_bind run)
    refine hg x u ρz S' _ eu ?_
    have go := hb u t ps' s' S' { D with nx := fun ρz S' => ∃ t ps' s', Fgz (VEnv.den ps' (emb1 t)) ρz ∧ Rel C.G ps' s' S' ∧ sat (V.forM (L := L) pt bodyM (xs.drop (i + 1)) t s') W (XOk C.X.mg C.G C.EZ), ct := fun ρz S' => ∃ t ps' s', Fgz (VEnv.den ps' (emb1 t)) ρz ∧ Rel C.G ps' s' S' ∧ sat (V.forM (L := L) pt bodyM (xs.drop (i + 1)) t s') W (XOk C.X.mg C.G C.EZ), bk := fun ρ S => WSK C.X C.B K rest D ρ S } r' ((sat_bind run1).mono (fun fl s2 w2 => by
      cases fl with
      | nx t' => exact fun ps2 S2 ρ2 r2 f2 => ⟨t', ps2, s2, Fg.den ps2 f2, r2, w2⟩
      | ct t' => exact fun ps2 S2 ρ2 r2 f2 => ⟨t', ps2, s2, Fg.den ps2 f2, r2, w2⟩
      | bk t' => subst eW; exact w2
      | rt v => subst eW; exact w2) fun _ _ h => h)
    rw [den_setl] at go
    exact WSs.forget (fg_setz _ fz) go
  · rintro ρz S' ⟨t, ps', s', fz, r', run⟩
    rw [List.drop_length] at run
    subst eW
    exact WSK.forget fz (run ps' S' _ r' (Fg.refl _))
theorem s_while {cM : T1 → M Bool} {bodyM : T1 → M (Fl T1 T1)} {t0 : T1} {n : Nat} {k : T1 → M (Fl L T)} (hp : PassesOwn (model C.X.prog C.X.w) C.X.A C.X.env C.X.xe) (hc : ∀ t, FT C c (emb1 t) (cM t)) (hb : ∀ t, FS C rm [] body (emb1 t) emb1 emb1 (bodyM t)) (h0 : Fg (emb1 t0) ρ) (hr : ∀ t, FS C rm K rest (emb1 t) emb embL (k t)) : FS C rm K (.While c body [] pos :: rest) ρ emb embL (V.whileM cM bodyM n t0 >>= flk k) := by
  intro ps s S D r w
  refine wsk_cons (zs_while hp wt_zt wss_zss) ?_
  have W : ∃ W : Fl L T1 → Cells → Prop, W = FlOk C rm { D with nx := fun ρ S => WSK C.X C.B K rest D ρ S } emb1 embL := ⟨_, rfl⟩
  obtain ⟨W, eW⟩ := W
  have run : sat (V.whileM (L := L) cM bodyM n t0 s) W (XOk C.X.mg C.G C.EZ) := (sat_bind w).mono (fun fl s2 w2 => by
    subst eW
    cases fl with
    | nx t => exact fun ps2 S2 ρ2 r2 f2 => WSK.forget (Fg.den ps2 f2) (hr t ps2 s2 S2 D r2 w2)
    | bk l => exact w2
    | ct l => exact w2
    | rt v => exact w2) fun _ _ h => h
  refine ⟨⟨fun m ρz S' => ∃ t ps' s', Fgz (VEnv.den ps' (emb1 t)) ρz ∧ Rel C.G ps' s' S' ∧ sat (V.whileM (L := L) cM bodyM m t s') W (XOk C.X.mg C.G C.EZ), ⟨n, t0, ps, s, Fg.den ps h0, r, run⟩, ?_⟩⟩
  rintro m ρz S' ⟨t, ps', s', fz, r', run⟩
  cases m with
  | zero => exact run.elim
  | succ m =>
    rw [V.whileM_succ] at run
    refine WT.forget fz (hc t ps' s' S' _ r' ((sat_bind run).mono (fun b s2 w2 S2 r2 => ?_) fun _ _ h => h))
    cases b with
    | true =>
      have go := hb t ps' s2 S2 { D with nx := fun ρz S' => ∃ m', m' < m + 1 ∧ ∃ t ps' s', Fgz (VEnv.den ps' (emb1 t)) ρz ∧ Rel C.G ps' s' S' ∧ sat (V.whileM (L := L) cM bodyM m' t s') W (XOk C.X.mg C.G C.EZ), ct := fun ρz S' => ∃ m', m' < m + 1 ∧ ∃ t ps' s', Fgz (VEnv.den ps' (emb1 t)) ρz ∧ Rel C.G ps' s' S' ∧ sat (V.whileM (L := L) cM bodyM m' t s') W (XOk C.X.mg C.G C.EZ), bk := fun ρ S => WSK C.X C.B K rest D ρ S } r2 ((sat_bind w2).mono (fun fl s3 w3 => by
        cases fl with
        | nx t' => exact fun ps3 S3 ρ3 r3 f3 => ⟨m, Nat.lt_succ_self _, t', ps3, s3, Fg.den ps3 f3, r3, w3⟩
        | ct t' => exact fun ps3 S3 ρ3 r3 f3 => ⟨m, Nat.lt_succ_self _, t', ps3, s3, Fg.den ps3 f3, r3, w3⟩
        | bk t' => subst eW; exact w3
        | rt v => subst eW; exact w3) fun _ _ h => h)
      exact WSs.forget fz go
    | false =>
      subst eW
      exact WSK.forget fz (w2 ps' S2 _ r2 (Fg.refl _))
variable {iter2 elt : Expr} {ifs : List Expr} {scope : Scope} {own2 : List (Str × Nat)} {o : List Nat} {cnd : α → M Bool} {f : α → M PyData}
theorem s_raise {x : Str} {Ca : Addr} {bmB : List Value} {Bn newId initId : String} {msg : Str} {j : Nat} {p2 pos' : Pos} (hx : Tk C.X C.B (fun _ zx S => C.EZ zx S)) (Fx : ExcBaseFacts Bn newId initId bmB) (q : PySem.W.excIn C.X.K Ca bmB newId = true) (gC : C.X.mg x = some (.ref Ca)) (kC : PySem.W.keepIn C.X.K (.ref Ca) = true) (rr : Raises C.X (.ref Ca)) (hc : C.X.calm = true := by rfl) (hg : Gl C.X x := by rfl)
    (hdb : (x == ("__debug__" : Str)) = false := by decide) : FS C rm K (.Raise (some (.Call (.Name x p) [.Constant (.str msg) j p2] [] pos)) none pos' :: rest) ρ emb embL (V.raise x) := by
  intro ps s S D r w
  exact wsk_cons (zs_raise hx Fx q gC kC rr hc hg hdb) (w ⟨Ca, []⟩ ps S r ⟨gC, rfl⟩)
theorem s_par {i j : Nat} {x y : Str} {px py pt' : Pos} {kt k2 pt2} {mp : M (PyData × PyData)} {k : PyData × PyData → M (Fl L T)} (hN : C.X.N.Nodup) (ha : FA C [a, b] ρ [] mp (bi2 fun u v => pure (u, v))) (hr : ∀ u, FS C rm K rest ((ρ.set i (some (.d u.1))).set j (some (.d u.2))) emb embL (k u)) (hc : C.X.calm = true := by rfl) (hi : C.X.N[i]? = some x := by rfl) (hj : C.X.N[j]? = some y := by rfl) (hij : i ≠ j := by decide)
    (hx : C.X.env.scope.names.lookup x = some .local := by rfl) (hy : C.X.env.scope.names.lookup y = some .local := by rfl)
    (hw : swappedStores [.Tuple [.Name x px, .Name y py] kt pt'] (.Tuple [a, b] k2 pt2) C.X.env = pure (some [x, y]) := by rfl)
    (hs : swapsWithSole [.Tuple [.Name x px, .Name y py] kt pt'] (.Tuple [a, b] k2 pt2) pos.line C.X.env = pure false := by rfl) :
    FS C rm K (.Assign [.Tuple [.Name x px, .Name y py] kt pt'] (.Tuple [a, b] k2 pt2) pos :: rest) ρ emb embL (mp >>= k) := by
  intro ps s S D r w
  refine wsk_cons (zs_par hN wa_za hc hi hj hij hx hy hw hs) ?_
  refine ha ps s S _ _ r (sat_bind w) fun vs s' S' r' w' => ?_
  rw [List.nil_append] at w'
  unfold bi2 at w'
  split at w'
  · rename_i u v
    have := hr (u, v) ps s' S' D r' w'
    rw [den_set, den_set] at this
    exact this
  · exact w'.elim
variable {maN mbN : M (List PyData)} {ma mb : M PyData}
end
def startE (N : List Str) (vs : List Vl) : VEnv := vs.map some ++ List.replicate (N.length - vs.length) none
theorem den_start (ps : List Addr) (N : List Str) (vs : List Vl) : VEnv.den ps (startE N vs) = zstart N (vs.map (Vl.den ps)) := by
  unfold startE zstart VEnv.den
  rw [List.map_append, List.map_map, List.map_replicate, List.map_map, List.length_map]
  rfl
theorem enc_den (ps q : List Addr) : ∀ (ms : List Md) (i : Nat) (ds : List PyData), i + nC ms ≤ ps.length → (encode ms i ds).map (Vl.den (ps ++ q)) = (encode ms i ds).map (Vl.den ps)
  | [], _, _, _ => rfl
  | .d :: ms, i, [], h => rfl
  | .d :: ms, i, x :: ds, h => by simp only [encode, List.map_cons]; rw [enc_den ps q ms i ds h]; rfl
  | .k :: ms, i, [], h => rfl
  | .k :: ms, i, x :: ds, h => by simp only [encode, List.map_cons]; rw [enc_den ps q ms i ds h]; rfl
  | .c :: ms, i, ds, h => by
    simp only [nC] at h
    simp only [encode, List.map_cons]
    rw [enc_den ps q ms (i + 1) ds (by omega)]
    congr 1
    show Z.r _ = Z.r _
    congr 1
    rw [List.getD_eq_getElem?_getD, List.getD_eq_getElem?_getD, List.getElem?_append_left (by omega)]
theorem Rel.more {ps0 : List Addr} {s0 : Cells} {S : Sto} (r : Rel ⟨ps0, S⟩ ps0 s0 S) (nl : Nat) : Rel ⟨ps0, S⟩ (ps0 ++ List.replicate nl 0) (s0 ++ List.replicate nl none) S := by
  have get : ∀ {i : Nat} {c : Cell}, (s0 ++ List.replicate nl none)[i]? = some (some c) → s0[i]? = some (some c) ∧ i < s0.length := by
    intro i c e
    by_cases h : i < s0.length
    · rw [List.getElem?_append_left h] at e; exact ⟨e, h⟩
    · rw [List.getElem?_append_right (by omega), List.getElem?_replicate] at e
      split at e <;> cases e
  have gp : ∀ {i : Nat} {a : Addr}, i < s0.length → (ps0 ++ List.replicate nl 0)[i]? = some a → ps0[i]? = some a := fun h e => by
    rw [List.getElem?_append_left (by rw [r.len]; exact h)] at e; exact e
  refine ⟨by simp [r.len], fun i c a e1 e2 => ?_, fun i k ci ck a e1 e2 e3 e4 => ?_, r.fr, fun i c a e1 e2 => ?_, r.gp, by simp, r.owS, r.owG, r.gq, fun i q m e => r.cn i q m (get e).1⟩
  · obtain ⟨h1, h2⟩ := get e1; exact r.own i c a h1 (gp h2 e2)
  · obtain ⟨h1, h2⟩ := get e1; obtain ⟨h3, h4⟩ := get e2; exact r.inj i k ci ck a h1 h3 (gp h2 e3) (gp h4 e4)
  · obtain ⟨h1, h2⟩ := get e1; exact r.loc i c a h1 (gp h2 e2)
theorem Rel.less {G : Gd} {ps : List Addr} {s : Cells} {S : Sto} (r : Rel G ps s S) {n : Nat} (hn : G.p.length = n) : Rel G G.p (s.take n) S := by
  subst hn
  have hl : G.p.length ≤ ps.length := by rw [← r.par, List.length_take]; omega
  have get : ∀ {i : Nat} {c : Cell}, (s.take G.p.length)[i]? = some (some c) → s[i]? = some (some c) := by
    intro i c e
    rw [List.getElem?_take] at e
    split at e
    · exact e
    · cases e
  have gp : ∀ {i : Nat} {a : Addr}, G.p[i]? = some a → ps[i]? = some a := by
    intro i a e
    rw [← r.par, List.getElem?_take] at e
    split at e
    · exact e
    · cases e
  refine ⟨?_, fun i c a e1 e2 => r.own i c a (get e1) (gp e2), fun i k ci ck a e1 e2 e3 e4 => r.inj i k ci ck a (get e1) (get e2) (gp e3) (gp e4), r.fr, fun i c a e1 e2 => r.loc i c a (get e1) (gp e2), r.gp, List.take_length, r.owS, r.owG, r.gq, fun i q m e => r.cn i q m (get e)⟩
  rw [List.length_take, ← r.len]
  omega
section
variable {Ts : Tbs} {P : Program} {w : World} {K : PySem.W.Frag} {mg : Str → Option Value} {base : Heap} {k : Nat} {f : Addr} {fd : FuncData} {x qual : Str} {st : Stmt} {N ps : List Str} {ms : List Md} {rm : Bool} {Fm : List PyData → M PyData}
abbrev EzOf (Ez : ZX → Sto → Prop) : XW := fun zx S' => ∃ S2, Sub S2 S' ∧ Ez zx S2
theorem sat_frame {nl : Nat} {m : M PyData} {s : Cells} {Q : PyData → Cells → Prop} {E : Exn → Cells → Prop} (h : sat (V.frame nl m s) Q E) : sat (m (s ++ List.replicate nl none)) (fun a s' => Q a (s'.take s.length)) fun x s' => E x (s'.take s.length) := by
  unfold V.frame at h
  unfold sat at *
  cases e : m (s ++ List.replicate nl none) with
  | ok a s' => rw [e] at h; exact h
  | ex x s' => rw [e] at h; exact h
  | bad => rw [e] at h; exact h
theorem vbody {X : Cx} {zs : List Z} {S : Sto} {H : Hp} {Qz : ZQ} {Ez : ZX → Sto → Prop} {body : List Stmt} (hmg : X.mg = mg) (hN : X.N = N) (h : VSp Ts mg ms rm Fm zs S Qz Ez)
    (hb : ∀ ps0 : List Addr, Gt Ts ⟨ps0, S⟩ → ps0.length = nC ms → ∀ ds : List PyData, ds.length = nD ms → ∃ nl bodyM, Fm ds = V.frame nl (fin bodyM) ∧ FS ⟨X, ⟨S, H⟩, ⟨ps0, S⟩, EzOf Ez⟩ rm [] body (startE N (encode ms 0 ds)) (fun _ : Unit => List.replicate N.length none) (fun _ : Unit => []) bodyM) :
    ∃ t, ZSs X ⟨S, H⟩ body t ∧ t { nx := fun _ S' => ∃ S2, Sub S2 S' ∧ Qz (.d .none) S2, rt := fun z S' => ∃ S2, Sub S2 S' ∧ Qz z S2 } (zstart N zs) S := by
  subst hmg
  obtain ⟨ht, ds, ps0, s0, hn, e1, e0, e2, e3, r, w⟩ := h
  obtain ⟨nl, bodyM, eF, fs⟩ := hb ps0 ⟨ht, fun x hx z => hn x.1 z x.2 (ht x hx)⟩ e3 ds e2
  refine ⟨_, wss_zss, ?_⟩
  rw [eF] at w
  have w1 := sat_frame w
  have ls : s0.length = ps0.length := r.len.symm
  have go := fs (ps0 ++ List.replicate nl 0) (s0 ++ List.replicate nl none) S { nx := fun _ S' => ∃ S2, Sub S2 S' ∧ Qz (.d .none) S2, rt := fun z S' => ∃ S2, Sub S2 S' ∧ Qz z S2 } (r.more nl) ((sat_bind w1).mono (fun fl s' w2 => ?_) fun x s' w2 zx ps S' r' xr => ⟨S', .refl _, w2 zx S' (r'.less (by exact ls.symm)) xr⟩)
  · rw [den_start, enc_den ps0 _ ms 0 ds (by omega), ← e1] at go
    exact go
  · cases fl with
    | nx t =>
      intro ps S' ρ r' _
      rcases w2 with ⟨_, w2⟩ | ⟨_, xs, e, _⟩
      · exact ⟨S', .refl _, w2 S' (r'.less (by exact ls.symm))⟩
      · cases e
    | bk l => exact w2.elim
    | ct l => exact w2.elim
    | rt v =>
      rcases w2 with ⟨hrm, w2⟩ | ⟨hrm, xs, e, w2⟩
      · exact .inl ⟨hrm, fun ps S' r' => ⟨S', .refl _, w2 S' (r'.less (by exact ls.symm))⟩⟩
      · refine .inr ⟨hrm, xs, e, fun ps S' p r' fr => ⟨S', .refl _, w2 S' p (r'.less (by exact ls.symm)) ⟨fr.1, fun j c ea eb => ?_, fr.2.2⟩⟩⟩
        rw [List.getElem?_take] at ea
        split at ea
        · refine fr.2.1 j c ea ?_
          have := r'.par
          have h2 : (ps.take ps0.length)[j]? = some p := by rw [show ps.take ps0.length = ps0 from this]; exact eb
          rw [List.getElem?_take] at h2
          split at h2
          · exact h2
          · cases h2
        · cases ea
theorem vfnD {params : Arguments} {body : List Stmt} {scope : Scope} {dvs : List V} {kws : List (Str × V)} (F : FunD K x qual params body scope dvs kws f fd) (Sc : FnScope N ps scope) (hn : ms.length = ps.length)
    (hb : ∀ (cdv : Value), fd.code = cdv → ∀ (A : Around) (outer : List PySem.Env) (s : Shared) (H : Hp) (E : XK) (S : Sto) (Ez : ZX → Sto → Prop) (ps0 : List Addr), (A.deeper (envOfC qual scope s.heap.objs.size f cdv)).guards = some [] ∧ Gt Ts ⟨ps0, S⟩ → Room k (A.deeper (envOfC qual scope s.heap.objs.size f cdv)) →
      Tk (cxOf (L2N.CX P w) P w K mg base N qual scope f cdv A outer s H E) ⟨S, H⟩ (fun _ x S' => EzOf Ez x S') → ps0.length = nC ms → ∀ ds : List PyData, ds.length = nD ms →
      ∃ nl bodyM, Fm ds = V.frame nl (fin bodyM) ∧ FS ⟨cxOf (L2N.CX P w) P w K mg base N qual scope f cdv A outer s H E, ⟨S, H⟩, ⟨ps0, S⟩, EzOf Ez⟩ rm [] body (startE N (encode ms 0 ds)) (fun _ : Unit => List.replicate N.length none) (fun _ : Unit => []) bodyM) :
    ZFn P w K mg base (k + 1) f fd ps (VSp Ts mg ms rm Fm) :=
  zfnD F Sc (fun zs S Q E h => vsp_len hn zs S Q E h) vsp_mono fun cdv hcd A outer s H E zs S Qz Ez hG hr tk h =>
    vbody (X := cxOf (L2N.CX P w) P w K mg base N qual scope f cdv A outer s H E) rfl rfl h fun ps0 gt h0 ds hd => hb cdv hcd A outer s H E S Ez ps0 ⟨hG, gt⟩ hr tk h0 ds hd
end
end ZL
namespace V
def selL {α : Type} (sel : List Nat) (l : List α) : List α := sel.filterMap fun i => l[i]?
end V
namespace ZL
open PySem PySem.Spec PyProof.Rows L2 V
theorem vals_get : ∀ {vs : List L2.V} {us : List Value} (i : Nat), Vals vs us → (vs[i]? = none ∧ us[i]? = none) ∨ ∃ v u, vs[i]? = some v ∧ us[i]? = some u ∧ RelV v u
  | _, _, i, .nil => .inl ⟨by simp, by simp⟩
  | _, _, 0, .cons h t => .inr ⟨_, _, rfl, rfl, h⟩
  | _, _, i + 1, .cons h t => by simpa using vals_get i t
theorem vals_sel {vs : List L2.V} {us : List Value} (h : Vals vs us) : ∀ sel : List Nat, Vals (selL sel vs) (selL sel us)
  | [] => .nil
  | i :: r => by
    unfold selL
    rw [List.filterMap_cons, List.filterMap_cons]
    rcases vals_get i h with ⟨e1, e2⟩ | ⟨v, u, e1, e2, q⟩
    · rw [e1, e2]; exact vals_sel h r
    · rw [e1, e2]; exact .cons q (vals_sel h r)
theorem rzs_get {K : PySem.W.Frag} {H : Hp} : ∀ {vs : List L2.V} {zs : List Z} (i : Nat), RZs K H vs zs → (vs[i]? = none ∧ zs[i]? = none) ∨ ∃ v u, vs[i]? = some v ∧ zs[i]? = some u ∧ RZ K H v u
  | _, _, i, .nil => .inl ⟨by simp, by simp⟩
  | _, _, 0, .cons h t => .inr ⟨_, _, rfl, rfl, h⟩
  | _, _, i + 1, .cons h t => by simpa using rzs_get i t
theorem rzs_sel {K : PySem.W.Frag} {H : Hp} {vs : List L2.V} {zs : List Z} (h : RZs K H vs zs) : ∀ sel : List Nat, RZs K H (selL sel vs) (selL sel zs)
  | [] => .nil
  | i :: r => by
    unfold selL
    rw [List.filterMap_cons, List.filterMap_cons]
    rcases rzs_get i h with ⟨e1, e2⟩ | ⟨v, u, e1, e2, q⟩
    · rw [e1, e2]; exact rzs_sel h r
    · rw [e1, e2]; exact .cons q (rzs_sel h r)
theorem rzs_app {K : PySem.W.Frag} {H : Hp} : ∀ {vs ws : List L2.V} {zs ys : List Z}, RZs K H vs zs → RZs K H ws ys → RZs K H (vs ++ ws) (zs ++ ys)
  | _, _, _, _, .nil, h => h
  | _, _, _, _, .cons q t, h => .cons q (rzs_app t h)
theorem vals_app : ∀ {vs ws : List L2.V} {zs ys : List Value}, Vals vs zs → Vals ws ys → Vals (vs ++ ws) (zs ++ ys)
  | _, _, _, _, .nil, h => h
  | _, _, _, _, .cons q t, h => .cons q (vals_app t h)
abbrev gSel (sel : List Nat) {α : Type} (ds : List α) : List α → List α → List α := fun xs ys => selL sel (xs ++ (ds ++ ys))
section
variable {K : PySem.W.Frag} {x qual : Str} {params : Arguments} {body : List Stmt} {scope : Scope} {dvs : List L2.V} {kws : List (Str × L2.V)} {f : Addr} {fd : FuncData} {ps : List Str}
theorem FunD.zbn1 (F : FunD K x qual params body scope dvs [] f fd) (n : Nat) (ks : List Str) (sel : List Nat) (dz : List Z) (hd : dvs ≠ []) (hz : ∀ H, RZs K H dvs dz)
    (h : ∀ (T : Addr) (kV doc pm : Value) (an : Option Addr) (cdv ct : Value) (us its ws : List Value), us.length = n → its.length = dvs.length → ws.length = ks.length →
      ∃ k, bindArgs (PySem.W.fnOf x qual params body scope (.ref T) kV doc pm an cdv ct) ⟨us, ks.zip ws⟩ = seqItems? (.ref T) >>= k ∧ k (some its.toArray) = pure (ps.zip (selL sel (us ++ (its ++ ws))))) : ZBn K fd ps n ks (gSel sel dz) := by
  obtain ⟨oc, od, dV, kV, doc, pm, an, cdv, ct, osl, rfl, lk, hcd, hD, hK⟩ := F.ex
  rcases hD with ⟨e, _⟩ | ⟨_, T, o, its, m, rfl, lT, oT, rT⟩
  · exact absurd e hd
  · refine ⟨⟨gSel sel its, gSel sel dvs, ⟨fun s us ws X l1 l2 => ?_, fun r1 r2 => vals_sel (vals_app r1 (vals_app rT r2)) sel⟩, fun r1 r2 => rzs_sel (rzs_app r1 (rzs_app (hz _) r2)) sel⟩⟩
    obtain ⟨k, e1, e2⟩ := h T kV doc pm an cdv ct us its ws l1 rT.length.symm l2
    refine BindsTo.of_looks fun M => ?_
    rw [e1]
    exact looks_items X lT oT (.of_pure e2)
end
def FKw (C : Ct) (kws : List Keyword) (ρ : VEnv) (acc : List Vl) {β : Type} (m : M β) (k : List Vl → M β) : Prop :=
  ∀ ps s S (Q : List Z → Sto → Prop) (R : β → Cells → Prop), Rel C.G ps s S → sat (m s) R (XOk C.X.mg C.G C.EZ) → (∀ ds s' S', Rel C.G ps s' S' → sat (k (acc ++ ds) s') R (XOk C.X.mg C.G C.EZ) → Q (ds.map (Vl.den ps)) S') → WKw C.X C.B kws (VEnv.den ps ρ) S Q
def FAK (C : Ct) (es : List Expr) (kws : List Keyword) (ρ : VEnv) (acc : List Vl) {β : Type} (m : M β) (k : List Vl → List Vl → M β) : Prop :=
  ∀ ps s S (Q : List Z → List Z → Sto → Prop) (R : β → Cells → Prop), Rel C.G ps s S → sat (m s) R (XOk C.X.mg C.G C.EZ) → (∀ ds ys s' S', Rel C.G ps s' S' → sat (k (acc ++ ds) ys s') R (XOk C.X.mg C.G C.EZ) → Q (ds.map (Vl.den ps)) (ys.map (Vl.den ps)) S') → WAs C.X C.B es (VEnv.den ps ρ) S fun zs S1 => WKw C.X C.B kws (VEnv.den ps ρ) S1 fun ys S2 => Q zs ys S2
section
variable {C : Ct} {e a b c : Expr} {es : List Expr} {kws : List Keyword} {ρ : VEnv} {pos p kpos : Pos} {m : M PyData} {nm : Option Str}
theorem kw_nil {β : Type} {acc : List Vl} {m : M β} {k : List Vl → M β} (h : m = k acc := by rfl) : FKw C [] ρ acc m k := by
  subst h
  exact fun ps s S Q R r w q => zk_nil.we (q [] s S r (by rw [List.append_nil]; exact w))
theorem fk_kw {β : Type} {acc : List Vl} {m : M β} {k : List Vl → List Vl → M β} (h : FKw C kws ρ [] m (k acc)) : FAK C [] kws ρ acc m k := fun ps s S Q R r w q => za_nil.we (h ps s S _ R r w fun ds s' S' r' h' => q [] ds s' S' r' (by rw [List.append_nil]; exact h'))
theorem fk_at {β : Type} {acc : List Vl} {x : PyData} {m : M β} {k : List Vl → List Vl → M β} (he : FE C e ρ (pure x)) (hr : FAK C es kws ρ (acc ++ [.d x]) m k) (hs : starEach (e :: es) C.X.env = (false, eval e C.X.env) :: starEach es C.X.env := by rfl) : FAK C (e :: es) kws ρ acc m k := by
  intro ps s S Q R r w q
  refine (za_cons we_ze wa_za hs).we ?_
  refine he ps s S _ r ?_
  intro S1 r1
  exact hr ps s S1 (fun zs ys S' => Q (.d x :: zs) ys S') R r1 w fun ds ys s' S' r' h' => q (.d x :: ds) ys s' S' r' (by rw [List.append_assoc] at h'; exact h')
theorem selL_map {α β : Type} (g : α → β) (sel : List Nat) (l : List α) : selL sel (l.map g) = (selL sel l).map g := by
  unfold selL
  induction sel with
  | nil => rfl
  | cons i r ih =>
    rw [List.filterMap_cons, List.filterMap_cons, List.getElem?_map]
    cases l[i]? with
    | none => exact ih
    | some a =>
      show g a :: _ = g a :: _
      rw [ih]
def callKw (ms : List Md) (F : List PyData → M PyData) (sel : List Nat) (dv : List PyData) (n mm : Nat) (vs ys : List Vl) : M PyData := bif (vs.length == n) && (ys.length == mm) then callK ms F (selL sel (vs ++ (dv.map Vl.d ++ ys))) else bad
variable {Ts : Tbs} {k : Nat} {f : Addr} {fd : FuncData} {ps' ks : List Str} {ms : List Md} {F : List PyData → M PyData} {x : Str} {n : Nat} {sel : List Nat} {dv : List PyData}
theorem callKw_low (g : Gt Ts C.G) {ps : List Addr} {s : Cells} {S : Sto} {vs ys : List Vl} {Q : ZQ} (r : Rel C.G ps s S) (w : sat (callKw ms F sel dv n ks.length vs ys s) (fun d s' => ∀ S', Rel C.G ps s' S' → Q (.d d) S') (XOk C.X.mg C.G C.EZ)) :
    (vs.map (Vl.den ps)).length = n ∧ (ys.map (Vl.den ps)).length = ks.length ∧ VSp Ts C.X.mg ms false F (gSel sel (dv.map Z.d) (vs.map (Vl.den ps)) (ys.map (Vl.den ps))) S Q (fun zx S' => C.EZ zx S') := by
  unfold callKw at w
  cases e : (vs.length == n) && (ys.length == ks.length) with
  | false => simp only [e, cond_false] at w; exact w.elim
  | true =>
    simp only [e, cond_true] at w
    simp only [Bool.and_eq_true, beq_iff_eq] at e
    obtain ⟨js, ds, e1, nd, w2⟩ := sat_callK w
    refine ⟨by rw [List.length_map]; exact e.1, by rw [List.length_map]; exact e.2, ?_⟩
    have := call_low (rm := false) g r e1 nd (w2.mono (fun d s2 h => .inl ⟨rfl, h⟩) fun _ _ h => h)
    rw [← selL_map, List.map_append, List.map_append, List.map_map] at this
    exact this
theorem f_callK (Fn : ZFn C.X.prog C.X.w C.X.K C.X.mg C.X.base k f fd ps' (VSp Ts C.X.mg ms false F)) (hG : C.X.A.guards = some [] ∧ Gt Ts C.G) (hr : Room k C.X.A) (hm : C.X.mg x = some (.ref f)) (hk : PySem.W.keepIn C.X.K (.ref f) = true) (hb : ZBn C.X.K fd ps' n ks (gSel sel (dv.map Z.d))) (hx : Tk C.X C.B (fun _ zx S => C.EZ zx S))
    (ha : FAK C (e :: es) kws ρ [] m (callKw ms F sel dv n ks.length)) (hg : Gl C.X x := by rfl) (hall : (backToKw pos (keywordEach kws C.X.env)).all (·.1.isSome) = true := by rfl) (hks : (backToKw pos (keywordEach kws C.X.env)).filterMap (·.1) = ks := by rfl)
    (hdb : (x == ("__debug__" : Str)) = false := by decide) (he : starEach (e :: es) C.X.env = (false, eval e C.X.env) :: starEach es C.X.env := by rfl)
    (hpl : ((backTo pos (starEach (e :: es) C.X.env)).any (·.1) || (backToKw pos (keywordEach kws C.X.env)).any (·.1.isNone)) = false := by rfl) : FE C (.Call (.Name x p) (e :: es) kws pos) ρ m := by
  intro ps s S Q r w
  refine (ze_callK Fn hG.1 hr hm hk hb hx wa_za wk_zk hg hall hks hdb he hpl).we ?_
  exact ha ps s S (fun zs ys S' => zs.length = n ∧ ys.length = ks.length ∧ VSp Ts C.X.mg ms false F (gSel sel (dv.map Z.d) zs ys) S' Q (fun zx S' => C.EZ zx S')) _ r w fun vs ys s' S' r' w' => callKw_low hG.2 r' (by rw [List.nil_append] at w'; exact w')
theorem f_dict0 {pos : Pos} : FE C (.Dict [] [] pos) ρ (pure (.dict [])) := fun ps s S Q r w => (ze_dict0 pe_dnewK).we (w S r)
theorem vbad {Ts : Tbs} {P : Program} {w : World} {K : PySem.W.Frag} {mg : Str → Option Value} {base : Heap} {k : Nat} {qual : Str} {N ps : List Str} {ms : List Md} {rm : Bool} {params : Arguments} {body : List Stmt} {scope : Scope} {dvs : List L2.V} {kws : List (Str × L2.V)} (F : FunD K x qual params body scope dvs kws f fd) (Sc : FnScope N ps scope) (hn : ms.length = ps.length) {Fm : List PyData → M PyData} (h : ∀ ds, Fm ds = bad) : ZFn P w K mg base (k + 1) f fd ps (VSp Ts mg ms rm Fm) := by
  refine zfnD F Sc (fun zs S Q E h => vsp_len hn zs S Q E h) vsp_mono fun cdv _ A outer s H E zs S Qz Ez hG hr tk h' => ?_
  obtain ⟨_, ds, ps0, s0, _, _, _, _, _, _, w⟩ := h'
  rw [h ds] at w
  exact w.elim
end
end ZL
namespace V
open PySem PySem.Spec ZL L2
def catO : PyData → PyData → Option (List PyData)
  | .list i, .list j => if i.length + j.length ≤ line then some (i ++ j) else none
  | _, _ => none
abbrev catN (x y : PyData) : M (List PyData) := ofO (catO x y)
def catK {β : Type} (g : PyData → PyData → M β) : List Vl → M β
  | [.d x, .d y] => g x y
  | [.c j, .d y] => getC j >>= fun xs => g (.list xs) y
  | [.d x, .c j] => getC j >>= fun ys => g x (.list ys)
  | _ => bad
abbrev catL (x y : PyData) : M PyData := ofO ((catO x y).map .list)
end V
namespace ZL
open PySem PySem.Spec PyProof.Rows L2 V
section
variable {C : Ct} {e a b c : Expr} {es : List Expr} {ρ : VEnv} {pos p : Pos} {m : M PyData} {mN : M (List PyData)}
theorem catO_inv {x y : PyData} {zs : List PyData} (h : catO x y = some zs) : ∃ i j, x = .list i ∧ y = .list j ∧ i.length + j.length ≤ sizeLine ∧ zs = i ++ j := by
  unfold catO at h
  split at h
  · split at h
    · rename_i h1; cases h; rw [line_eq] at h1; exact ⟨_, _, rfl, rfl, h1, rfl⟩
    · cases h
  · cases h
theorem n_cat (h : FL C [a, b] ρ [] mN (catK catN)) : FN C (.BinOp a .Add b pos) ρ mN := by
  intro ps s S Q r w
  refine (ze_op zcatM we_ze we_ze).we ?_
  have := h ps s S (fun zs S' => match zs with | [x, y] => rZCatM x y S' Q | _ => True) _ r w fun ds s' S' r' w' => by
    rw [List.nil_append] at w'
    unfold catK at w'
    split at w'
    · obtain ⟨zs, e, q⟩ := sat_ofO w'
      obtain ⟨i, j, rfl, rfl, hz, rfl⟩ := catO_inv e
      exact ⟨hz, fun p hp => q _ p (r'.new hp) (r'.fresh hp)⟩
    · obtain ⟨xs, ex, w'⟩ := sat_getC (sat_bind w')
      obtain ⟨zs, e, q⟩ := sat_ofO w'
      obtain ⟨i, j, e1, rfl, hz, rfl⟩ := catO_inv e
      cases e1
      have o := (r'.at ex).2
      show rZCatM (.r _) _ _ _
      unfold rZCatM
      simp only [listZ, Vl.den]
      rw [o]
      exact ⟨hz, fun p hp => q _ p (r'.new hp) (r'.fresh hp)⟩
    · obtain ⟨xs, ex, w'⟩ := sat_getC (sat_bind w')
      obtain ⟨zs, e, q⟩ := sat_ofO w'
      obtain ⟨i, j, rfl, e1, hz, rfl⟩ := catO_inv e
      cases e1
      have o := (r'.at ex).2
      show rZCatM _ (.r _) _ _
      unfold rZCatM
      simp only [listZ, Vl.den]
      rw [o]
      exact ⟨hz, fun p hp => q _ p (r'.new hp) (r'.fresh hp)⟩
    · exact w'.elim
  exact this
theorem f_cat (h : FL C [a, b] ρ [] m (catK catL)) : FE C (.BinOp a .Add b pos) ρ m := by
  intro ps s S Q r w
  refine (ze_op zcat we_ze we_ze).we ?_
  have := h ps s S (fun zs S' => match zs with | [x, y] => rZCat x y S' Q | _ => True) _ r w fun ds s' S' r' w' => by
    rw [List.nil_append] at w'
    unfold catK at w'
    split at w'
    · obtain ⟨zs, e, q⟩ := sat_ofO w'
      obtain ⟨ws, e1, rfl⟩ := Option.map_eq_some_iff.mp e
      obtain ⟨i, j, rfl, rfl, hz, rfl⟩ := catO_inv e1
      exact ⟨hz, q S' r'⟩
    · obtain ⟨xs, ex, w'⟩ := sat_getC (sat_bind w')
      obtain ⟨zs, e, q⟩ := sat_ofO w'
      obtain ⟨ws, e1, rfl⟩ := Option.map_eq_some_iff.mp e
      obtain ⟨i, j, e2, rfl, hz, rfl⟩ := catO_inv e1
      cases e2
      have o := (r'.at ex).2
      show rZCat (.r _) _ _ _
      unfold rZCat
      simp only [listZ, Vl.den]
      rw [o]
      exact ⟨hz, q S' r'⟩
    · obtain ⟨xs, ex, w'⟩ := sat_getC (sat_bind w')
      obtain ⟨zs, e, q⟩ := sat_ofO w'
      obtain ⟨ws, e1, rfl⟩ := Option.map_eq_some_iff.mp e
      obtain ⟨i, j, rfl, e2, hz, rfl⟩ := catO_inv e1
      cases e2
      have o := (r'.at ex).2
      show rZCat _ (.r _) _ _
      unfold rZCat
      simp only [listZ, Vl.den]
      rw [o]
      exact ⟨hz, q S' r'⟩
    · exact w'.elim
  exact this
end
end ZL
namespace ZL
open PySem PySem.Spec PyProof.Rows L2 V
mutual
def dataB (K : PySem.W.Frag) : Nat → Value → PyData → Bool
  | _, .none, .none => true
  | _, .bool b, .bool c => b == c
  | _, .int i _, .int j => decide (i = j)
  | _, .str x _, .str y => decide (x = y)
  | n + 1, .ref a, .tuple ds => match K.lookup a with
    | some ⟨.type c, _, .seq its _, _⟩ => decide (c = "tuple") && (decide (its.size ≤ sizeLine) && dataAll K n its.toList ds)
    | _ => false
  | _, _, _ => false
def dataAll (K : PySem.W.Frag) : Nat → List Value → List PyData → Bool
  | _, [], [] => true
  | n + 1, u :: us, d :: ds => dataB K n u d && dataAll K n us ds
  | _, _, _ => false
end
theorem data_ok {K : PySem.W.Frag} : ∀ n : Nat, (∀ (u : Value) (d : PyData), dataB K n u d = true → ∃ v, RelV v u ∧ ∀ H, Fz K H v d) ∧ ∀ (us : List Value) (ds : List PyData), dataAll K n us ds = true → ∃ vs, Vals vs us ∧ ∀ H, FzAll K H vs ds := by
  intro n
  induction n with
  | zero =>
    constructor
    · intro u d h
      unfold dataB at h
      split at h
      · exact ⟨.non, rfl, fun _ => .non⟩
      · obtain rfl := beq_iff_eq.mp h; exact ⟨.bl _, rfl, fun _ => .bl _⟩
      · obtain rfl := of_decide_eq_true h; exact ⟨.int _, ⟨_, rfl⟩, fun _ => .int _⟩
      · obtain rfl := of_decide_eq_true h; exact ⟨.str _, ⟨_, rfl⟩, fun _ => .str _⟩
      · rename_i e; cases e
      · cases h
    · intro us ds h
      unfold dataAll at h
      split at h
      · exact ⟨[], .nil, fun _ => .nil⟩
      · rename_i e; cases e
      · cases h
  | succ n ih =>
    constructor
    · intro u d h
      unfold dataB at h
      split at h
      · exact ⟨.non, rfl, fun _ => .non⟩
      · obtain rfl := beq_iff_eq.mp h; exact ⟨.bl _, rfl, fun _ => .bl _⟩
      · obtain rfl := of_decide_eq_true h; exact ⟨.int _, ⟨_, rfl⟩, fun _ => .int _⟩
      · obtain rfl := of_decide_eq_true h; exact ⟨.str _, ⟨_, rfl⟩, fun _ => .str _⟩
      · rename_i m a ds e
        cases e
        split at h
        · rename_i c od its k osl el
          simp only [Bool.and_eq_true, decide_eq_true_eq] at h
          obtain ⟨vs, rv, f⟩ := ih.2 _ _ h.2.2
          exact ⟨.ref a, rfl, fun H => .tup (.inr ⟨_, its, k, el, congrArg Value.type h.1, rfl, h.2.1, rv⟩) (f H)⟩
        · cases h
      · cases h
    · intro us ds h
      unfold dataAll at h
      split at h
      · exact ⟨[], .nil, fun _ => .nil⟩
      · rename_i m u us d ds e
        cases e
        simp only [Bool.and_eq_true] at h
        obtain ⟨v, r, f⟩ := ih.1 _ _ h.1
        obtain ⟨vs, rv, fs⟩ := ih.2 _ _ h.2
        exact ⟨v :: vs, .cons r rv, fun H => .cons (f H) (fs H)⟩
      · cases h
def constB (x : Str) (d : PyData) (K : PySem.W.Frag) : Bool := match PySem.W.nsIn K mainGlobals x with
  | some (some u) => dataB K 40 u d
  | _ => false
theorem const_ok {K : PySem.W.Frag} {h : Heap} {mg : Str → Option Value} {x : Str} {d : PyData} (X : K.In h) (G : h.Ns mainGlobals mg) (c : constB x d K = true) {X' : Cx} {B : Bs} {p : Pos} (hK : X'.K = K) (hM : X'.mg = mg) (hg : Gl X' x) (hd : (x == ("__debug__" : Str)) = false) : ZE X' B (.Name x p) (zC (.d d)) := by
  unfold constB at c
  split at c
  · rename_i u e
    obtain ⟨v, r, f⟩ := (data_ok 40).1 u d c
    refine ze_glob hg (by rw [hM]; exact PySem.W.mg_of X G e) r (fun H => .d (by rw [hK]; exact f H)) hd
  · cases c
abbrev AlV : Type := He.AlD × Bool
def obsV (fa : List He.Fa) (fn : List He.DefD) (ex : List (PySem.W.Frag → Bool)) (K : PySem.W.Frag) : AlV := (He.obsD fa fn K, ex.all fun b => b K)
def SaysV (fa : List He.Fa) (fn : List He.DefD) (ex : List (PySem.W.Frag → Bool)) (K : PySem.W.Frag) : Prop := obsV fa fn ex K = (He.valD fn, true)
theorem SaysV.d {fa : List He.Fa} {fn : List He.DefD} {ex : List (PySem.W.Frag → Bool)} {K : PySem.W.Frag} (c : SaysV fa fn ex K) : He.SaysD fa fn K := congrArg (fun z : AlV => z.1) c
theorem SaysV.x {fa : List He.Fa} {fn : List He.DefD} {ex : List (PySem.W.Frag → Bool)} {K : PySem.W.Frag} (c : SaysV fa fn ex K) (i : Nat) {f : PySem.W.Frag → Bool} (h : ex[i]? = some f := by rfl) : f K = true := by
  have c1 : (ex.all fun b => b K) = true := congrArg (fun z : AlV => z.2) c
  exact List.all_eq_true.mp c1 f (List.mem_of_getElem? h)
end ZL
namespace V
open PySem PySem.Spec ZL L2
def inO (neg : Bool) : PyData → PyData → Option Bool
  | a, .list ds => if SeqAt.shaped a && SeqAt.shaped (.list ds) then some (inB neg ds a) else none
  | a, .tuple ds => if SeqAt.shaped a && SeqAt.shaped (.tuple ds) then some (inB neg ds a) else none
  | _, _ => none
abbrev inM (neg : Bool) (x y : PyData) : M Bool := ofO (inO neg x y)
def dats {β : Type} (k : List PyData → M β) (l : List Vl) : M β := match datV l with
  | some ds => k ds
  | none => bad
def tyM (T : String) (d : PyData) : M Unit := if tyD T d then pure () else bad
end V
namespace ZL
open PySem PySem.Spec PyProof.Rows L2 V
section
variable {C : Ct} {e a b c o : Expr} {es : List Expr} {ρ : VEnv} {pos : Pos}
variable {name : Str} {apos cpos : Pos} {T id : String} {g : PyData → List PyData → Option PyData} {mo : M PyData} {ma : PyData → M PyData}
theorem f_meth (pa : PlainAttrs T) (slot : Slot T name id) (hty : typeOf (.builtin id) = pure (.type "method_descriptor")) (hm : MtD C.X id g) (ho : FE C o ρ mo) (ha : ∀ d, FA C (e :: es) ρ [] (ma d) (dats fun ds => ofO (g d ds)))
    (hbase : attributeBase o name C.X.env (eval o C.X.env) = eval o C.X.env := by rfl)
    (hfew : ((backTo cpos (starEach (e :: es) C.X.env)).all (fun x => !x.1) && (backToKw cpos (keywordEach [] C.X.env)).all (fun x => x.1.isSome)
      && decide ((e :: es).length + ([] : List Keyword).length + (if ([] : List Keyword).isEmpty then 0 else 1) < 30)) = true := by rfl)
    (hline : (apos.endLine == cpos.line) = true := by rfl) (hs : starEach (e :: es) C.X.env = (false, eval e C.X.env) :: starEach es C.X.env := by rfl) (hplain : (backTo cpos (starEach es C.X.env)).any (·.1) = false := by rfl) :
    FE C (.Call (.Attribute o name apos) (e :: es) [] cpos) ρ (mo >>= fun d => tyM T d >>= fun _ => ma d) := by
  intro ps s S Q r w
  refine (ze_meth pa slot hty hm we_ze wa_za hbase hfew hline hs hplain).we ?_
  refine ho ps s S _ r ((sat_bind w).mono (fun d s' w' S' r' => ?_) fun _ _ h => h)
  unfold tyM at w'
  have w' := sat_bind w'
  split at w'
  · rename_i ht
    refine ⟨ht, ha d ps s' S' _ _ r' w' fun vs s2 S2 r2 w2 => ?_⟩
    rw [List.nil_append] at w2
    unfold dats at w2
    cases ev : datV vs with
    | none => rw [ev] at w2; exact w2.elim
    | some ds =>
      rw [ev] at w2
      obtain ⟨y, ey, q⟩ := sat_ofO w2
      rw [datas_map ev]
      simp only
      rw [ey]
      exact q S2 r2
  · exact w'.elim
variable {L T2 : Type} {rm : Bool} {K : List (List Stmt)} {rest : List Stmt} {emb : T2 → VEnv} {embL : L → VEnv}
end
end ZL
namespace V
open PySem PySem.Spec ZL L2
def zipO (x y : PyData) : Option (List PyData) := (rowD x).bind fun xs => (rowD y).bind fun ys => some (zipD xs ys)
def enumO (x : PyData) : Option (List PyData) := (rowD x).bind fun xs => some (enumD xs)
abbrev zipM (x y : PyData) : M (List PyData) := ofO (zipO x y)
abbrev enumM (x : PyData) : M (List PyData) := ofO (enumO x)
end V
namespace ZL
open PySem PySem.Spec PyProof.Rows L2 V
section
variable {C : Ct} {a b tg : Expr} {ρ : VEnv} {pos p tpos : Pos} {mi : M (List PyData)} {elts : List Expr} {kk : Nat}
end
end ZL
namespace V
open PySem PySem.Spec ZL L2
def repOk (k : Int) (n : Nat) : Bool := decide (-(2 ^ 62) ≤ k) && decide (k < 2 ^ 62) && decide (n * k.toNat ≤ line)
def repO : PyData → PyData → Option (List PyData)
  | .list xs, .int k => if repOk k xs.length then some (repD k.toNat xs) else none
  | _, _ => none
abbrev repN (x y : PyData) : M (List PyData) := ofO (repO x y)
abbrev repL (x y : PyData) : M PyData := ofO ((repO x y).map PyData.list)
def rgOk (i j : Int) : Bool := decide (-(2 ^ 62) ≤ i) && decide (i < 2 ^ 62) && decide (-(2 ^ 62) ≤ j) && decide (j < 2 ^ 62) && decide ((j - i).toNat ≤ 16777216)
def rgO : PyData → PyData → Option (List PyData)
  | .int i, .int j => if rgOk i j then some (rangeD i (j - i).toNat) else none
  | _, _ => none
abbrev rgN (x y : PyData) : M (List PyData) := ofO (rgO x y)
abbrev rgL (x y : PyData) : M PyData := ofO ((rgO x y).map PyData.list)
end V
namespace ZL
open PySem PySem.Spec PyProof.Rows L2 V
theorem repO_inv {x y : PyData} {zs : List PyData} (h : repO x y = some zs) : ∃ xs k, x = .list xs ∧ y = .int k ∧ RepOk k xs.length ∧ zs = repD k.toNat xs := by
  unfold repO at h
  split at h
  · split at h
    · rename_i hc
      cases h
      unfold repOk at hc
      simp only [Bool.and_eq_true, decide_eq_true_eq] at hc
      exact ⟨_, _, rfl, rfl, ⟨⟨hc.1.1, hc.1.2⟩, by rw [← line_eq]; exact hc.2⟩, rfl⟩
    · cases h
  · cases h
section
variable {C : Ct} {a b : Expr} {ρ : VEnv} {pos p p2 pos2 : Pos} {m : M PyData} {mN : M (List PyData)}
theorem f_rep (h : FL C [a, b] ρ [] m (bi2 repL)) : FE C (.BinOp a .Mult b pos) ρ m := by
  intro ps s S Q r w
  refine (ze_op zrep we_ze we_ze).we ?_
  refine fl_two h r w fun x y s' S' r' w' => ?_
  obtain ⟨d, e, q⟩ := sat_ofO w'
  obtain ⟨zs, e1, rfl⟩ := Option.map_eq_some_iff.mp e
  obtain ⟨xs, k, rfl, rfl, ok, rfl⟩ := repO_inv e1
  exact ⟨ok, q S' r'⟩
end
end ZL
namespace V
open PySem PySem.Spec ZL L2
def pQ2 {α β : Type} (p : PyData → Option α) (q : PyData → Option β) (d : PyData) : Option (α × β) := match rowD d with
  | some [x, y] => (p x).bind fun a => (q y).bind fun b => some (a, b)
  | _ => none
def pQ3 {α β γ : Type} (p : PyData → Option α) (q : PyData → Option β) (r : PyData → Option γ) (d : PyData) : Option (α × β × γ) := match rowD d with
  | some [x, y, z] => (p x).bind fun a => (q y).bind fun b => (r z).bind fun c => some (a, b, c)
  | _ => none
def pQ4 {α β γ δ : Type} (p : PyData → Option α) (q : PyData → Option β) (r : PyData → Option γ) (u : PyData → Option δ) (d : PyData) : Option (α × β × γ × δ) := match rowD d with
  | some [x, y, z, w] => (p x).bind fun a => (q y).bind fun b => (r z).bind fun c => (u w).bind fun d => some (a, b, c, d)
  | _ => none
def pS2 {α β γ : Type} (p : PyData → Option α) (q : PyData → Option β) (r : PyData → Option γ) : PyData → Option (α × β × γ)
  | .tuple (x :: y :: rest) => (p x).bind fun a => (q y).bind fun b => (r (.list rest)).bind fun c => some (a, b, c)
  | _ => none
end V
namespace ZL
open PySem PySem.Spec PyProof.Rows L2 V
section
variable {α β γ δ : Type} {p1 : PyData → Option α} {p2 : PyData → Option β} {p3 : PyData → Option γ} {p4 : PyData → Option δ} {g1 g2 g3 g4 : ZG} {a1 : α → List (Nat × PyData)} {a2 : β → List (Nat × PyData)} {a3 : γ → List (Nat × PyData)} {a4 : δ → List (Nat × PyData)}
end
end ZL
namespace V
open PySem PySem.Spec ZL L2
def popC (j : Nat) (i : PyData) : M PyData := fun s => match s[j]?, i with
  | some (some (.lst xs)), .int k => match popD xs k with
    | some (n, d) => .ok d (s.set j (some (.lst (xs.eraseIdx n))))
    | none => .bad
  | _, _ => .bad
end V
namespace ZL
open PySem PySem.Spec PyProof.Rows L2 V
section
variable {C : Ct} {e : Expr} {ρ : VEnv} {pos : Pos} {me : M PyData}
end
end ZL
namespace ZL
open PySem PySem.Spec PyProof.Rows L2 V
section
variable {C : Ct} {rm : Bool} {e : Expr} {es : List Expr} {is : List Nat} {ρ : VEnv} {acc : List (Nat × Vl)} {K : List (List Stmt)} {rest : List Stmt} {L T : Type} {emb : T → VEnv} {embL : L → VEnv} {m : M (Fl L T)} {me : M PyData} {mN : M (List PyData)} {pos : Pos}
end
end ZL
namespace ZL
open PySem PySem.Spec PyProof.Rows L2 V
section
variable {C : Ct} {rm : Bool} {e ix ix1 ix2 : Expr} {ρ : VEnv} {K : List (List Stmt)} {rest : List Stmt} {L T : Type} {emb : T → VEnv} {embL : L → VEnv} {me mi m1 m2 : M PyData} {pos : Pos}
end
end ZL
namespace V
open PySem PySem.Spec ZL L2
def sortedO : PyData → Option PyData
  | .list ds => (sortD ds).map PyData.list
  | _ => none
abbrev sortedM (x : PyData) : M PyData := ofO (sortedO x)
end V
namespace ZL
open PySem PySem.Spec PyProof.Rows L2 V
end ZL
namespace V
open PySem PySem.Spec ZL L2
end V
namespace ZL
open PySem PySem.Spec PyProof.Rows L2 V
end ZL
namespace V
open PySem PySem.Spec ZL L2
end V
namespace ZL
open PySem PySem.Spec PyProof.Rows L2 V
end ZL
namespace V
open PySem PySem.Spec ZL L2
end V
namespace ZL
open PySem PySem.Spec PyProof.Rows L2 V
end ZL
namespace V
open PySem PySem.Spec ZL L2
end V
namespace ZL
open PySem PySem.Spec PyProof.Rows L2 V
end ZL
namespace V
open PySem PySem.Spec ZL L2
def compsP {T : Type} (mt : PyData → Option T) (c : T → M Bool) (f : T → M (List PyData)) : List PyData → M (List PyData)
  | [] => pure []
  | x :: r => ofO (mt x) >>= fun t => c t >>= fun b => bif b then (f t >>= fun y => compsP mt c f r >>= fun ys => pure (y ++ ys)) else compsP mt c f r
def comps {T : Type} (mt : PyData → Option T) (c : T → M Bool) (f : T → M (List PyData)) (xs : List PyData) : M (List PyData) := noex (if xs.length ≤ line then compsP mt c f xs else bad)
abbrev one1 (m : M PyData) : M (List PyData) := m >>= fun y => pure [y]
abbrev setSortM (es : List PyData) : M PyData := ofO ((setSortD es).map PyData.list)
abbrev setLenM (es : List PyData) : M PyData := ofO ((setLenD es).map fun (n : Nat) => PyData.int (n : Int))
abbrev setOfM (es : List PyData) : M (List PyData) := ofO (if es.length < 63 then some es else none)
abbrev shortM (es : List PyData) : M PyData := ofO (if es.length ≤ line then some (PyData.list es) else none)
end V
namespace ZL
open PySem PySem.Spec PyProof.Rows L2 V
section
variable {X : Cx} {B : Bs} {pos p p2 q2 : Pos} {x : Str}
end
section
variable {X : Cx} {B : Bs} {elt t0 i0 t1 i1 : Expr} {ifs0 ifs1 : List Expr} {scope : Scope} {own : List (Str × Nat)} {o o1 vs1 : List Nat} {ti ti1 : ZTI} {g g1 : ZG} {tt tt1 : ZB} {te : ZT} {pos : Pos}
theorem mkL (P : Program) (w : World) (A : Around) (E : Value → Shared → Prop) (s : Shared) (Q : Value → Shared → Prop) (h : Q (.ref s.heap.objs.size) { s with heap := s.heap.push { cls := .type "list", data := .seq ([] : List Value).toArray } }) : wpAny (model P w) A (newList []) Q E s :=
  wpAny_newObj_type h (by show 0 ≤ sizeLine; decide)
theorem obL (P : Program) (w : World) (H : Hp) (h : Heap) : ObjOk P w (upd H h.objs.size (.lst [])) (h.push { cls := .type "list", data := .seq ([] : List Value).toArray }) h.objs.size (.lst []) := ⟨Nat.zero_le _, [], 0, .nil, Heap.get?_push_size _ rfl⟩
end
end ZL
namespace ZL
open PySem PySem.Spec PyProof.Rows L2 V
section
variable {C : Ct} {e tg iter elt : Expr} {ifs : List Expr} {ρ : VEnv} {scope : Scope} {pos p p2 q2 : Pos}
variable {T : Type} {mt : PyData → Option T} {asg : T → List (Nat × PyData)} {cnd : T → M Bool} {f : T → M (List PyData)} {g : ZG} {zv1 : ZV} {vs o : List Nat} {ok : List PyData → Prop} {mi : M (List PyData)}
end
section
variable {C : Ct} {elt t0 i0 t1 i1 e : Expr} {ifs0 ifs1 : List Expr} {ρ : VEnv} {scope : Scope} {own : List (Str × Nat)} {o o1 vs1 : List Nat} {pos p spos p2 q2 : Pos} {g g1 : ZG} {T T1 : Type} {mt : PyData → Option T} {mt1 : PyData → Option T1} {asg : T → List (Nat × PyData)} {asg1 : T1 → List (Nat × PyData)} {cnd : T → M Bool} {cnd1 : T → T1 → M Bool} {mi : M (List PyData)} {mi1 : T → M (List PyData)} {k : Nat}
end
end ZL
namespace V
open PySem PySem.Spec ZL L2
def ltO2 : PyData → PyData → Option Bool
  | .int i, .int j => some (decide (i < j))
  | .tuple a, .tuple b => (intsD a).bind fun ns => (intsD b).map fun ms => HT.lexLt ns ms
  | _, _ => none
abbrev ltM2 (x y : PyData) : M Bool := ofO (ltO2 x y)
end V
namespace ZL
open PySem PySem.Spec PyProof.Rows L2 V
end ZL
namespace V
open PySem PySem.Spec ZL L2
end V
namespace ZL
open PySem PySem.Spec PyProof.Rows L2 V
section
variable {X : Cx}
end
end ZL
namespace ZL
open PySem PySem.Spec PyProof.Rows L2 V
section
variable {C : Ct} {rm : Bool} {e ix ix1 ix2 : Expr} {ρ : VEnv} {K : List (List Stmt)} {rest : List Stmt} {L T : Type} {emb : T → VEnv} {embL : L → VEnv} {me mi m1 m2 : M PyData} {pos : Pos}
end
end ZL
namespace ZL
open PySem PySem.Spec PyProof.Rows L2 V
section
variable {K : PySem.W.Frag} {S S' : Sto} {H H' : Hp} {B : Bs}
end
section
variable {X : Cx} {B : Bs} {pos : Pos}
def Grow (S S' : Sto) : Prop := ∀ a c, S a = some c → S' a = some c
theorem Grow.refl (S : Sto) : Grow S S := fun _ _ h => h
theorem Grow.trans {S S1 S2 : Sto} (a : Grow S S1) (b : Grow S1 S2) : Grow S S2 := fun x c e => b x c (a x c e)
end
end ZL
namespace ZL
open PySem PySem.Spec PyProof.Rows L2 V
def Sto.mkT (S : Sto) (p : Addr) (as : List Addr) (dss : List (List PyData)) : Sto := fun b => if b = p then some (.tab dss) else if b ∈ as then some (.own p (as.idxOf b)) else S b
structure Made (S1 S' : Sto) (as : List Addr) (acc : List (List PyData)) : Prop where
  len : as.length = acc.length
  nd : as.Nodup
  row : ∀ (m : Nat) b ds, as[m]? = some b → acc[m]? = some ds → S' b = some (.lst ds)
  new : ∀ b ∈ as, S1 b = none
  grow : Grow S1 S'
theorem Made.some {S1 S' : Sto} {as : List Addr} {acc : List (List PyData)} (h : Made S1 S' as acc) {b : Addr} (hb : b ∈ as) : ∃ ds, S' b = Option.some (.lst ds) := by
  obtain ⟨m, hm, em⟩ := List.getElem_of_mem hb
  have e1 : as[m]? = Option.some b := by rw [List.getElem?_eq_getElem hm, em]
  have hm2 : m < acc.length := by have := h.len; omega
  exact ⟨_, h.row m b acc[m] e1 (List.getElem?_eq_getElem hm2)⟩
section
variable {X : Cx} {B : Bs} {pos : Pos} {tg iter elt : Expr} {scope : Scope} {own : List (Str × Nat)} {o : List Nat} {ti : ZTI} {g : ZG} {te : ZT}
structure LcRT (g : ZG) (te : ZT) (vs : List Nat) (ρ : ZEnv) (Q : ZQ) (xs : List PyData) (l : List (Addr × List PyData)) (S1 : Sto) : Prop where
  ex : ∃ I : Nat → List (List PyData) → Sto → Prop, I 0 [] S1 ∧ (∀ i acc S', i ≤ xs.length → I i acc S' → Need S' l) ∧
    (∀ (i : Nat) (x : PyData) acc S', xs[i]? = some x → I i acc S' → g (.d x) (zwipe ρ vs) S' fun ρ2 S2 => te ρ2 S2 fun y S4 => ∃ b row, y = .r b ∧ Grow S' S4 ∧ S' b = none ∧ S4 b = some (.lst row) ∧ acc.length < sizeLine ∧ I (i + 1) (acc ++ [row]) S4) ∧
    ∀ acc S', I xs.length acc S' → ∀ p as, S' p = none → Made S1 S' as acc → Q (.r p) (S'.mkT p as acc)
end
end ZL
namespace V
open PySem PySem.Spec ZL L2
def calm {α : Type} (m : M α) : M α := fun s => match m [] with
  | .ok a _ => .ok a s
  | _ => .bad
@[simp] theorem calm_pure {α : Type} (a : α) : calm (pure a : M α) = pure a := rfl
def getT (j : Nat) : M (List (List PyData)) := fun s => match s[j]? with
  | some (some (.tab x)) => .ok x s
  | _ => .bad
end V
namespace ZL
open PySem PySem.Spec PyProof.Rows L2 V
theorem Rel.grow {G : Gd} {ps : List Addr} {s : Cells} {S S' : Sto} (r : Rel G ps s S) (g : Grow S S') (o : OwnOk S') : Rel G ps s S' := by
  refine ⟨r.len, fun j c a e1 e2 => g _ _ (r.own j c a e1 e2), r.inj, fun a c n e => g _ _ (r.fr a c n e), r.loc, fun a ha => ?_, r.par, o, r.owG, fun a ha p m e => ?_, r.cn⟩
  · cases q : S a with
    | none => exact absurd q (r.gp a ha)
    | some c => rw [g a c q]; exact fun z => nomatch z
  · cases q : S a with
    | none => exact absurd q (r.gp a ha)
    | some c =>
      rw [g a c q] at e
      cases e
      exact r.gq a ha p m q
def VEnv.dat : VEnv → VEnv := List.map fun o => match o with
  | some (.c _) => none
  | o => o
theorem dat_fg (ps : List Addr) : ∀ ρ : VEnv, Fgz (VEnv.den [] (VEnv.dat ρ)) (VEnv.den ps ρ)
  | [] => .nil
  | none :: r => .n (dat_fg ps r)
  | some (.d x) :: r => .s (dat_fg ps r)
  | some (.c j) :: r => .n (dat_fg ps r)
  | some (.k x) :: r => .s (dat_fg ps r)
  | some (.ob x) :: r => .s (dat_fg ps r)
abbrev Ct.at0 (C : Ct) (S : Sto) : Ct := { C with G := ⟨[], S⟩ }
theorem rel0 {S : Sto} (o : OwnOk S) : Rel ⟨[], S⟩ [] [] S := ⟨rfl, fun j c a e => by simp at e, fun i j ci cj a e => by simp at e, fun a c _ e => e, fun j c a e => by simp at e, fun a h => by simp at h, rfl, o, o, fun a h => by simp at h, fun j q m => by simp⟩
theorem rel0_grow {S S' : Sto} {s : Cells} (r : Rel ⟨[], S⟩ [] s S') : Grow S S' := fun a c e => r.fr a c (by simp) e
def TbOf (C : Ct) (S : Sto) : Prop := ∀ Ts, Gt Ts C.G → TbIn Ts S
theorem TbOf.now {C : Ct} {ps : List Addr} {s : Cells} {S : Sto} (r : Rel C.G ps s S) : TbOf C S := fun _ g => g.now r
theorem TbOf.hG {C : Ct} {S : Sto} {p : Prop} {Ts : Tbs} (t : TbOf C S) (h : p ∧ Gt Ts C.G) : p ∧ Gt Ts (C.at0 S).G := ⟨h.1, t _ h.2, fun _ _ z => by cases z⟩
section
variable {C : Ct} {rm : Bool} {e ix kx elt iter tg : Expr} {ρ : VEnv} {K : List (List Stmt)} {rest : List Stmt} {L T : Type} {emb : T → VEnv} {embL : L → VEnv} {me mi mk : M PyData} {pos : Pos}
variable {U : Type} {pt : PyData → Option U} {asg : U → List (Nat × PyData)} {f : U → M (List PyData)} {g : ZG} {scope : Scope} {own2 : List (Str × Nat)} {o : List Nat} {mxs : M (List PyData)}
end
end ZL
namespace V
open PySem PySem.Spec ZL L2
end V
namespace ZL
open PySem PySem.Spec PyProof.Rows L2 V
section
variable {X : Cx} {B : Bs} {pos : Pos}
end
section
variable {C : Ct} {rm : Bool} {e a : Expr} {es : List Expr} {kws : List Keyword} {ρ : VEnv} {K : List (List Stmt)} {rest : List Stmt} {L T : Type} {emb : T → VEnv} {embL : L → VEnv} {me m : M PyData} {mN : M (List PyData)} {pos p p2 pos2 : Pos}
variable {Ts : Tbs} {k : Nat} {f : Addr} {fd : FuncData} {ps' ks : List Str} {ms : List Md} {F : List PyData → M PyData} {x : Str} {n : Nat} {sel : List Nat} {dv : List PyData}
end
end ZL
namespace V
open PySem PySem.Spec ZL L2
end V
namespace ZL
open PySem PySem.Spec PyProof.Rows L2 V
section
variable {X : Cx}
end
end ZL
namespace ZL
open PySem PySem.Spec PyProof.Rows L2 V
end ZL
namespace ZL
open PySem PySem.Spec PyProof.Rows L2
section
variable {K : PySem.W.Frag} {H : Hp}
end
section
variable {X : Cx} {B : Bs}
end
end ZL
namespace V
open PySem PySem.Spec ZL L2
end V
namespace ZL
open PySem PySem.Spec PyProof.Rows L2 V
section
variable {C : Ct} {e a b : Expr} {ρ : VEnv} {pos : Pos}
end
end ZL
namespace V
open PySem PySem.Spec
def isxM (n m : Str) : M PyData := pure (.bool (decide (n = m)))
end V
namespace ZL
open PySem PySem.Spec PyProof.Rows L2 V L2H
structure ExTab (K : PySem.W.Frag) (mg : Str → Option Value) (XS : List Str) : Prop where
  cls : ∀ n ∈ XS, ∃ D, mg n = some (.ref D) ∧ ExcC K D ∧ PySem.W.kitOne K (.ref D) (.type "ValueError") = some true
  two : ∀ n ∈ XS, ∀ m ∈ XS, ∀ D C, mg n = some (.ref D) → mg m = some (.ref C) → PySem.W.kitOne K (.ref D) (.ref C) = some (decide (n = m))
def ExAt (mg : Str → Option Value) (p : Addr × Obj) (n : Str) : Prop := ∃ D, mg n = some (.ref D) ∧ p.2.cls = .ref D ∧ p.2.dict = none ∧ ∃ vs, p.2.data = .fields vs
def ExIn (X : Cx) (a : Addr) (n : Str) : Prop := ∃ oe, (a, oe) ∈ X.pn ∧ ExAt X.mg (a, oe) n ∧ Hot1 X.A (a, oe)
theorem ExIn.hot {X : Cx} {a : Addr} {n : Str} (h : ExIn X a n) : HotC X := let ⟨oe, h1, _, h3⟩ := h; ⟨_, h3, h1⟩
theorem call_isX {X : Cx} {a D : Addr} {oe : Obj} (k : ExcC X.K D) (held : (a, oe) ∈ X.pn) (h1 : oe.cls = .ref D) (h2 : oe.dict = none) (h3 : ∃ vs, oe.data = .fields vs) : CallR X (.builtin "isinstance") (rIsE X.K D a) := by
  rintro pins s σ H xs us Q I r ⟨c, cv, b, rfl, hcv, e, q⟩
  obtain ⟨u1, u2, rfl, r1, r2⟩ := vals2 r
  obtain rfl : u1 = Value.ref a := r1
  obtain rfl := hcv _ r2
  have there := (I.pin (a, oe) (List.mem_append_left _ held)).1
  have inst : PySem.W.InstAt s.heap a oe D none := by
    obtain ⟨vs, h3⟩ := h3
    cases oe
    cases h1; cases h2; cases h3
    exact ⟨there, rfl, rfl, trivial⟩
  exact PySem.W.kia_one (PySem.W.handS_kitx_exc k.hg k.hk k.hs k.hd k.ha k.hn k.ht k.hm) I.kIn inst e (fun z => nomatch z) fun tk => ⟨.bl b, H, I.tok tk, rfl, q⟩
def zIsX (i : Nat) (a : Addr) (b : Bool) : ZT := fun ρ S Q => ρ[i]? = some (some (.r a)) ∧ Q (zb b) S
theorem ze_isX {X : Cx} {B : Bs} {a D : Addr} {oe : Obj} {v : L2.V} {cv : Value} {b : Bool} (i : Nat) {x : Str} {c : Expr} {p px pos : Pos} (hm : X.mg "isinstance" = none) (k : ExcC X.K D) (held : (a, oe) ∈ X.pn) (h1 : oe.cls = .ref D) (h2 : oe.dict = none) (h3 : ∃ vs, oe.data = .fields vs)
    (hc : PE X c (tC v)) (hv : ∀ u, RelV v u → u = cv) (hb : PySem.W.kitOne X.K (.ref D) cv = some b) (hN : X.N[i]? = some x) (hvis : Vis X.env.scope x) (hd : (x == ("__debug__" : Str)) = false) (hcd : (x == ("__classdict__" : Str)) = false)
    (hg : Gl X "isinstance" := by rfl) (hs : starEach (.Name x px :: [c]) X.env = (false, eval (.Name x px) X.env) :: starEach [c] X.env := by rfl) (hs2 : starEach [c] X.env = (false, eval c X.env) :: starEach [] X.env := by rfl) (hpl : (backTo pos (starEach [c] X.env)).any (·.1) = false := by rfl) :
    ZE X B (.Call (.Name "isinstance" p) [.Name x px, c] [] pos) (zIsX i a b) := by
  refine ⟨fun q w => ⟨w.1, q _ _ w.2⟩, PE.imp (pe_callB (call_isX k held h1 h2 h3) hg hm PyProof.Rows.boot_isinstance (pa_cons (pe_var hN hvis hd hcd) (pa_cons hc pa_nil hs2) hs) (by decide) (by decide) hs hpl) ?_⟩
  rintro σ H Q ⟨ρ, S, hE, hS, e, w⟩
  obtain ⟨u, e1, rz⟩ := hE.get e
  cases rz
  exact ⟨_, e1, v, cv, b, rfl, hv, hb, w _ H (.refl _ _) (.d (.bl _)) hS⟩
section
variable {C : Ct} {ρ : VEnv} {XS : List Str} {a : Addr} {n : Str}
theorem f_isX (i : Nat) {x m : Str} {p px pm pos : Pos} (T : ExTab C.X.K C.X.mg XS) (hx : ExIn C.X a n) (hn : n ∈ XS) (hi : C.X.mg "isinstance" = none) {e : Addr} (hm : C.X.mg m = some (.ref e)) (hxs : m ∈ XS := by decide) (hρ : ρ[i]? = some (some (.ob a)) := by rfl) (hN : C.X.N[i]? = some x := by rfl)
    (hv : Vis C.X.env.scope x := by first | exact Or.inl rfl | exact Or.inr (Or.inl rfl) | exact Or.inr (Or.inr rfl)) (hd : (x == ("__debug__" : Str)) = false := by decide) (hcd : (x == ("__classdict__" : Str)) = false := by decide) (hgm : Gl C.X m := by rfl) (hdm : (m == ("__debug__" : Str)) = false := by decide) (hg : Gl C.X "isinstance" := by rfl)
    (hs : starEach (.Name x px :: [.Name m pm]) C.X.env = (false, eval (.Name x px) C.X.env) :: starEach [.Name m pm] C.X.env := by rfl) (hs2 : starEach [.Name m pm] C.X.env = (false, eval (.Name m pm) C.X.env) :: starEach [] C.X.env := by rfl) (hpl : (backTo pos (starEach [.Name m pm] C.X.env)).any (·.1) = false := by rfl) :
    FE C (.Call (.Name "isinstance" p) [.Name x px, .Name m pm] [] pos) ρ (isxM n m) := by
  intro ps s S Q r w
  obtain ⟨oe, held, ⟨D, e1, e2, e3, e4⟩, _⟩ := hx
  obtain ⟨D', e1', k, _⟩ := T.cls n hn
  obtain rfl : D = D' := by rw [e1] at e1'; cases e1'; rfl
  have hb := T.two n hn m hxs D e e1 hm
  refine (ze_isX (v := .ref e) (cv := .ref e) i hi k held e2 e3 e4 (pe_glob hgm hm rfl hdm) (fun u h => h) hb hN hv hd hcd hg hs hs2 hpl).we ⟨?_, w S r⟩
  exact den_get ps ρ i hρ
theorem f_isV (i : Nat) {x : Str} {p px pm pos : Pos} (T : ExTab C.X.K C.X.mg XS) (hx : ExIn C.X a n) (hn : n ∈ XS) (hi : C.X.mg "isinstance" = none) (hm : C.X.mg "ValueError" = none) (hρ : ρ[i]? = some (some (.ob a)) := by rfl) (hN : C.X.N[i]? = some x := by rfl)
    (hv : Vis C.X.env.scope x := by first | exact Or.inl rfl | exact Or.inr (Or.inl rfl) | exact Or.inr (Or.inr rfl)) (hd : (x == ("__debug__" : Str)) = false := by decide) (hcd : (x == ("__classdict__" : Str)) = false := by decide) (hgm : Gl C.X "ValueError" := by rfl) (hg : Gl C.X "isinstance" := by rfl)
    (hs : starEach (.Name x px :: [.Name "ValueError" pm]) C.X.env = (false, eval (.Name x px) C.X.env) :: starEach [.Name "ValueError" pm] C.X.env := by rfl) (hs2 : starEach [.Name "ValueError" pm] C.X.env = (false, eval (.Name "ValueError" pm) C.X.env) :: starEach [] C.X.env := by rfl) (hpl : (backTo pos (starEach [.Name "ValueError" pm] C.X.env)).any (·.1) = false := by rfl) :
    FE C (.Call (.Name "isinstance" p) [.Name x px, .Name "ValueError" pm] [] pos) ρ (pure (.bool true)) := by
  intro ps s S Q r w
  obtain ⟨oe, held, ⟨D, e1, e2, e3, e4⟩, _⟩ := hx
  obtain ⟨D', e1', k, hb⟩ := T.cls n hn
  obtain rfl : D = D' := by rw [e1] at e1'; cases e1'; rfl
  refine (ze_isX (v := .ty "ValueError") (cv := .type "ValueError") i hi k held e2 e3 e4 (pe_bltn hgm hm (by decide +kernel) rfl) (fun u h => h) hb hN hv hd hcd hg hs hs2 hpl).we ⟨?_, w S r⟩
  exact den_get ps ρ i hρ
end
structure FnX (P : Program) (w : World) (K : PySem.W.Frag) (mg : Str → Option Value) (base : Heap) (k : Nat) (f : Addr) (fd : FuncData) (y : Str) (XS : List Str) (Fm : Str → M PyData) : Prop where
  run : ∀ (A : Around) (outer : List PySem.Env) (s : Shared) (H : Hp) (args : Args) (p : Addr × Obj) (n : Str) (S : Sto) (d : PyData) (s' : Cells) (Q : VK), RoomH k A → Hot1 A p → PinOk outer H s p → Env0 P w K mg base A outer s H → BindsTo s fd args [(y, .ref p.1)] → n ∈ XS → ExAt mg p n → RS0 K S H → OwnOk S →
    Fm n [] = .ok d s' → (∀ S' v H', Rel ⟨[], S⟩ [] [] S' → Step S S' H H' → RZ K H' v (.d d) → RS0 K S' H' → Q v H') → codeAny (model P w) A (.call (.ref f) args) (CR (L2N.CX P w) outer P w H s Q fun _ _ _ => False) s
abbrev cxX (P : Program) (w : World) (K : PySem.W.Frag) (mg : Str → Option Value) (base : Heap) (N : List Str) (qual : Str) (scope : Scope) (f : Addr) (cd : Value) (A : Around) (outer : List PySem.Env) (s : Shared) (H : Hp) (p : Addr × Obj) : Cx := cxH (L2N.CX P w) P w K mg base N qual scope f cd A outer s H (fun _ _ _ => False) p
section
variable {P : Program} {w : World} {K : PySem.W.Frag} {mg : Str → Option Value} {base : Heap} {k : Nat} {f : Addr} {fd : FuncData} {x qual y : Str} {N : List Str} {XS : List Str} {Fm : Str → M PyData} {params : Arguments} {body : List Stmt} {scope : Scope}
theorem vfnX (F : FunD K x qual params body scope [] [] f fd) (Sc : FnScope N [y] scope)
    (hb : ∀ (cdv : Value) (A : Around) (outer : List PySem.Env) (s : Shared) (H : Hp) (p : Addr × Obj) (n : Str) (S : Sto), RoomH k (A.deeper (envOfC qual scope s.heap.objs.size f cdv)) → n ∈ XS → ExIn (cxX P w K mg base N qual scope f cdv A outer s H p) p.1 n →
      ∃ nl bodyM, Fm n = V.frame nl (fin bodyM) ∧ FS ⟨cxX P w K mg base N qual scope f cdv A outer s H p, ⟨S, H⟩, ⟨[], S⟩, noW⟩ false [] body (startE N [.ob p.1]) (fun _ : Unit => List.replicate N.length none) (fun _ : Unit => []) bodyM) :
    FnX P w K mg base (k + 1) f fd y XS Fm := by
  obtain ⟨oc, od, dV, kV, doc, pm, an, cdv, ct, osl, rfl, lk, hcd, _, _⟩ := F.ex
  constructor
  intro A outer s H args p n S d s' Q room hot pin ground bound hn hp hS hO hF hQ
  have inHeap : K.In s.heap := ground.mod.kin.keeps fun b o e => And.left (ground.bs b o e)
  have noLim : s.heap.NoLimit := ground.mod.nolimit.keeps fun b o e => And.left (ground.bs b o e)
  have kinds : ∀ z ∈ [y].zip [Value.ref p.1], scope.names.lookup z.1 = some .local ∨ (scope.names.lookup z.1 = some .cell ∧ ((cellsFrom (s.heap.objs.size + 1) scope.names []).lookup z.1).isSome = true) := by
    rintro ⟨m, v⟩ hz
    cases Sc.par m (List.of_mem_zip hz).1 with
    | inl q => exact .inl q
    | inr q => exact .inr ⟨q, PySem.W.cellsFrom_some _ _ _ (.inl q)⟩
  refine codeAny_call_function room.depth (inHeap f _ lk) rfl Sc.co Sc.gen rfl (PySem.W.codeRec_of inHeap hcd) (bound _ A.in1 _ _ ?_)
  refine wpAny_newFunctionEnv_cells (binds := [y].zip [Value.ref p.1]) Sc.kind kinds ?_
  intro env he s1 entered
  subst he
  refine ⟨noLim.keeps entered.toInCall.keep, codeAny_func ?_⟩
  have begun := inv_startH (CX := L2N.CX P w) (E := fun _ _ _ => False) (qual := qual) (f := f) (cd := cdv) (vs := [V.ref p.1]) (us := [.ref p.1]) Sc pin ground rfl (.cons rfl .nil) entered
  obtain ⟨nl, bodyM, eF, fs⟩ := hb cdv A outer s H p n S (room.deeper _) hn ⟨p.2, List.mem_singleton.mpr rfl, hp, hot⟩
  rw [eF] at hF
  have w1 := sat_frame (Q := fun d' _ => d' = d) (E := fun _ _ => False) (show sat (V.frame nl (fin bodyM) []) _ _ by rw [hF]; rfl)
  have go := fs ([] ++ List.replicate nl 0) ([] ++ List.replicate nl none) S { nx := fun _ S' => d = .none ∧ Rel ⟨[], S⟩ [] [] S', rt := fun z S' => z = .d d ∧ Rel ⟨[], S⟩ [] [] S' } ((rel0 hO).more nl) ((sat_bind w1).mono (fun fl s2 w2 => ?_) fun _ _ h => h.elim)
  · rw [den_start] at go
    have el : ELe K ⟨S, H⟩ S H { nx := fun _ S' => d = .none ∧ Rel ⟨[], S⟩ [] [] S', rt := fun z S' => z = .d d ∧ Rel ⟨[], S⟩ [] [] S' } { nx := fun _ H' => Q .non H', rt := Q } := by
      refine ⟨?_, ?_, fun _ _ _ _ h => h.elim, fun _ _ _ _ h => h.elim⟩
      · rintro ρ' S' σ' H' ⟨rfl, hR⟩ st _ rS
        exact hQ S' .non H' hR st (.d .non) rS.1
      · rintro z S' v H' ⟨rfl, hR⟩ st rz rS
        exact hQ S' v H' hR st rz rS.1
    refine wpAny_mono ((wss_zss.pss).run [] s1 (start N [V.ref p.1]) H _ begun ⟨zstart N [.r p.1], S, _, RE.start (.cons (.r _) .nil), ⟨hS, .refl _ _⟩, el, go⟩) ?_ (fun _ _ left => left)
    · intro fl s3 ended
      cases fl with
      | ret u => obtain ⟨v, σ', H', J, r, q⟩ := ended; exact ⟨v, H', J.os, J.bare, J.base, J.hok, r, q⟩
      | next => obtain ⟨σ', H', J, q⟩ := ended; exact ⟨.non, H', J.os, J.bare, J.base, J.hok, rfl, q⟩
      | brk => obtain ⟨_, _, _, q⟩ := ended; exact q.elim
      | cont => obtain ⟨_, _, _, q⟩ := ended; exact q.elim
  · cases fl with
    | nx t =>
      intro ps S' ρ r' _
      exact ⟨Eq.symm w2, r'.less rfl⟩
    | bk l => exact w2.elim
    | ct l => exact w2.elim
    | rt v => exact .inl ⟨rfl, fun ps S' r' => ⟨congrArg Z.d w2, r'.less rfl⟩⟩
end
def zCallX (i : Nat) (a : Addr) (m : M PyData) : ZT := fun ρ S Q => ρ[i]? = some (some (.r a)) ∧ OwnOk S ∧ ∃ d s', m [] = .ok d s' ∧ ∀ S', Rel ⟨[], S⟩ [] [] S' → Q (.d d) S'
section
variable {X : Cx} {B : Bs} {k : Nat} {f : Addr} {fd : FuncData} {x y z : Str} {XS : List Str} {Fm : Str → M PyData} {a : Addr} {n : Str} {p pz pos : Pos}
theorem ze_callX (F : FnX X.prog X.w X.K X.mg X.base k f fd y XS Fm) (hr : RoomH k X.A) (hm : X.mg x = some (.ref f)) (hk : PySem.W.keepIn X.K (.ref f) = true) (hb : Binds X.K fd [y] []) (hn : n ∈ XS) (hx : ExIn X a n) (i : Nat) (hN : X.N[i]? = some z) (hv : Vis X.env.scope z) (hd : (z == ("__debug__" : Str)) = false) (hcd : (z == ("__classdict__" : Str)) = false)
    (hg : Gl X x := by rfl) (hdb : (x == ("__debug__" : Str)) = false := by decide) (he : starEach (.Name z pz :: []) X.env = (false, eval (.Name z pz) X.env) :: starEach [] X.env := by rfl) (hpl : (backTo pos (starEach [] X.env)).any (·.1) = false := by rfl) :
    ZE X B (.Call (.Name x p) [.Name z pz] [] pos) (zCallX i a (Fm n)) := by
  refine ⟨fun q ⟨w1, w2, d, s', w3, w4⟩ => ⟨w1, w2, d, s', w3, fun S' r => q _ _ (w4 S' r)⟩, ⟨fun pins s σ H Q I h => ?_⟩⟩
  obtain ⟨ρ, S, hE, hS, e, hO, d, s', hF, w⟩ := h
  obtain ⟨oe, held, hp, hot⟩ := hx
  obtain ⟨u, e1, rz⟩ := hE.get e
  cases rz
  refine wpAny_Call_Name_kw (ld_glob I hg hm ?_ hdb)
  refine PySem.W.callWith_K (h₀ := X.base) I.mod.kin hk (thn ((pa_cons (pe_var (i := i) hN hv hd hcd) pa_nil he).run pos pins s σ H (fun vs H' => vs = [V.ref a] ∧ H' = H) I ⟨_, e1, rfl, rfl⟩) ?_) he hpl
  rintro us s1 ⟨vs, H1, I1, rv, rfl, rfl⟩
  obtain ⟨u1, rfl, r1⟩ : ∃ u1, us = [u1] ∧ RelV (V.ref a) u1 := by cases rv with | cons h t => cases t; exact ⟨_, rfl, h⟩
  obtain rfl : u1 = Value.ref a := r1
  obtain ⟨q1, q2, q3, q4, q5⟩ := I1.pin (a, oe) (List.mem_append_left _ held)
  have pin : PinOk X.stack H1 s1 (a, oe) := ⟨q1, q2, fun hm => (List.mem_cons.mp (I1.stkSub a hm)).elim q3 q4, q5⟩
  have b := hb s1 [.ref a] I1.kIn rfl
  rw [List.append_nil] at b
  refine ⟨I1.kIn, wpAny_call (codeAny_mono (F.run X.A X.stack s1 H1 ⟨[.ref a], []⟩ (a, oe) n S d s' Q hr hot pin I1.env0 b hn hp hS.1 hO hF fun S' v H' hR st rz rs => w S' hR v H' st rz (hS.step rs st)) ?_)⟩
  intro r s2 ended
  cases r with
  | error e => obtain ⟨_, _, _, _, _, _, _, _, _, _, _, _, z⟩ := ended; exact z.elim
  | ok fl =>
    cases fl with
    | ret u => exact I1.after ended
    | next => exact ended.elim
    | brk => exact ended.elim
    | cont => exact ended.elim
end
theorem put_nil (s s' : Cells) : V.put s [] s' = s := by cases s' <;> rfl
theorem f_callX {C : Ct} {ρ : VEnv} {k : Nat} {f : Addr} {fd : FuncData} {x y z : Str} {XS : List Str} {Fm : Str → M PyData} {a : Addr} {n : Str} {p pz pos : Pos} (F : FnX C.X.prog C.X.w C.X.K C.X.mg C.X.base k f fd y XS Fm) (hr : RoomH k C.X.A) (hm : C.X.mg x = some (.ref f)) (hk : PySem.W.keepIn C.X.K (.ref f) = true) (hb : Binds C.X.K fd [y] []) (hn : n ∈ XS) (hx : ExIn C.X a n) (i : Nat) (hρ : ρ[i]? = some (some (.ob a)) := by rfl) (hN : C.X.N[i]? = some z := by rfl)
    (hv : Vis C.X.env.scope z := by first | exact Or.inl rfl | exact Or.inr (Or.inl rfl) | exact Or.inr (Or.inr rfl)) (hd : (z == ("__debug__" : Str)) = false := by decide) (hcd : (z == ("__classdict__" : Str)) = false := by decide) (hg : Gl C.X x := by rfl) (hdb : (x == ("__debug__" : Str)) = false := by decide)
    (he : starEach (.Name z pz :: []) C.X.env = (false, eval (.Name z pz) C.X.env) :: starEach [] C.X.env := by rfl) (hpl : (backTo pos (starEach [] C.X.env)).any (·.1) = false := by rfl) : FE C (.Call (.Name x p) [.Name z pz] [] pos) ρ (noex (V.sub [] (Fm n))) := by
  intro ps s S Q r w
  obtain ⟨d, s1, e, q⟩ := sat_noex w
  obtain ⟨s', e', rfl⟩ : ∃ s', Fm n [] = .ok d s' ∧ s1 = s := by
    unfold V.sub at e
    simp only [liveB, List.all_nil, cond_true, pick] at e
    split at e
    · rename_i b s' eq
      cases e
      exact ⟨s', eq, put_nil _ _⟩
    · cases e
    · cases e
  refine (ze_callX F hr hm hk hb hn hx i hN hv hd hcd hg hdb he hpl).we ⟨den_get ps ρ i hρ, r.owS, d, s', e', fun S' r' => q S' ?_⟩
  have := Rel.back r (js := []) List.nodup_nil (fun _ h => by cases h) (s' := []) r'
  rw [put_nil] at this
  exact this
end ZL
namespace ZL
open PySem PySem.Spec PyProof.Rows L2 V L2H LamX
abbrev envG (qg : Str) (sg : Scope) (s : Shared) (g : Addr) (cdg : Value) : PySem.Env := envOfC qg sg s.heap.objs.size g cdg
abbrev xeL (X : Cx) (A : Around) (outer : List PySem.Env) (s : Shared) (H : Hp) (E : XK) (scope : Scope) (f c' : Addr) : Value → Shared → Prop := fun e s' => wpAny (model X.prog X.w) (A.deeper (lamEnv X scope s.heap.objs.size f c')) (leaving (lamEnv X scope s.heap.objs.size f c') e) (fun _ s'' => L2N.CX X.prog X.w outer H s E e s'') (fun e' s'' => L2N.CX X.prog X.w outer H s E e' s'') s'
abbrev lamO (X : Cx) (params : Arguments) (body : Expr) (scope : Scope) (pm : Value) (c' : Addr) (ctv : Value) : Obj := PySem.W.kla_obj "<lambda>" (X.env.qual ++ "<lambda>") params body scope (cloFrom X.env.cells scope.names []) pm c' ctv
section
variable {X : Cx} {pins : List (Addr × Obj)} {σ : L2.St} {H : Hp} {s : Shared} {CXg : CXT} {Eg : XK} {Ng : List Str} {qg a : Str} {sg scope : Scope} {g f c' : Addr} {cdg pm ctv : Value} {params : Arguments} {body : Expr} {k i : Nat} {pn : List (Addr × Obj)} {xe : Value → Shared → Prop} {W : WX} {E : XK} {tb : TE} {p1 p2 : Pos}
end
section
variable {X : Cx} {pins : List (Addr × Obj)} {σ : L2.St} {H : Hp} {s : Shared}
end
theorem RS0.table {K : PySem.W.Frag} {S : Sto} {H H1 : Hp} {P : Addr} {q : Str} (r : RS0 K S H) (e : S P = some (.tbl q)) (k : ∀ b o, b ≠ P → H b = some o → H1 b = some o) (t : TabS H1 P q) : RS0 K S H1 := by
  obtain ⟨ps, hP, _, _⟩ := r P _ e
  have keep : ∀ b o, H b = some o → (∀ ps, o ≠ .tbl ps) → H1 b = some o := fun b o hb n => k b o (fun z => by rw [z, hP] at hb; exact n ps (Option.some.inj hb).symm) hb
  have le : Le H H1 := ⟨fun b xs h => keep b _ h (fun _ z => nomatch z), fun b o u h => keep b _ h (fun _ z => nomatch z)⟩
  intro a c ea
  have ok := r a c ea
  cases c with
  | lst ds => obtain ⟨xs, h1, f⟩ := ok; exact ⟨xs, keep _ _ h1 (fun _ z => nomatch z), f.le le⟩
  | tab dss =>
    obtain ⟨as, h1, h2, h3⟩ := ok
    refine ⟨as, keep _ _ h1 (fun _ z => nomatch z), h2, fun m b ds e1 e2 => ?_⟩
    obtain ⟨e3, xs, e4, f⟩ := h3 m b ds e1 e2
    exact ⟨e3, xs, keep _ _ e4 (fun _ z => nomatch z), f.le le⟩
  | own p m =>
    obtain ⟨⟨xs, h1⟩, h2, as, h3, h4⟩ := ok
    exact ⟨⟨xs, keep _ _ h1 (fun _ z => nomatch z)⟩, h2, as, keep _ _ h3 (fun _ z => nomatch z), h4⟩
  | tbl q' =>
    by_cases z : a = P
    · subst z
      rw [e] at ea
      cases ea
      exact t
    · obtain ⟨ps', h1, h2, h3⟩ := ok
      refine ⟨ps', k _ _ z h1, h2, fun pos cv hcv => ?_⟩
      obtain ⟨c, e1, e2⟩ := h3 pos cv hcv
      exact ⟨c, e1, keep _ _ e2 codeO_ne⟩
  | dct ds => obtain ⟨kvs, h1, h2, h3⟩ := ok; exact ⟨kvs, keep _ _ h1 (fun _ z => nomatch z), h2, h3.le le⟩
theorem step_table {S : Sto} {H H1 : Hp} {P : Addr} {q : Str} (e : S P = some (.tbl q)) (k : ∀ b o, b ≠ P → H b = some o → H1 b = some o) : Step S S H H1 := fun b o hb n => ⟨k b o (fun z => by rw [z, e] at n; cases n) hb, n⟩
end ZL
namespace V
open PySem PySem.Spec
def saidM (XS : List Str) (post : PyData → M PyData) (W : Str → M PyData) (m : M PyData) : M PyData := fun s => match m [] with
  | .ok d _ => (match post d [] with | .ok d' _ => .ok d' s | _ => .bad)
  | .ex x _ => bif x.fs.isEmpty && XS.contains x.name then (match W x.name [] with | .ok d' _ => .ok d' s | _ => .bad) else .bad
  | .bad => .bad
end V
namespace ZL
open PySem PySem.Spec PyProof.Rows L2 V L2H LamX
def SaidR (XS : List Str) (post : PyData → M PyData) (W : Str → M PyData) (m : M PyData) (d' : PyData) : Prop := (∃ d s1 s2, m [] = .ok d s1 ∧ post d [] = .ok d' s2) ∨ ∃ n s1 s2, m [] = .ex ⟨n, []⟩ s1 ∧ n ∈ XS ∧ W n [] = .ok d' s2
theorem said_inv {XS : List Str} {post : PyData → M PyData} {W : Str → M PyData} {m : M PyData} {s : Cells} {Q : PyData → Cells → Prop} {E : Exn → Cells → Prop} (h : sat (saidM XS post W m s) Q E) : ∃ d', SaidR XS post W m d' ∧ Q d' s := by
  unfold saidM at h
  cases e : m [] with
  | bad => rw [e] at h; exact h.elim
  | ok d s1 =>
    rw [e] at h
    cases e2 : post d [] with
    | ok d' s2 => simp only [e2] at h; exact ⟨d', .inl ⟨d, s1, s2, e, e2⟩, h⟩
    | ex x s2 => simp only [e2] at h; exact h.elim
    | bad => simp only [e2] at h; exact h.elim
  | ex x s1 =>
    rw [e] at h
    cases b : x.fs.isEmpty && XS.contains x.name with
    | false => simp only [b, cond_false] at h; exact h.elim
    | true =>
      simp only [b, cond_true] at h
      rw [Bool.and_eq_true, List.isEmpty_iff, List.contains_iff_mem] at b
      cases e2 : W x.name [] with
      | ok d' s2 =>
        simp only [e2] at h
        obtain ⟨n, fs⟩ := x
        obtain ⟨rfl, hn⟩ := b
        exact ⟨d', .inr ⟨n, s1, s2, e, hn, e2⟩, h⟩
      | ex _ _ => simp only [e2] at h; exact h.elim
      | bad => simp only [e2] at h; exact h.elim
structure SaidD (P : Program) (w : World) (K : PySem.W.Frag) (mg : Str → Option Value) (base : Heap) (Ts : Tbs) (kl : Nat) (x : Str) (XS : List Str) (post : PyData → M PyData) (W : Str → M PyData) where
  (a fo e word y : Str) (ret : Expr) (pf pa pc pas pE pw pe pcw pr ph pt pr2 : Pos) (pg : Arguments) (sg : Scope) (g gw PE : Addr) (fdg fdw : FuncData) (kw : Nat)
  F : FunD K x x pg [.Try [.Assign [.Name fo pf] (.Call (.Name a pa) [] [] pc) pas] [.ExceptHandler (some (.Name "PlateError" pE)) (some e) [.Return (some (.Call (.Name word pw) [.Name e pe] [] pcw)) pr] ph] [] [] pt, .Return (some ret) pr2] sg [] [] g fdg
  Sc : FnScope [a, fo, e] [a] sg
  hm : mg x = some (.ref g)
  hb : Binds K fdg [a] []
  hW : FnX P w K mg base kw gw fdw y XS W
  hkl : kw ≤ kl + 1
  hmw : mg word = some (.ref gw)
  hkw : PySem.W.keepIn K (.ref gw) = true
  hbw : Binds K fdw [y] []
  hPE : mg "PlateError" = some (.ref PE)
  exm : ∀ n ∈ XS, ∀ D, mg n = some (.ref D) → PySem.W.exmOne K (.ref D) (.ref PE) = some true
  la : sg.names.lookup a = some .local
  lf : sg.names.lookup fo = some .local
  le : sg.names.lookup e = some .local
  lP : sg.names.lookup ("PlateError" : Str) = some .globalImplicit
  lw : sg.names.lookup word = some .globalImplicit
  da : (a == ("__debug__" : Str)) = false
  ca : (a == ("__classdict__" : Str)) = false
  de : (e == ("__debug__" : Str)) = false
  ce : (e == ("__classdict__" : Str)) = false
  dw : (word == ("__debug__" : Str)) = false
  hret : ∀ (cdv : Value) (A : Around) (outer : List PySem.Env) (s : Shared) (H : Hp) (E : XK) (B : Bs) (S : Sto), ((A.deeper (envOfC x sg s.heap.objs.size g cdv)).guards = some [] ∧ Gt Ts ⟨[], S⟩) → Room (kl + 1) (A.deeper (envOfC x sg s.heap.objs.size g cdv)) →
    ∀ d, FE ⟨cxOf (L2N.CX P w) P w K mg base [a, fo, e] x sg g cdv A outer s H E, B, ⟨[], S⟩, noW⟩ ret [none, some (.d d), none] (post d)
section
variable {C : Ct} {ρ : VEnv} {Ts : Tbs} {kl : Nat} {x : Str} {XS : List Str} {post : PyData → M PyData} {Wm : Str → M PyData} {m : M PyData} {c P : Addr} {params : Arguments} {body : Expr} {scope : Scope} {p lpos pos : Pos} {d' : PyData} {ps : List Addr} {sc : Cells}
end
end ZL
namespace ZL
open PySem PySem.Spec PyProof.Rows L2 V LamX
def lamTs (K : PySem.W.Frag) (tf : List He.Defn) : Tbs := tf.map fun p => ((He.cT K p).2, p.1 ++ ".<locals>." ++ "<lambda>")
theorem lamTs_mem {K : PySem.W.Frag} {tf : List He.Defn} {x : Str} (h : (x, none) ∈ tf) : ((He.cT K (x, none)).2, x ++ ".<locals>." ++ "<lambda>") ∈ lamTs K tf := List.mem_map.mpr ⟨_, h, rfl⟩
theorem code_at {K : PySem.W.Frag} {x qual : Str} {params : Arguments} {body : List Stmt} {scope : Scope} {dvs : List L2.V} {kws : List (Str × L2.V)} {f : Addr} {fd : FuncData} {cdv : Value} (F : FunD K x qual params body scope dvs kws f fd) {y : Str} (hf : f = He.ga K y) (hcd : fd.code = cdv) : cdv = .ref (He.cT K (y, none)).1 := by
  obtain ⟨oc, od, dV, kV, doc, pm, an, cdv', ct, osl, rfl, lk, hc, _, _⟩ := F.ex
  obtain ⟨c, rfl⟩ := He.codeIn_ref hc
  subst hcd hf
  exact congrArg Value.ref (He.codeOf_eq (p := (y, none)) lk rfl).symm
def tbS (Ts : Tbs) : Sto := fun b => (Ts.lookup b).map .tbl
theorem look_tbl : ∀ {Ts : Tbs}, (Ts.map (·.1)).Nodup → ∀ x ∈ Ts, Ts.lookup x.1 = some x.2
  | [], _, _, h => by cases h
  | p :: r, nd, x, h => by
    rw [List.map_cons, List.nodup_cons] at nd
    by_cases e : x.1 = p.1
    · rcases List.mem_cons.mp h with rfl | h
      · simp [List.lookup]
      · exact absurd (List.mem_map.mpr ⟨x, h, e⟩) nd.1
    · rcases List.mem_cons.mp h with rfl | h
      · exact absurd rfl e
      · have ne : (x.1 == p.1) = false := by simpa using e
        rw [List.lookup_cons, ne]
        exact look_tbl nd.2 x h
theorem lk_mem {b : Addr} {q : Str} : ∀ {Ts : Tbs}, Ts.lookup b = some q → (b, q) ∈ Ts
  | [], h => by simp at h
  | p :: r, h => by
    rw [List.lookup_cons] at h
    split at h
    · rename_i e
      cases h
      rw [show b = p.1 by simpa using e]
      exact List.mem_cons_self
    · exact List.mem_cons_of_mem _ (lk_mem h)
theorem tbS_in {Ts : Tbs} (nd : (Ts.map (·.1)).Nodup) : TbIn Ts (tbS Ts) := fun x h => by unfold tbS; rw [look_tbl nd x h]; rfl
theorem tbS_some {Ts : Tbs} {b : Addr} {c : Cell} (h : tbS Ts b = some c) : ∃ q, c = .tbl q ∧ b ∈ Ts.map (·.1) := by
  unfold tbS at h
  obtain ⟨q, e, rfl⟩ := Option.map_eq_some_iff.mp h
  exact ⟨q, rfl, List.mem_map.mpr ⟨(b, q), lk_mem e, rfl⟩⟩
theorem vdueT {Ts : Tbs} {mg : Str → Option Value} {F : List PyData → M PyData} {ns : List Int} (nd : (Ts.map (·.1)).Nodup) (h : ∃ s', F [.list (ns.map PyData.int)] [] = .ok (.bool true) s') : VSp Ts mg [.k] false F [.k (ns.map PyData.int)] (tbS Ts) (fun z _ => z = zb true) fun _ _ => False := by
  obtain ⟨s', e⟩ := h
  have own : OwnOk (tbS Ts) := fun b a m h => by
    obtain ⟨q, z, _⟩ := tbS_some h
    cases z
  refine ⟨tbS_in nd, [.list (ns.map PyData.int)], [], [], fun _ h => (by cases h), rfl, rfl, rfl, rfl, rel0 own, ?_⟩
  rw [e]
  exact .inl ⟨rfl, fun _ _ => rfl⟩
section
variable {P : Program} {w : World} {K : PySem.W.Frag} {mg mb : Str → Option Value} {k : Nat} {fa a : Addr} {fd : FuncData} {x : Str} {Fm : List PyData → M PyData} {s₁ : Shared} {vs : List Value} {ns : List Int} {tf : List He.Defn}
theorem law_fromT (KX : K.In s₁.heap) (gl : s₁.heap.Ns mainGlobals mg) (bl : s₁.heap.Ns builtinsNs mb) (blt : ∀ x : Str, x ≠ "__name__" → mb x = bootBuiltins x) (lim : s₁.heap.NoLimit) (nog : s₁.gens = #[])
    (main : ∃ (bm : Addr) (ob : Obj), mg "__builtins__" = some (.ref bm) ∧ bm ≠ builtinsNs ∧ s₁.heap.get? bm = some ob ∧ ob.cls = .type "module" ∧ ob.dict = some builtinsNs ∧ ob.data = .plain)
    (hd : ∀ p ∈ tf, PySem.W.codeHdIn K (He.cT K p).1 (He.cT K p).2 = true) (out : ∀ p ∈ tf, K.lookup (He.cT K p).2 = none) (empty : ∀ p ∈ tf, s₁.heap.get? (He.cT K p).2 = some { cls := .none, data := .fields #[] }) (nd : ((lamTs K tf).map (·.1)).Nodup)
    (ha : s₁.heap.get? a = some { cls := .type "list", data := .seq vs.toArray }) (hI : IntsAre vs ns) (small : ns.length ≤ sizeLine) (room : Room k callerA)
    (F : ∀ base : Heap, K.In base → base.Ns mainGlobals mg → (∀ p ∈ tf, TabB base mg (He.cT K p).1 (He.cT K p).2) → ZFn P w K mg base k fa fd [x] (VSp (lamTs K tf) mg [.k] false Fm)) (bind : ∀ (s : Shared) (u : Value), BindsTo s fd ⟨[u], []⟩ [(x, u)])
    (due : ∃ s', Fm [.list (ns.map PyData.int)] [] = .ok (.bool true) s') :
    codeAny (model P w) callerA (.call (.ref fa) ⟨[.ref a], []⟩) (fun r s' => r = .ok (.ret (.bool true)) ∧ OldK s₁.heap s'.heap ∧ s'.os = s₁.os ∧ AllBare s'.gens) s₁ := by
  have rv := vals_ints hI
  have tabAt : ∀ b, b ∈ (lamTs K tf).map (·.1) → ∃ p ∈ tf, b = (He.cT K p).2 := by
    intro b hb
    obtain ⟨q, hq, rfl⟩ := List.mem_map.mp hb
    obtain ⟨p, hp, rfl⟩ := List.mem_map.mp hq
    exact ⟨p, hp, rfl⟩
  have tabIs : ∀ b, b ∈ (lamTs K tf).map (·.1) → s₁.heap.get? b = some { cls := .none, data := .fields #[] } := by
    intro b hb
    obtain ⟨p, hp, rfl⟩ := tabAt b hb
    exact empty p hp
  have scriptNo : a ∉ (lamTs K tf).map (·.1) := by
    intro z
    have e := tabIs a z
    rw [ha] at e
    cases e
  have core : ∀ H : Hp, (∀ b ∈ (lamTs K tf).map (·.1), H b = some (.tbl #[])) → (∀ b, b ∉ (lamTs K tf).map (·.1) → H b = none ∨ ∃ o xs, H b = some (.frz o (.lst xs))) → RZ K H (.ref a) (.k (ns.map PyData.int)) → HOk P w H s₁.heap → (∀ b, b ∉ (lamTs K tf).map (·.1) → H b ≠ none → b = a) → (H a ≠ none → K.lookup a = none) →
      codeAny (model P w) callerA (.call (.ref fa) ⟨[.ref a], []⟩) (fun r s' => r = .ok (.ret (.bool true)) ∧ OldK s₁.heap s'.heap ∧ s'.os = s₁.os ∧ AllBare s'.gens) s₁ := by
    intro H tabs only rz ok atA noK
    have seen : ∀ {b : Addr} {o : Obj}, s₁.heap.get? b = some o → (∀ us n, o.data ≠ .seq us n) → o.data ≠ .fields #[] → H b = none := by
      intro b o e h1 h2
      by_cases hb : b ∈ (lamTs K tf).map (·.1)
      · rw [tabIs b hb] at e
        cases e
        exact absurd rfl h2
      · cases q : H b with
        | none => rfl
        | some u =>
          obtain rfl := atA b hb (by rw [q]; exact fun z => nomatch z)
          rw [ha] at e
          cases e
          exact absurd rfl (h1 _ _)
    have keepNs : ∀ {b : Addr} {m : Str → Option Value}, s₁.heap.Ns b m → (hidT s₁.heap H).Ns b m := by
      rintro b m ⟨o, es, ep, e, d, r⟩
      exact ⟨o, es, ep, hidT_get e (seen e (fun _ _ z => by rw [d] at z; cases z) (fun z => by rw [d] at z; cases z)), d, r⟩
    have inBase : K.In (hidT s₁.heap H) := by
      intro b o e
      refine hidT_get (KX b o e) ?_
      by_cases hb : b ∈ (lamTs K tf).map (·.1)
      · obtain ⟨p, hp, rfl⟩ := tabAt b hb
        rw [out p hp] at e
        cases e
      · cases q : H b with
        | none => rfl
        | some u =>
          obtain rfl := atA b hb (by rw [q]; exact fun z => nomatch z)
          rw [noK (by rw [q]; exact fun z => nomatch z)] at e
          cases e
    have ground : Env0 P w K mg (hidT s₁.heap H) callerA [] s₁ H := by
      obtain ⟨mc, h1, h2⟩ := lim
      exact ⟨rfl, ⟨inBase, keepNs gl, ⟨mb, keepNs bl, blt⟩, mc, keepNs h1, h2⟩, fun b o e => of_hidT e, Nat.le_of_eq (hidT_size _ _), trivial, fun b hb => absurd (show b ∈ ([] : List Addr) from hb) (by simp), ok, AllBare.of_eq nog⟩
    have tabB : ∀ p ∈ tf, TabB (hidT s₁.heap H) mg (He.cT K p).1 (He.cT K p).2 := by
      intro p hp
      have isP := empty p hp
      refine ⟨PySem.W.codeHd_of_K inBase (hd p hp), ?_, ?_⟩
      · obtain ⟨bm, ob, b1, b2, b3, b4, b5, b6⟩ := main
        refine ⟨bm, ob, b1, b2, ?_, ?_, hidT_get b3 (seen b3 (fun _ _ z => by rw [b6] at z; cases z) (fun z => by rw [b6] at z; cases z)), b4, b5, b6⟩
        · intro z
          obtain ⟨o, es, ep, e, d, _⟩ := gl
          rw [z, e] at b3
          cases b3
          rw [d] at b6
          cases b6
        · intro z
          rw [z, isP] at b3
          cases b3
          cases b6
      · intro z
        obtain ⟨o, es, ep, e, d, _⟩ := gl
        rw [z, isP] at e
        cases e
        cases d
    have Fb := F _ inBase (keepNs gl) tabB
    have rs0 : RS0 K (tbS (lamTs K tf)) H := by
      intro b c e
      obtain ⟨q, rfl, hb⟩ := tbS_some e
      exact TabS.nil (tabs b hb)
    refine codeAny_mono (Fb.fn.run callerA [] s₁ H ⟨[.ref a], []⟩ [.ref a] [.ref a] (fun v _ => v = .bl true) (fun _ _ _ => False) rfl room ground (bind s₁ (.ref a)) (.cons rfl .nil) ⟨_, tbS (lamTs K tf), .cons rz .nil, rs0, Fb.mono (fun z S' ez v H' _ rz _ => ?_) (fun _ _ h => h.elim) (vdueT nd due)⟩) ?_
    · subst ez
      cases rz with | d rz => cases rz; rfl
    · intro r s' ended
      cases r with
      | error e =>
        obtain ⟨_, _, _, _, _, _, _, _, _, _, _, _, z⟩ := ended
        exact z.elim
      | ok fl =>
        cases fl with
        | next => exact ended.elim
        | brk => exact ended.elim
        | cont => exact ended.elim
        | ret u =>
          obtain ⟨v, H', os, bare, un, ok', rv', q⟩ := ended
          obtain rfl : v = .bl true := q
          obtain rfl : u = Value.bool true := rv'
          have same : ∀ b o, b ∉ (lamTs K tf).map (·.1) → s₁.heap.get? b = some o → s'.heap.get? b = some o := by
            intro b o nb e
            rcases only b nb with z | ⟨ob, xs, z⟩
            · exact un.keep b o e z (fun z => nomatch z) (fun z => nomatch z)
            · have after := (ok' b _ (un.frzs b ob _ z)).1
              have before := (ok b _ z).1
              rw [e] at before
              cases before
              exact after
          have grown : ∀ p ∈ tf, ∃ more : Array Value, s'.heap.get? (He.cT K p).2 = some { cls := .none, data := .fields more } := by
            intro p hp
            obtain ⟨more, z⟩ := un.tbls _ #[] (tabs _ (List.mem_map.mpr ⟨_, List.mem_map.mpr ⟨p, hp, rfl⟩, rfl⟩))
            exact ⟨_, ok' _ _ z⟩
          refine ⟨rfl, ⟨fun b o e => ?_, fun b o e => ?_⟩, os, bare⟩
          · by_cases hb : b ∈ (lamTs K tf).map (·.1)
            · obtain ⟨p, hp, rfl⟩ := tabAt b hb
              obtain ⟨more, z⟩ := grown p hp
              rw [empty p hp] at e
              cases e
              exact .inr (.inl ⟨((PySem.W.codeHd_of_K KX (hd p hp)).tab (empty p hp)).isCodeTable, rfl, #[], more, rfl, by rw [Array.empty_append]; exact z⟩)
            · exact .inl (same b o hb e)
          · by_cases hb : b ∈ (lamTs K tf).map (·.1)
            · obtain ⟨p, hp, rfl⟩ := tabAt b hb
              obtain ⟨more, z⟩ := grown p hp
              exact ⟨_, z⟩
            · exact ⟨o, same b o hb e⟩
  have pickT : ∀ (H0 : Hp) (b : Addr), b ∈ (lamTs K tf).map (·.1) → (fun c => if c ∈ (lamTs K tf).map (·.1) then some (HO.tbl #[]) else H0 c : Hp) b = some (.tbl #[]) := fun H0 b hb => if_pos hb
  have pickN : ∀ (H0 : Hp) (b : Addr), b ∉ (lamTs K tf).map (·.1) → (fun c => if c ∈ (lamTs K tf).map (·.1) then some (HO.tbl #[]) else H0 c : Hp) b = H0 b := fun H0 b hb => if_neg hb
  cases hk : K.lookup a with
  | some u =>
    have e := KX a u hk
    rw [ha] at e
    cases e
    refine core (fun c => if c ∈ (lamTs K tf).map (·.1) then some (HO.tbl #[]) else none) (pickT _) (fun b hb => .inl (pickN (fun _ => none) b hb)) (.k (.inr ⟨_, vs.toArray, _, hk, rfl, rfl, rfl, by rw [List.size_toArray, hI.length]; exact small, by simpa using rv⟩) (FzAll.ofInts ns)) (fun b u z => ?_) (fun b hb z => absurd (pickN (fun _ => none) b hb) z) (fun z => absurd (pickN (fun _ => none) a scriptNo) z)
    by_cases hb : b ∈ (lamTs K tf).map (·.1)
    · cases (if_pos hb).symm.trans z
      exact tabIs b hb
    · cases (if_neg hb).symm.trans z
  | none =>
    let H0 : Hp := fun c => if c = a then some (HO.frz { cls := .type "list", data := .seq vs.toArray } (.lst (ns.map V.int))) else none
    have at0 : H0 a = some (HO.frz { cls := .type "list", data := .seq vs.toArray } (.lst (ns.map V.int))) := if_pos rfl
    have not0 : ∀ b, b ≠ a → H0 b = none := fun b hb => if_neg hb
    refine core (fun c => if c ∈ (lamTs K tf).map (·.1) then some (HO.tbl #[]) else H0 c) (pickT H0) (fun b hb => ?_) (.k (.inl ⟨_, (pickN H0 a scriptNo).trans at0⟩) (FzAll.ofInts ns)) (fun b u z => ?_) (fun b hb z => ?_) (fun _ => hk)
    · rw [if_neg hb]
      by_cases e : b = a
      · exact .inr ⟨_, _, by rw [e]; exact at0⟩
      · exact .inl (not0 b e)
    · by_cases hb : b ∈ (lamTs K tf).map (·.1)
      · cases (if_pos hb).symm.trans z
        exact tabIs b hb
      · have z := (if_neg hb).symm.trans z
        by_cases e : b = a
        · subst e
          rw [show H0 b = _ from at0] at z
          cases z
          exact ⟨ha, by rw [List.length_map]; exact small, vs, _, rv, ha⟩
        · rw [not0 b e] at z
          cases z
    · refine Classical.byContradiction fun e => z ?_
      exact (pickN H0 b hb).trans (not0 b e)
end
theorem zwalkL {l : PySem.W.OpenLaw} {n k : Nat} {q : Program} {loose : List Str} {XP : (Str → Option Value) → Heap → Prop} {YP : World → Heap → Prop} {d : DefRec} {x : Str} (tf : List He.Defn)
    (hn : l.most = some n) (hn2 : n ≤ sizeLine) (hdf : d.params.defaults = []) (room : Room k callerA)
    (F : ∀ (w : World) (mg : Str → Option Value) (fa : Addr) (h : Heap), YP w h → h.Ns mainGlobals mg → mg d.name = some (.ref fa) →
      ∃ (K : PySem.W.Frag) (fd : FuncData) (Fm : List PyData → M PyData), K.In h ∧ ((∀ p ∈ tf, PySem.W.codeHdIn K (He.cT K p).1 (He.cT K p).2 = true) ∧ (∀ p ∈ tf, K.lookup (He.cT K p).2 = none) ∧ (∀ p ∈ tf, h.get? (He.cT K p).2 = some { cls := .none, data := .fields #[] }) ∧ ((lamTs K tf).map (·.1)).Nodup) ∧ (∀ (s : Shared) (u : Value), BindsTo s fd ⟨[u], []⟩ [(x, u)]) ∧
        (∀ ns : List Int, ns.length ≤ n → ∃ s', Fm [.list (ns.map PyData.int)] [] = .ok (.bool true) s') ∧ ∀ base : Heap, K.In base → base.Ns mainGlobals mg → (∀ p ∈ tf, TabB base mg (He.cT K p).1 (He.cT K p).2) → ZFn l.prog w K mg base k fa fd [x] (VSp (lamTs K tf) mg [.k] false Fm)) :
    PySem.W.WalkO q loose XP YP l.row.toRowW d [] (fun f vs => PySem.call f vs) := by
  refine Att.attach_call hn hdf ?_
  intro w s₀ s₁ mg mb fa o pm cd doc a vs ns G Y ho hd hcd hmg hobj hints hlen hg
  obtain ⟨K, fd, Fm, KX, ⟨t1, t2, t3, t4⟩, bind, due, FF⟩ := F w mg fa _ Y G.T.g hmg
  exact law_fromT KX G.T.g G.T.b G.T.builtins G.T.nolimit hg G.T.bmain t1 t2 t3 t4 hobj hints (Nat.le_trans hlen hn2) room FF bind (due ns hlen)
def exAll (ex : List (PySem.W.Frag → Bool)) (tf : List He.Defn) (K : PySem.W.Frag) : Bool := (ex.all fun b => b K) && nod (tf.map fun p => (He.cT K p).2)
theorem nod_nd : ∀ {l : List Nat}, nod l = true → l.Nodup
  | [], _ => List.nodup_nil
  | x :: r, h => by
    unfold nod at h
    rw [Bool.and_eq_true, Bool.not_eq_true'] at h
    exact List.nodup_cons.mpr ⟨fun z => by simp [z] at h, nod_nd h.2⟩
def SaysL (fa : List He.Fa) (fn : List He.DefD) (ex : List (PySem.W.Frag → Bool)) (tf : List He.Defn) (w : World) (h : Heap) (K : PySem.W.Frag) : Prop := He.SaysX fa fn [] tf (exAll ex tf) w h K
section
variable {fa : List He.Fa} {fn : List He.DefD} {ex : List (PySem.W.Frag → Bool)} {tf : List He.Defn} {w : World} {h : Heap} {K : PySem.W.Frag}
theorem SaysL.d (c : SaysL fa fn ex tf w h K) : He.SaysD fa fn K := He.SaysT.d (He.SaysX.t c)
theorem SaysL.x (c : SaysL fa fn ex tf w h K) (i : Nat) {f : PySem.W.Frag → Bool} (h : ex[i]? = some f := by rfl) : f K = true := by
  have c1 := (Bool.and_eq_true_iff.mp (He.SaysX.more c)).1
  exact List.all_eq_true.mp c1 f (List.mem_of_getElem? h)
theorem SaysL.tabs (c : SaysL fa fn ex tf w h K) : (∀ p ∈ tf, PySem.W.codeHdIn K (He.cT K p).1 (He.cT K p).2 = true) ∧ (∀ p ∈ tf, K.lookup (He.cT K p).2 = none) ∧ (∀ p ∈ tf, h.get? (He.cT K p).2 = some { cls := .none, data := .fields #[] }) ∧ ((lamTs K tf).map (·.1)).Nodup := by
  refine ⟨He.SaysX.hd c, He.SaysX.out c, He.SaysX.empty c, ?_⟩
  have c2 := (Bool.and_eq_true_iff.mp (He.SaysX.more c)).2
  have := nod_nd c2
  unfold lamTs
  rw [List.map_map]
  exact this
end
def excCB (K : PySem.W.Frag) (D : Addr) : Bool := decide (PySem.W.findIn K (.ref D) "__getattribute__" = some (some (.builtin "BaseException.__getattribute__"))) && (decide (PySem.W.findIn K (.ref D) "__getattr__" = some none) && (decide (PySem.W.subIn K (.ref D) (.type "BaseException") = some true) && (PySem.W.hasDictIn K D && (decide (PySem.W.findIn K (.ref D) "__class__" = some (some (.builtin "object.__class__"))) &&
  (decide (PySem.W.specialIn K (.builtin "object.__class__") "__get__" = some (some (.builtin "getset_descriptor.__get__"))) && (decide (PySem.W.takesIn K (.builtin "object.__class__") = some true) && decide (PySem.W.mroIn K D (.type "object") = some true)))))))
theorem excCB_ok {K : PySem.W.Frag} {D : Addr} (h : excCB K D = true) : ExcC K D := by
  unfold excCB at h
  simp only [Bool.and_eq_true, decide_eq_true_eq] at h
  obtain ⟨h1, h2, h3, h4, h5, h6, h7, h8⟩ := h
  exact ⟨h1, h2, h3, h4, h5, h6, h7, h8⟩
def exTabB (XS : List Str) (PE : Str) (K : PySem.W.Frag) : Bool := XS.all fun n => decide (PySem.W.nsIn K mainGlobals n = some (some (.ref (He.ga K n)))) && (excCB K (He.ga K n) && (decide (PySem.W.kitOne K (.ref (He.ga K n)) (.type "ValueError") = some true) && (decide (PySem.W.exmOne K (.ref (He.ga K n)) (.ref (He.ga K PE)) = some true) &&
  XS.all fun m => decide (PySem.W.kitOne K (.ref (He.ga K n)) (.ref (He.ga K m)) = some (decide (n = m))))))
theorem exTab_ok {K : PySem.W.Frag} {h : Heap} {mg : Str → Option Value} {XS : List Str} {PE : Str} (X : K.In h) (G : h.Ns mainGlobals mg) (c : exTabB XS PE K = true) : ExTab K mg XS ∧ ∀ n ∈ XS, ∀ D, mg n = some (.ref D) → PySem.W.exmOne K (.ref D) (.ref (He.ga K PE)) = some true := by
  unfold exTabB at c
  have c := List.all_eq_true.mp c
  have one : ∀ n ∈ XS, mg n = some (.ref (He.ga K n)) ∧ ExcC K (He.ga K n) ∧ PySem.W.kitOne K (.ref (He.ga K n)) (.type "ValueError") = some true ∧ PySem.W.exmOne K (.ref (He.ga K n)) (.ref (He.ga K PE)) = some true ∧ ∀ m ∈ XS, PySem.W.kitOne K (.ref (He.ga K n)) (.ref (He.ga K m)) = some (decide (n = m)) := by
    intro n hn
    have q := c n hn
    simp only [Bool.and_eq_true, decide_eq_true_eq, List.all_eq_true] at q
    obtain ⟨q1, q2, q3, q4, q5⟩ := q
    exact ⟨PySem.W.mg_of X G q1, excCB_ok q2, q3, q4, q5⟩
  refine ⟨⟨fun n hn => ⟨_, (one n hn).1, (one n hn).2.1, (one n hn).2.2.1⟩, fun n hn m hm D C e1 e2 => ?_⟩, fun n hn D e => ?_⟩
  · rw [(one n hn).1] at e1
    rw [(one m hm).1] at e2
    cases e1; cases e2
    exact (one n hn).2.2.2.2 m hm
  · rw [(one n hn).1] at e
    cases e
    exact (one n hn).2.2.2.1
end ZL
namespace V
open PySem PySem.Spec
def exNames : List Str := ["NoBalance", "NoDeed", "NoDeeds", "NoFirm", "NoFraction", "NoFrame", "NoHolding", "NoInner", "NoLine", "NoLoads", "NoLot", "NoMotions", "NoPiece", "NoPlate", "NoRest", "NoRounds", "NoRows", "NoStresses", "NoText", "NoThick", "NoTurning", "NoWay", "NoWays", "NoWhole", "NotHeld", "TooMany"]
end V
namespace ZL
open PySem PySem.Spec PyProof.Rows L2 V L2H
theorem f_bad {C : Ct} {e : Expr} {ρ : VEnv} : FE C e ρ bad := fun ps s S Q r w => w.elim
theorem room65H {k : Nat} {A : Around} (h : RoomH k A) : A.units + 65 < cLine := by have := h.un; omega
theorem units64H {k : Nat} {A : Around} (h : RoomH k A) : A.units + 64 < cLine := by have := h.un; omega
def indexO : PyData → List PyData → Option PyData
  | .list xs, [y] => if SeqAt.shaped y && SeqAt.shaped (.list xs) then (xs.findIdx? fun z => PyData.eqv z y).map fun (j : Nat) => .int (j : Int) else none
  | _, _ => none
theorem mt_indexO {X : Cx} (hu : X.A.units + 65 < cLine) : MtD X "list.index" indexO := by
  intro pins s σ H x xs v us Q I rx rxs h
  obtain ⟨d, ds, y, f, fs, e, q⟩ := h
  unfold indexO at e
  split at e
  · rename_i zs y
    split at e
    · rename_i hc
      rw [Bool.and_eq_true] at hc
      obtain ⟨j, ej, rfl⟩ := Option.map_eq_some_iff.mp e
      obtain ⟨hj, h1, h2⟩ := List.findIdx?_eq_some_iff_getElem.mp ej
      cases fs with | cons f1 ft =>
      cases ft
      have fd := f.dp (noDict_of_shaped hc.2)
      cases f with | lst sq fa =>
      refine mt_indexD hu pins s σ H _ _ v us Q I rx rxs ⟨_, _, y, zs, j, zs[j], rfl, rfl, fd, f1.dp (noDict_of_shaped hc.1), hc.2, hc.1, List.getElem?_eq_getElem hj, h1, fun m z' hm hz => ?_, q _ (.int _)⟩
      obtain ⟨hm', rfl⟩ := List.getElem?_eq_some_iff.mp hz
      exact Bool.not_eq_true _ ▸ h2 m hm
    · cases e
  · cases e
end ZL
namespace ZL
open PySem PySem.Spec PyProof.Rows L2
section
variable {X : Cx} {B : Bs} {o e f : Expr} {to te tf : ZT} {apos cpos : Pos}
end
end ZL
namespace V
open PySem PySem.Spec ZL L2
end V
namespace ZL
open PySem PySem.Spec PyProof.Rows L2 V
section
variable {C : Ct} {o e f : Expr} {ρ : VEnv} {apos cpos : Pos} {mo : M PyData} {ma : PyData → M PyData}
end
end ZL
namespace HotX
open PySem PySem.Spec PyProof.Rows
section
variable {prog : Program} {w : World} {A : Around} {E : Value → Shared → Prop} {s : Shared}
theorem HotAt.keep {x1 : Addr} {h h' : Heap} (hot : HotAt A x1 h) (k : ∀ o, h.get? x1 = some o → h'.get? x1 = some o) : HotAt A x1 h' := by
  obtain ⟨hh, o, vs, e, d, c⟩ := hot
  exact ⟨hh, o, vs, k o e, d, c⟩
theorem HotAt.lt {x1 : Addr} {h : Heap} (hot : HotAt A x1 h) : x1 < h.objs.size := by
  obtain ⟨_, o, _, e, _⟩ := hot
  exact Heap.lt_size e
end
end HotX
namespace ZL
open PySem PySem.Spec PyProof.Rows L2 L2H HotX
section
variable {X : Cx} {B : Bs}
end
end ZL
namespace ZL
open PySem PySem.Spec PyProof.Rows L2 V L2H
section
variable {C : Ct} {rm : Bool} {K : List (List Stmt)} {T L : Type} {ρ : VEnv} {emb : T → VEnv} {embL : L → VEnv} {rest : List Stmt} {a b : Expr} {pos : Pos}
end
end ZL
namespace ZL
open PySem PySem.Spec PyProof.Rows L2
section
variable {X : Cx} {B : Bs}
end
end ZL
namespace V
open PySem PySem.Spec ZL L2
end V
namespace ZL
open PySem PySem.Spec PyProof.Rows L2 V
section
variable {C : Ct} {e f : Expr} {ρ : VEnv} {pos : Pos} {m : M PyData}
end
end ZL
namespace PySem.SeqAt
open AutoSeq1 (wpAny_loadPart')
open MeetsSeq MeetsSeq2 MeetsSeq3 SeqRoads2
end PySem.SeqAt
namespace ZL
open PySem PySem.Spec PyProof.Rows L2
section
variable {X : Cx}
end
end ZL
namespace V
open PySem PySem.Spec ZL L2
end V
namespace ZL
open PySem PySem.Spec PyProof.Rows L2 V
end ZL
namespace ZL
open PySem PySem.Spec PyProof.Rows L2
section
variable {X : Cx} {pins : List (Addr × Obj)} {σ : L2.St} {H : Hp} {s : Shared}
end
structure ShwX (x : PyData) : Prop where
  s : x.showable = true
  d : x.depth ≤ 100
  z : x.shown.length ≤ sizeLine
end ZL
namespace V
open PySem PySem.Spec ZL L2
def reprXOk (d : PyData) : Bool := d.showable && decide (d.depth ≤ 100) && decide (d.shown.length ≤ line)
def reprXO (d : PyData) : Option PyData := if reprXOk d then some (.str d.shown) else none
abbrev reprXM (x : PyData) : M PyData := ofO (reprXO x)
end V
namespace ZL
open PySem PySem.Spec PyProof.Rows L2 V
end ZL
namespace ZL
open PySem PySem.Spec PyProof.Rows L2
section
variable {n : Nat} {fa : List He.Fa} {fn : List He.DefD} {tf : List He.Defn} {ex : PySem.W.Frag → Bool}
end
end ZL
namespace ZL
open PySem PySem.Spec PyProof.Rows L2
section
variable {X : Cx} {B : Bs} {a b : Expr} {rest : List Expr} {pos : Pos} {ta tb : ZT}
end
end ZL
namespace V
open PySem PySem.Spec ZL L2
end V
namespace ZL
open PySem PySem.Spec PyProof.Rows L2 V
section
variable {C : Ct} {a b : Expr} {rest : List Expr} {ρ : VEnv} {pos : Pos} {na nb : M PyData}
end
end ZL
namespace ZL
open PySem PySem.Spec PyProof.Rows L2 V
section
variable {n : Nat} {fa : List He.Fa} {fn : List He.DefD} {ex : List (PySem.W.Frag → Bool)}
end
end ZL
namespace ZL
open PySem PySem.Spec PyProof.Rows L2 V
section
variable {L : (Addr → Option Obj) → List Addr} {fa : List He.Fa} {fn : List He.DefD} {tf : List He.Defn} {ex : PySem.W.Frag → Bool} {xs : List (PySem.W.Frag → Bool)}
end
end ZL
namespace ZL
open PySem PySem.Spec PySem.W PySem.Calls PyProof.Rows L2 V
section
variable {r : OpenRow} {q : Program} {M : Nat} {loose : List PySem.Str} {w : World} {L : (Addr → Option Obj) → List Addr} {fa : List He.Fa} {fn : List He.DefD} {tf : List He.Defn} {ex : PySem.W.Frag → Bool} {xs : List (PySem.W.Frag → Bool)}
end
end ZL
namespace ZL
open PySem PySem.Spec PySem.W PySem.Calls PyProof.Rows L2 V
mutual
def bigOk : PyData → Bool
  | .int i => decide (i.natAbs.log2 < 12000)
  | .list xs => bigOkA xs
  | .tuple xs => bigOkA xs
  | .dict _ => false
  | _ => true
def bigOkA : List PyData → Bool
  | [] => true
  | x :: xs => bigOk x && bigOkA xs
end
section
variable {prog : Program} {w : World} {A : Around} {E : Value → Shared → Prop} {s : Shared} {K : PySem.W.Frag} {h₀ : Heap}
theorem ReprK.mk {as : List Addr} {d : Nat} {u : Value} {x : Str} (hu : ∀ a, u ≠ .ref a) (h : ∀ (A : Around) (E : Value → Shared → Prop) (s : Shared) (Q : Str → Shared → Prop), K.In s.heap → (∀ tk, Q x { s with toks := tk }) → wpAny (model prog w) A (pyRepr u) Q E s) (hK : K.In h₀) : ReprK prog w as h₀ d u x := by
  intro base hb A g E s Q _ _ _ hk0 hQ
  have hb' : base ≤ sizeLine := by omega
  rw [pyReprUnder_leaf hb' hu]
  exact h A E s Q (hK.keeps hk0) fun tk => hQ s.heap tk fun _ _ e => e
end
section
variable {K : PySem.W.Frag} {x qual : Str} {params : Arguments} {body : List Stmt} {scope : Scope} {kws : List (Str × L2.V)} {f : Addr} {fd : FuncData} {ps : List Str}
end
structure ShwB (x : PyData) : Prop where
  o : bigOk x = true
  d : x.depth ≤ 100
  z : x.shown.length ≤ sizeLine
  q : (match x with | .list _ => true | .tuple _ => true | _ => false) = true
end ZL
namespace V
open PySem PySem.Spec ZL L2
end V
namespace ZL
open PySem PySem.Spec PyProof.Rows L2 V
end ZL
namespace TG
open PySem PyProof.Rows TS
def lx : List Int → List Int → Bool
  | [], [] => false
  | [], _ :: _ => true
  | _ :: _, [] => false
  | a :: r, b :: q => decide (a < b) || (decide (a = b) && lx r q)
def Ups (h : Heap) (vs : List Value) : Prop := ∀ v ∈ vs, ∃ ns, TupInts h v ns ∧ ns ≠ []
theorem Ups.keeps {h h' : Heap} {vs : List Value} (x : Ups h vs) (k : ∀ b o, h.get? b = some o → o.cls = .type "tuple" → h'.get? b = some o) : Ups h' vs := fun v hv => let ⟨ns, t, n⟩ := x v hv; ⟨ns, t.keeps k, n⟩
section
variable {prog : Program} {w : World} {A : Around} {E : Value → Shared → Prop} {s : Shared}
end
end TG
namespace L2
open PySem PySem.Spec PyProof.Rows
section
variable {P : Program} {w : World} {A : Around} {E : Value → Shared → Prop} {s : Shared}
end
end L2
namespace L2
open PySem PySem.Spec PyProof.Rows
section
variable {X : Cx}
end
end L2
namespace ZL
open PySem PySem.Spec PyProof.Rows L2
section
variable {X : Cx} {B : Bs}
end
section
variable {X : Cx} {B : Bs} {pos p p2 q2 : Pos} {x : Str}
end
end ZL
namespace V
open PySem PySem.Spec ZL L2
end V
namespace ZL
open PySem PySem.Spec PyProof.Rows L2 V
section
variable {C : Ct} {elt t0 i0 e : Expr} {ifs0 : List Expr} {ρ : VEnv} {scope : Scope} {own : List (Str × Nat)} {o : List Nat} {pos p spos : Pos} {g : ZG} {T : Type} {mt : PyData → Option T} {asg : T → List (Nat × PyData)} {cnd : T → M Bool} {mi : M (List PyData)} {k : Nat}
end
end ZL
namespace ZL
open PySem PySem.Spec PyProof.Rows L2 V
section
variable {X : Cx} {B : Bs} {elt t0 i0 t1 i1 t2 i2 : Expr} {ifs0 ifs1 ifs2 : List Expr} {scope : Scope} {own : List (Str × Nat)} {o o1 o2 vs1 vs2 : List Nat} {ti ti1 ti2 : ZTI} {g g1 g2 : ZG} {tt tt1 tt2 : ZB} {te : ZT} {pos : Pos}
end
section
variable {C : Ct} {elt t0 i0 t1 i1 t2 i2 e : Expr} {ifs0 ifs1 ifs2 : List Expr} {ρ : VEnv} {scope : Scope} {own : List (Str × Nat)} {o o1 o2 vs1 vs2 : List Nat} {pos p spos p2 q2 : Pos} {g g1 g2 : ZG} {T T1 T2 : Type} {mt : PyData → Option T} {mt1 : PyData → Option T1} {mt2 : PyData → Option T2} {asg : T → List (Nat × PyData)} {asg1 : T1 → List (Nat × PyData)} {asg2 : T2 → List (Nat × PyData)} {cnd : T → M Bool} {cnd1 : T → T1 → M Bool} {cnd2 : T → T1 → T2 → M Bool} {mi : M (List PyData)} {mi1 : T → M (List PyData)} {mi2 : T → T1 → M (List PyData)} {k : Nat}
end
end ZL
namespace L2
open PySem PySem.Spec PyProof.Rows
end L2
namespace V
open PySem PySem.Spec ZL L2
end V
namespace ZL
open PySem PySem.Spec PyProof.Rows L2 V
section
variable {X : Cx} {B : Bs}
end
end ZL
namespace ZipW
open PySem
section
variable {prog : Program} {w : World} {A : Around} {E : Value → Shared → Prop} {s : Shared} {z TI TO i1 i2 : Addr} {fp1 fp2 : List Addr} {n1 n2 i : Nat} {P1 P2 : Nat → Value → Prop} {St1 St2 : Nat → Heap → Prop} {a1 a2 : Value}
end
end ZipW
namespace ZL
open PySem PySem.Spec PyProof.Rows L2 ZipW
def ZSt (t u : Bool) (z TI TO i1 i2 a b : Addr) (i : Nat) (h : Heap) : Prop := (∃ f0 f1, ZipW.Own f0 f1 ∧ ZipW.ZX h z TI TO f0 f1) ∧ IsTupOf2 h TI (.ref i1) (.ref i2) ∧ (∃ x y, IsTupOf2 h TO x y) ∧ siO t h i1 a i ∧ siO u h i2 b i
theorem ZSt.keep {t u : Bool} {z TI TO i1 i2 a b : Addr} {i : Nat} {h h' : Heap} (st : ZSt t u z TI TO i1 i2 a b i h) (k : ∀ c ∈ [z, TI, TO, i1, i2], ∀ o, h.get? c = some o → h'.get? c = some o) : ZSt t u z TI TO i1 i2 a b i h' := by
  obtain ⟨⟨f0, f1, ow, hz⟩, hTI, ⟨x, y, hTO⟩, h1, h2⟩ := st
  exact ⟨⟨f0, f1, ow, k z (by simp) _ hz⟩, k TI (by simp) _ hTI, ⟨x, y, k TO (by simp) _ hTO⟩, siO_at h1 fun o q => k i1 (by simp) o q, siO_at h2 fun o q => k i2 (by simp) o q⟩
section
variable {X : Cx} {pins : List (Addr × Obj)} {σ : L2.St} {H : Hp} {s : Shared} {t u : Bool} {z TI TO i1 i2 a b : Addr} {i : Nat} {xs ys : List V}
end
end ZL
namespace ZL
open PySem PySem.Spec PyProof.Rows L2 ZipW
abbrev atA (X : Cx) (A : Around) : Cx := { X with A := A }
section
variable {X : Cx} {pins : List (Addr × Obj)} {σ : L2.St} {t u : Bool} {z TI TO i1 i2 a b S : Addr} {xs ys : List V}
end
end ZL
namespace ZipW
open PySem
end ZipW
namespace ZL
open PySem PySem.Spec PyProof.Rows L2 ZipW
section
variable {X : Cx} {pins : List (Addr × Obj)} {σ : L2.St} {H : Hp} {s : Shared} {t u : Bool} {z TI TO i1 i2 a b : Addr} {xs ys : List V}
end
end ZL
namespace ZL
open PySem PySem.Spec PyProof.Rows L2 ZipW
end ZL
namespace V
open PySem PySem.Spec ZL L2
end V
namespace ZL
open PySem PySem.Spec PyProof.Rows L2 V
section
variable {C : Ct} {a b : Expr} {ρ : VEnv} {pos p p2 pos2 : Pos} {m : M PyData}
end
end ZL
namespace ZL
open PySem PySem.Spec PyProof.Rows L2 V
end ZL
namespace ZL
open PySem PySem.Spec PyProof.Rows L2
section
variable {K : PySem.W.Frag} {H : Hp}
end
section
variable {X : Cx} {B : Bs}
end
end ZL
namespace V
open PySem PySem.Spec ZL L2
def getD (j : Nat) : M (List (Int × PyData)) := fun s => match s[j]? with
  | some (some (.dct ds)) => .ok ds s
  | _ => .bad
end V
namespace ZL
open PySem PySem.Spec PyProof.Rows L2 V
section
variable {C : Ct} {e a b : Expr} {ρ : VEnv} {pos : Pos}
end
section
variable {C : Ct} {e : Expr} {ρ : VEnv} {pos : Pos} {rm : Bool} {K : List (List Stmt)} {rest : List Stmt} {L T : Type} {emb : T → VEnv} {embL : L → VEnv} {me mi : M PyData} {mD : M (List (Int × PyData))}
end
end ZL
namespace ZL
open PySem PySem.Spec PyProof.Rows L2 V L2H LamX
def HereO (f : Addr) : HO := .ext fun h => ∃ o, h.get? f = some o
def LamAt (X : Cx) (H : Hp) (f : Addr) (params : Arguments) (body : Expr) (scope : Scope) : Prop := ∃ pm c' ctv, H f = some (.frz (lamO X params body scope pm c' ctv) (HereO f)) ∧ H c' = some (CodeO c' (X.env.qual ++ "<lambda>"))
section
variable {X : Cx} {pins : List (Addr × Obj)} {σ : L2.St} {H : Hp} {s : Shared}
theorem hereO_ok {P : Program} {w : World} {H : Hp} {h : Heap} {f : Addr} {o : Obj} (e : h.get? f = some o) : ObjOk P w H h f (.frz o (HereO f)) :=
  ⟨e, ⟨o, e⟩, ⟨o, e⟩, fun h1 h2 ⟨o, e⟩ k => ⟨o, k o e⟩⟩
theorem lam_newT {c P : Addr} {params : Arguments} {body : Expr} {scope : Scope} {pos : Pos} {E Q : Value → Shared → Prop} (I : Inv X pins σ H s) (TB : TabB X.base X.mg c P) (code : X.env.code = .ref c) (tab : TabS H P (X.env.qual ++ "<lambda>"))
    (nodef : defaultsOf params X.env = ([], [])) (held : ∀ y ∈ scope.names, y.2 = .free → ∃ c, X.env.cells.lookup y.1 = some c)
    (h : ∀ (f : Addr) (H1 : Hp) (s' : Shared), Inv X pins σ H1 s' → (∀ b o, b ≠ P → H b = some o → H1 b = some o) → TabS H1 P (X.env.qual ++ "<lambda>") → H f = none → LamAt X H1 f params body scope → Q (.ref f) s') :
    wpAny (model X.prog X.w) X.A (eval (.Lambda params body scope pos) X.env) Q E s := by
  obtain ⟨ps, hP, trip, among⟩ := tab
  refine PySem.W.kla_eval nodef ?_
  have inB : s.heap.BuiltinsAt X.mg P := TB.bm.keeps I.bk
  have atP : s.heap.get? P = some { cls := .none, data := .fields ps } := I.hok P _ hP
  cases hc : codeAmong pos ps.toList with
  | some cv =>
    obtain ⟨c', rfl, known⟩ := among pos cv hc
    refine PySem.W.kla_makeFunctionHit (c := c) (P := P) (ps := ps) (mg := X.mg) (closure_ok held) I.ok.glob (I.mod.glob.keeps I.bk) code (TB.code.keeps I.bk) atP trip hc inB ?_
    intro ctv h' tk hx hsz
    have hf : H h'.objs.size = none := I.hok.fresh hsz
    have keep : ∀ b o, H b = some o → upd H h'.objs.size (.frz (lamO X params body scope ((X.mg "__name__").getD .none) c' ctv) (HereO h'.objs.size)) b = some o := fun b o e => by rw [upd_ne (ne_of_none e hf)]; exact e
    exact h h'.objs.size _ _ (I.laid (t' := tk) (h' := h'.push (lamO X params body scope ((X.mg "__name__").getD .none) c' ctv)) (fun b o e => Heap.get?_push_of_some _ (hx b o e)) hsz (hereO_ok (Heap.get?_push_size _ rfl))) (fun b o _ e => keep b o e) (TabS.ext ⟨ps, hP, trip, among⟩ keep) hf ⟨_, c', ctv, upd_same, keep _ _ known⟩
  | none =>
    refine PySem.W.kla_makeFunction (c := c) (P := P) (ps := ps) (mg := X.mg) (closure_ok held) I.ok.glob (I.mod.glob.keeps I.bk) code (TB.code.keeps I.bk) atP trip hc TB.gP inB ?_
    rintro c' ctv h' tk hx hge hlt ⟨c2, oc, vs, t, e2, hoc, hd, hv⟩ htb
    cases e2
    have big : s.heap.objs.size ≤ h'.objs.size := Nat.le_trans hge (Nat.le_of_lt hlt)
    have newC : H c' = none := I.hok.fresh hge
    have J := inv_table (t' := tk) (more := #[rawInt pos.line, rawInt pos.col, .ref c']) (h' := h') I hP hx htb hge ⟨oc, vs, t, hoc, hd, hv⟩
    have rest : ∀ b o, b ≠ P → H b = some o → upd (upd H P (.tbl (ps ++ #[rawInt pos.line, rawInt pos.col, .ref c']))) c' (CodeO c' (X.env.qual ++ "<lambda>")) b = some o := by
      intro b o hb e
      rw [upd_ne (ne_of_none e newC), upd_ne hb]
      exact e
    have n1 : h'.objs.size ≠ c' := Nat.ne_of_gt hlt
    have n2 : h'.objs.size ≠ P := Nat.ne_of_gt (Nat.lt_of_lt_of_le (Heap.lt_size atP) big)
    have hf : H h'.objs.size = none := I.hok.fresh big
    have hf2 : upd (upd H P (.tbl (ps ++ #[rawInt pos.line, rawInt pos.col, .ref c']))) c' (CodeO c' (X.env.qual ++ "<lambda>")) h'.objs.size = none := by rw [upd_ne n1, upd_ne n2]; exact hf
    have tab2 : TabS (upd (upd H P (.tbl (ps ++ #[rawInt pos.line, rawInt pos.col, .ref c']))) c' (CodeO c' (X.env.qual ++ "<lambda>"))) P (X.env.qual ++ "<lambda>") := by
      refine ⟨_, by rw [upd_ne (ne_of_none hP newC), upd_same], ?_, ?_⟩
      · rw [Array.toList_append]
        exact PySem.TriplesOk_snoc _ _ _ _ trip
      · intro p' cv hcv
        rw [Array.toList_append] at hcv
        cases among_app _ trip hcv with
        | inl z =>
          obtain ⟨c0, e1, e2⟩ := among p' cv z
          refine ⟨c0, e1, rest _ _ (fun y => ?_) e2⟩
          rw [y, hP] at e2
          exact codeO_ne ps (Option.some.inj e2).symm
        | inr z => exact ⟨c', z, upd_same⟩
    have atC : upd (upd H P (.tbl (ps ++ #[rawInt pos.line, rawInt pos.col, .ref c']))) c' (CodeO c' (X.env.qual ++ "<lambda>")) c' = some (CodeO c' (X.env.qual ++ "<lambda>")) := upd_same
    generalize upd (upd H P (.tbl (ps ++ #[rawInt pos.line, rawInt pos.col, .ref c']))) c' (CodeO c' (X.env.qual ++ "<lambda>")) = H2 at J rest hf2 tab2 atC
    have keep : ∀ b o, H2 b = some o → upd H2 h'.objs.size (.frz (lamO X params body scope ((X.mg "__name__").getD .none) c' ctv) (HereO h'.objs.size)) b = some o := fun b o e => by rw [upd_ne (ne_of_none e hf2)]; exact e
    exact h h'.objs.size _ _ (J.laid (t' := tk) (h' := h'.push (lamO X params body scope ((X.mg "__name__").getD .none) c' ctv)) (fun b o e => Heap.get?_push_of_some _ e) (Nat.le_refl _) (hereO_ok (Heap.get?_push_size _ rfl))) (fun b o hb e => keep b o (rest b o hb e)) (tab2.ext keep) hf ⟨_, c', ctv, upd_same, keep _ _ atC⟩
end
abbrev cxLG (X : Cx) (A : Around) (outer : List PySem.Env) (scope : Scope) (f c' : Addr) (E : XK) (sZ : Shared) (HZ : Hp) : Cx := (lamCx X A outer sZ HZ E scope f c').tr [] (xeL X A outer sZ HZ E scope f c')
abbrev cxH0 (X : Cx) (CXg : CXT) (Eg : XK) (Ng : List Str) (qg : Str) (sg : Scope) (g : Addr) (cdg : Value) (A0 : Around) (outer0 : List PySem.Env) (s : Shared) (H : Hp) : Cx := cxOf CXg X.prog X.w X.K X.mg X.base Ng qg sg g cdg A0 outer0 s H Eg
def Back (X : Cx) (σ : L2.St) (outer0 : List PySem.Env) (s1 : Shared) (H1 : Hp) : Prop := ∀ (s2 : Shared) (H2 : Hp), Un (frs outer0) [] H1 H2 s1.heap s2.heap → s2.os = s1.os → AllBare s2.gens → HOk X.prog X.w H2 s2.heap → ∃ pins, Inv X pins σ H2 s2
theorem Back.here {X : Cx} {pins : List (Addr × Obj)} {σ : L2.St} {H : Hp} {s : Shared} (I : Inv X pins σ H s) : Back X σ X.stack s H := fun s2 H2 un os gb hok => ⟨pins, I.call' (ch := []) os un hok gb fun b z => absurd z (by simp)⟩
section
variable {X : Cx} {pins : List (Addr × Obj)} {σ : L2.St} {H : Hp} {s : Shared} {CXg : CXT} {Eg : XK} {Ng : List Str} {qg a : Str} {sg scope : Scope} {g f c' : Addr} {cdg pm ctv : Value} {params : Arguments} {body : Expr} {k i : Nat} {pn : List (Addr × Obj)} {xe : Value → Shared → Prop} {W : WX} {E : XK} {tb : TE} {p1 p2 : Pos}
theorem lam_callG {A0 : Around} {outer0 : List PySem.Env} (back : Back X σ outer0 s H) (Ls : LamS X.env.scope scope)
    (binds : bindArgs (PySem.W.kla_fn "<lambda>" (X.env.qual ++ "<lambda>") params body scope (cloFrom X.env.cells scope.names []) pm (.ref c') ctv) ⟨[], []⟩ = pure [])
    (tk : L2N.Takes ((cxH0 X CXg Eg Ng qg sg g cdg A0 outer0 s H).tr pn xe) W) (hW : ∀ σ' : L2.St, σ'.length = Ng.length → ∀ cls d H', E cls d H' → W cls d σ' H') (room : Room (k + 1) (A0.deeper (envG qg sg s g cdg)))
    (hbody : ∀ (sZ : Shared) (HZ : Hp), Room k (((A0.deeper (envG qg sg s g cdg)).deeper (lamEnv X scope sZ.heap.objs.size f c'))) → PE (cxLG X (A0.deeper (envG qg sg s g cdg)) (envG qg sg s g cdg :: outer0) scope f c' E sZ HZ) body tb)
    (hN : Ng[i]? = some a) (hv : Vis sg a) (hd : (a == ("__debug__" : Str)) = false) (hcd : (a == ("__classdict__" : Str)) = false) :
    PE ((cxH0 X CXg Eg Ng qg sg g cdg A0 outer0 s H).tr pn xe) (.Call (.Name a p1) [] [] p2) (fun σZ HZ Q => σZ[i]? = some (some (.ref f)) ∧ HZ f = some (.frz (lamO X params body scope pm c' ctv) (HereO f)) ∧ HZ c' = some (CodeO c' (X.env.qual ++ "<lambda>")) ∧ tb σ HZ Q) := by
  constructor
  rintro pinsZ sZ σZ HZ Q IZ ⟨at_i, atf, code, wish⟩
  have name := (pe_var (X := (cxH0 X CXg Eg Ng qg sg g cdg A0 outer0 s H).tr pn xe) (pos := p1) (i := i) hN hv hd hcd).run pinsZ sZ σZ HZ (fun v H1 => v = V.ref f ∧ H1 = HZ) IZ ⟨V.ref f, at_i, rfl, rfl⟩
  refine wpAny_Call_Name_kw (thn name ?_)
  rintro u s1 ⟨_, H1, I1, rv, rfl, rfl⟩
  obtain rfl : u = Value.ref f := rv
  have still : s1.heap.get? f = some (lamO X params body scope pm c' ctv) := (I1.hok f _ atf).1
  obtain ⟨pins2, I⟩ := back s1 H1 I1.base I1.os I1.bare I1.hok
  obtain ⟨⟨oc, vs, t, c1, c2, c3⟩, _, _⟩ := I1.hok c' _ code
  refine PySem.W.callWith_F0 ⟨_, _, _, _, still⟩ ?_
  refine wpAny_call (codeAny_mono (R := CR (L2N.CX X.prog X.w) (envG qg sg s g cdg :: outer0) X.prog X.w H1 s1 Q E) ?_ ?_)
  · refine PySem.W.kla_callFunE room.depth still rfl Ls.co Ls.gen rfl ⟨c', oc, vs, t, rfl, c1, c2, c3⟩ ?_
    show wpAny _ _ (bindArgs _ ⟨[], []⟩) _ _ _
    rw [binds]
    refine wpAny_pure (wpAny_newFunctionEnv (fun y hy => (Ls.own y hy).2) (fun y hy => absurd hy (by simp)) ?_ Ls.kind)
    intro h₁ hns hsb
    refine ⟨I1.nolimit.fresh _ hsb, ?_⟩
    have kept : ∀ b o, s1.heap.get? b = some o → h₁.get? b = some o := by
      intro b o e
      exact hsb.extBut b o (Nat.ne_of_lt (Heap.lt_size e)) (Heap.get?_push_of_some _ e)
    have begun : Inv (cxLG X (A0.deeper (envG qg sg s g cdg)) (envG qg sg s g cdg :: outer0) scope f c' E s1 H1) [] σ H1 { s1 with heap := h₁, toks := s1.toks + ([] : List (Str × Value)).length } := (lam_start2 (E := E) I Ls I1.env0 room.hd .refl hns kept).toTry _
    show codeAny _ _ (.expr body (lamEnv X scope s1.heap.objs.size f c')) _ _
    refine PySem.W.kla_codeExpr (wpAny_mono ((hbody s1 H1 (room.deeper _)).run [] _ _ H1 Q begun wish) ?_ fun _ _ left => left)
    rintro v s' ⟨w', H', J, r, q⟩
    exact ⟨w', H', J.os, J.bare, J.base, J.hok, r, q⟩
  · intro r s' ended
    cases r with
    | error e => exact tk e s' (L2N.XE.of_call I1 (fun cls d H' h => hW _ I1.len cls d H' h) ended)
    | ok fl => cases fl with
      | ret u => exact I1.after ended
      | next => exact ended.elim
      | brk => exact ended.elim
      | cont => exact ended.elim
end
def FLamG (C : Ct) (Ts : Tbs) (kl : Nat) (scope : Scope) (body : Expr) (ρ : VEnv) (m : M PyData) : Prop :=
  ∀ (A : Around) (outer : List PySem.Env) (f c' : Addr) (E : XK) (sZ : Shared) (HZ : Hp) (B : Bs) (S : Sto) (EZ : XW),
    ((cxLG C.X A outer scope f c' E sZ HZ).A.guards = some [] ∧ Gt Ts ⟨[], S⟩) → Room kl (cxLG C.X A outer scope f c' E sZ HZ).A → Tk (cxLG C.X A outer scope f c' E sZ HZ) B (fun _ x S => EZ x S) →
    FE ⟨cxLG C.X A outer scope f c' E sZ HZ, B, ⟨[], S⟩, EZ⟩ body (VEnv.dat ρ) m
abbrev NoPar (params : Arguments) (body : Expr) (scope : Scope) : Prop := ∀ (q : Str) (cl : List (Str × Addr)) (pm cv ctv : Value), bindArgs (PySem.W.kla_fn "<lambda>" q params body scope cl pm cv ctv) ⟨[], []⟩ = pure []
def SaidRun (P : Program) (w : World) (K : PySem.W.Frag) (mg : Str → Option Value) (base : Heap) (Ts : Tbs) (kl : Nat) (XS : List Str) (post : PyData → M PyData) (W : Str → M PyData) (g : Addr) : Prop :=
  ∀ (C : Ct), C.X.prog = P → C.X.w = w → C.X.K = K → C.X.mg = mg → C.X.base = base → ∀ (A0 : Around) (outer0 : List PySem.Env) (s1 : Shared) (H1 : Hp) (S : Sto) (f : Addr) (params : Arguments) (body : Expr) (scope : Scope) (ρ : VEnv) (σ : L2.St) (m : M PyData) (d' : PyData) (Q : VK),
    A0.guards = some [] → TbIn Ts S → OwnOk S → Room (kl + 2) A0 → Env0 P w K mg base A0 outer0 s1 H1 → Back C.X σ outer0 s1 H1 → LamS C.X.env.scope scope → NoPar params body scope → FLamG C Ts kl scope body ρ m → SaidR XS post W m d' → LamAt C.X H1 f params body scope → RE K H1 (VEnv.den [] (VEnv.dat ρ)) σ → RS0 K S H1 →
    (∀ S' v H', Rel ⟨[], S⟩ [] [] S' → Step S S' H1 H' → RZ K H' v (.d d') → RS0 K S' H' → Q v H') → codeAny (model P w) A0 (.call (.ref g) ⟨[.ref f], []⟩) (CR (L2N.CX P w) outer0 P w H1 s1 Q fun _ _ _ => False) s1
theorem SaidD.run {P : Program} {w : World} {K : PySem.W.Frag} {mg : Str → Option Value} {base : Heap} {Ts : Tbs} {kl : Nat} {x : Str} {XS : List Str} {post : PyData → M PyData} {Wm : Str → M PyData} (G : SaidD P w K mg base Ts kl x XS post Wm) : SaidRun P w K mg base Ts kl XS post Wm G.g := by
  intro C eP ew eK em eb A0 outer0 s1 H1 S f params body scope ρ σ m d' Q hG1 tbi oS hr e0 back Ls binds hbody hres la1 E1 rs1 q
  subst eP ew eK em eb
  obtain ⟨a, fo, e, word, y, ret, pf, pa, pc, pas, pE, pw, pe, pcw, pr, ph, pt, pr2, pg, sg, g, gw, pE2, fdg, fdw, kw, F, Sg, hm, hb, hW, hkl, hmw, hkw, hbw, hPE, exm, la, lf, le, lP, lw, da, ca, de, ce, dw, hret⟩ := G
  obtain ⟨pm, c', ctv, at1, code1⟩ := la1
  obtain ⟨oc, od, dV, kV, doc, pm2, an, cdv, ct, osl, rfl, lk, hcd, _, _⟩ := F.ex
  have bind1 := hb s1 [.ref f] (e0.mod.kin.keeps fun b o e => And.left (e0.bs b o e)) rfl
  rw [List.append_nil] at bind1
  refine run_ofS (E := fun _ _ _ => False) (N := [a, fo, e]) (ps := [a]) (us := [.ref f]) (vs := [V.ref f]) lk hcd Sg hr e0 bind1 (.cons rfl .nil) rfl ?_
  · intro room
    have done : ∀ S2 S' H2 H' (v : L2.V), Grow S S2 → OwnOk S2 → Step S S2 H1 H2 → Rel ⟨[], S2⟩ [] [] S' → Step S2 S' H2 H' → RZ C.X.K H' v (.d d') → RS0 C.X.K S' H' → Q v H' := by
      intro S2 S' H2 H' v g o st hR st' rz rs
      exact q S' v H' (((rel0 oS).grow g o).grow (rel0_grow hR) hR.owS) (st.trans st') rz rs
    have EZ : ∃ EZ : XW, EZ = fun zx S2 => (∃ y s2, m [] = .ex y s2 ∧ XR C.X.mg y zx) ∧ Grow S S2 ∧ OwnOk S2 := ⟨_, rfl⟩
    obtain ⟨EZ, eEZ⟩ := EZ
    have Ech : ∃ Ech : XK, Ech = fun cls d H2 => ∃ n D S2 s2 s3, cls = Value.ref D ∧ d = none ∧ n ∈ XS ∧ C.X.mg n = some (.ref D) ∧ Wm n [] = .ok d' s3 ∧ m [] = .ex ⟨n, []⟩ s2 ∧ RS C.X.K ⟨S, H1⟩ S2 H2 ∧ Grow S S2 ∧ OwnOk S2 := ⟨_, rfl⟩
    obtain ⟨Ech, eEch⟩ := Ech
    let D0 : Ends := { nx := fun _ H' => Q .non H', rt := Q }
    let Z0 : Cx := cxH0 C.X (L2N.CX C.X.prog C.X.w) (fun _ _ _ => False) [a, fo, e] x sg g cdv A0 outer0 s1 H1
    let B1 : Bs := ⟨S, H1⟩
    let tR : TE := low C.X.K B1 (WE Z0 B1 ret)
    let tbL : TE := low C.X.K B1 fun ρ0 S0 Q0 => ∀ (sZ : Shared) (HZ : Hp), Room kl (cxLG C.X (A0.deeper (envG x sg s1 g cdv)) (envG x sg s1 g cdv :: outer0) scope f c' Ech sZ HZ).A → WE (cxLG C.X (A0.deeper (envG x sg s1 g cdv)) (envG x sg s1 g cdv :: outer0) scope f c' Ech sZ HZ) B1 body ρ0 S0 Q0
    let TB1 : WX → TS := fun W D σ2 H2 => (∀ σ', σ'.length = 3 → ∀ cls d H3, Ech cls d H3 → W cls d σ' H3) ∧ σ2[0]? = some (some (V.ref f)) ∧ H2 f = some (.frz (lamO C.X params body scope pm c' ctv) (HereO f)) ∧ H2 c' = some (CodeO c' (C.X.env.qual ++ "<lambda>")) ∧ tbL σ H2 fun v H3 => D.nx (σ2.set 1 (some v)) H3
    let TS1 : Addr → Value → Option Addr → TS := fun ae cls d D σ2 H2 => ∃ n D', n ∈ XS ∧ C.X.mg n = some (.ref D') ∧ cls = .ref D' ∧ d = none ∧ low C.X.K B1 (zCallX 2 ae (Wm n)) σ2 H2 D.rt
    refine ⟨_, pss_cons (L2N.ps_try_as (X := Z0) (c := .ref pE2) (i := 2) (tb := TB1) (ts := TS1) (Wout := fun _ _ _ _ => False) rfl rfl Sg.nd rfl le ⟨lP, by decide, .inl hPE⟩ takes0N ?_ ?_) (pss_one (ps_ret (we_ze (X := Z0) (B := B1) (e := ret)).pe)), ?_⟩
    · intro W pn xe tk _
      refine ⟨fun pinsZ sZ σZ HZ D IZ hZ => ?_⟩
      obtain ⟨hW2, h0, hf, h1, h2⟩ := hZ
      have call := lam_callG (A0 := A0) (outer0 := outer0) (CXg := L2N.CX C.X.prog C.X.w) (Eg := fun _ _ _ => False) (Ng := [a, fo, e]) (i := 0) (p1 := pa) (p2 := pc) (E := Ech) (pm := pm) (ctv := ctv) (tb := tbL) back Ls (binds _ _ _ _ _) tk hW2 room (fun sZ HZ room2 => PE.imp (we_ze (B := B1)).pe fun σ H Q ⟨ρ0, S0, a1, a2, a3⟩ => ⟨ρ0, S0, a1, a2, a3 sZ HZ room2⟩) rfl (.inl la) da ca
      exact (pss_one (ps_set (i := 1) (pos' := pf) (pos := pas) Sg.nd rfl (.inl lf) call rfl (.inl rfl))).run pinsZ sZ σZ HZ D IZ ⟨h0, hf, h1, h2⟩
    · intro ae oe cls d pn hz hv
      refine ⟨fun pinsZ sZ σZ HZ D IZ hZ => ?_⟩
      obtain ⟨n, D', hn, e1, rfl, rfl, w⟩ := hZ
      have roomW : RoomH kw (Z0.suite ae ((ae, oe) :: pn)).A := by
        have h := (roomH_of room).mono hkl
        exact ⟨h.dp, h.un⟩
      exact (pss_one (ps_ret (ze_callX (X := Z0.suite ae ((ae, oe) :: pn)) (B := B1) (a := ae) (n := n) hW roomW hmw hkw hbw hn ⟨oe, List.mem_cons_self, ⟨D', e1, hz.1, hz.2.1, hv⟩, rfl, hv.elim fun vs ev => ⟨vs, ev, hz.2.2 vs ev⟩⟩ 2 rfl (.inl le) de ce lw dw).pe)).run pinsZ sZ σZ HZ D IZ w
    · show TB1 _ _ _ _
      refine ⟨?_, rfl, at1, code1, VEnv.den [] (VEnv.dat ρ), S, E1, ⟨rs1, .refl _ _⟩, ?_⟩
      · intro σ' hl cls d H3 hch
        subst eEch
        obtain ⟨n, D, S2, s2, s3, rfl, rfl, hn, e1, e2, e3, rS, g1, o1⟩ := hch
        refine ⟨true, exm n hn D e1, fun _ ae na => ⟨n, D, hn, e1, rfl, rfl, ?_⟩, fun z => nomatch z⟩
        obtain ⟨x0, x1, x2, rfl⟩ : ∃ x0 x1 x2, σ' = [x0, x1, x2] := by
          match σ', hl with
          | [x0, x1, x2], _ => exact ⟨x0, x1, x2, rfl⟩
        refine ⟨[none, none, some (.r ae)], S2, .non (.non (.val (.r ae) .nil)), rS, rfl, o1, d', s3, e2, fun S' hR v H' st rz rs => ?_⟩
        exact done S2 S' H3 H' v g1 o1 rS.2 hR st rz rs.1
      · intro sZ HZ room2
        have tkL : Tk (cxLG C.X (A0.deeper (envG x sg s1 g cdv)) (envG x sg s1 g cdv :: outer0) scope f c' Ech sZ HZ) B1 (fun _ zx S2 => EZ zx S2) := by
          refine (L2N.takes_of (E := Ech) rfl rfl rfl rfl).imp ?_
          rintro cl d σ2 H2 ⟨ρ2, zx, S2, _, rx, rS, hz⟩
          subst eEZ eEch
          obtain ⟨⟨yx, s2, em, xr⟩, g1, o1⟩ := hz
          cases rx
          rcases hres with ⟨dd, t1, t2, e1, _⟩ | ⟨n, t1, t2, e1, hn, e2⟩
          · rw [e1] at em; cases em
          · rw [e1] at em
            cases em
            exact ⟨n, _, S2, _, _, rfl, rfl, hn, xr.1, e2, e1, rS, g1, o1⟩
        have gt0 : Gt Ts ⟨[], S⟩ := ⟨tbi, fun _ _ z => nomatch z⟩
        refine hbody (A0.deeper (envG x sg s1 g cdv)) (envG x sg s1 g cdv :: outer0) f c' Ech sZ HZ B1 S EZ ⟨hG1, gt0⟩ room2 tkL [] [] S _ (rel0 oS) ?_
        subst eEZ
        cases em : m [] with
        | bad => rcases hres with ⟨dd, t1, t2, e1, _⟩ | ⟨n, t1, t2, e1, hn, e2⟩ <;> (rw [em] at e1; cases e1)
        | ex yx s2 =>
          intro zx ps' S2 r2 xr
          exact ⟨⟨yx, s2, by first | exact em | rfl, xr⟩, fun b cb eb => r2.fr b cb (by simp) eb, r2.owS⟩
        | ok dd s2 =>
          intro S2 r2 v H2 st rz rS
          rcases hres with ⟨dd', t1, t2, e1, e2⟩ | ⟨n, t1, t2, e1, hn, e2⟩
          · rw [em] at e1
            cases e1
            have g1 := rel0_grow r2
            refine ⟨[none, some (.d dd), none], S2, .non (.val rz (.non .nil)), rS, ?_⟩
            have gt2 : Gt Ts ⟨[], S2⟩ := ⟨fun z hz => g1 _ _ (gt0.at_ z hz), fun _ _ z => nomatch z⟩
            refine hret cdv A0 outer0 s1 H1 (fun _ _ _ => False) B1 S2 ⟨hG1, gt2⟩ room dd [] [] S2 _ (rel0 r2.owS) ?_
            rw [e2]
            intro S' r3 v2 H' st2 rz2 rs2
            have : t2 = [] := List.eq_nil_of_length_eq_zero r3.len.symm
            subst this
            exact done S2 S' H2 H' v2 g1 r2.owS st r3 st2 rz2 rs2.1
          · rw [em] at e1; cases e1
structure SaidD2 (P : Program) (w : World) (K : PySem.W.Frag) (mg : Str → Option Value) (base : Heap) (Ts : Tbs) (kl : Nat) (x : Str) (XS : List Str) (W : Str → M PyData) where
  (a e word y : Str) (pa pc lp pas pE pw pe pcw pr ph pt : Pos) (pg : Arguments) (sg : Scope) (g gw PE : Addr) (fdg fdw : FuncData) (kw : Nat)
  F : FunD K x x pg [.Try [.Return (some (.List [.Call (.Name a pa) [] [] pc] lp)) pas] [.ExceptHandler (some (.Name "PlateError" pE)) (some e) [.Return (some (.Call (.Name word pw) [.Name e pe] [] pcw)) pr] ph] [] [] pt] sg [] [] g fdg
  Sc : FnScope [a, e] [a] sg
  hm : mg x = some (.ref g)
  hb : Binds K fdg [a] []
  hW : FnX P w K mg base kw gw fdw y XS W
  hkl : kw ≤ kl + 1
  hmw : mg word = some (.ref gw)
  hkw : PySem.W.keepIn K (.ref gw) = true
  hbw : Binds K fdw [y] []
  hPE : mg "PlateError" = some (.ref PE)
  exm : ∀ n ∈ XS, ∀ D, mg n = some (.ref D) → PySem.W.exmOne K (.ref D) (.ref PE) = some true
  la : sg.names.lookup a = some .local
  le : sg.names.lookup e = some .local
  lP : sg.names.lookup ("PlateError" : Str) = some .globalImplicit
  lw : sg.names.lookup word = some .globalImplicit
  da : (a == ("__debug__" : Str)) = false
  ca : (a == ("__classdict__" : Str)) = false
  de : (e == ("__debug__" : Str)) = false
  ce : (e == ("__classdict__" : Str)) = false
  dw : (word == ("__debug__" : Str)) = false
theorem SaidD2.run {P : Program} {w : World} {K : PySem.W.Frag} {mg : Str → Option Value} {base : Heap} {Ts : Tbs} {kl : Nat} {x : Str} {XS : List Str} {Wm : Str → M PyData} (G : SaidD2 P w K mg base Ts kl x XS Wm) : SaidRun P w K mg base Ts kl XS (fun d => pure (.list [d])) Wm G.g := by
  intro C eP ew eK em eb A0 outer0 s1 H1 S f params body scope ρ σ m d' Q hG1 tbi oS hr e0 back Ls binds hbody hres la1 E1 rs1 q
  subst eP ew eK em eb
  obtain ⟨a, e, word, y, pa, pc, lp, pas, pE, pw, pe, pcw, pr, ph, pt, pg, sg, g, gw, pE2, fdg, fdw, kw, F, Sg, hm, hb, hW, hkl, hmw, hkw, hbw, hPE, exm, la, le, lP, lw, da, ca, de, ce, dw⟩ := G
  obtain ⟨pm, c', ctv, at1, code1⟩ := la1
  obtain ⟨oc, od, dV, kV, doc, pm2, an, cdv, ct, osl, rfl, lk, hcd, _, _⟩ := F.ex
  have bind1 := hb s1 [.ref f] (e0.mod.kin.keeps fun b o e => And.left (e0.bs b o e)) rfl
  rw [List.append_nil] at bind1
  refine run_ofS (E := fun _ _ _ => False) (N := [a, e]) (ps := [a]) (us := [.ref f]) (vs := [V.ref f]) lk hcd Sg hr e0 bind1 (.cons rfl .nil) rfl ?_
  · intro room
    have done : ∀ S2 S' H2 H' (v : L2.V), Grow S S2 → OwnOk S2 → Step S S2 H1 H2 → Rel ⟨[], S2⟩ [] [] S' → Step S2 S' H2 H' → RZ C.X.K H' v (.d d') → RS0 C.X.K S' H' → Q v H' := by
      intro S2 S' H2 H' v g o st hR st' rz rs
      exact q S' v H' (((rel0 oS).grow g o).grow (rel0_grow hR) hR.owS) (st.trans st') rz rs
    have EZ : ∃ EZ : XW, EZ = fun zx S2 => (∃ y s2, m [] = .ex y s2 ∧ XR C.X.mg y zx) ∧ Grow S S2 ∧ OwnOk S2 := ⟨_, rfl⟩
    obtain ⟨EZ, eEZ⟩ := EZ
    have Ech : ∃ Ech : XK, Ech = fun cls d H2 => ∃ n D S2 s2 s3, cls = Value.ref D ∧ d = none ∧ n ∈ XS ∧ C.X.mg n = some (.ref D) ∧ Wm n [] = .ok d' s3 ∧ m [] = .ex ⟨n, []⟩ s2 ∧ RS C.X.K ⟨S, H1⟩ S2 H2 ∧ Grow S S2 ∧ OwnOk S2 := ⟨_, rfl⟩
    obtain ⟨Ech, eEch⟩ := Ech
    let D0 : Ends := { nx := fun _ H' => Q .non H', rt := Q }
    let Z0 : Cx := cxH0 C.X (L2N.CX C.X.prog C.X.w) (fun _ _ _ => False) [a, e] x sg g cdv A0 outer0 s1 H1
    let B1 : Bs := ⟨S, H1⟩
    let tbL : TE := low C.X.K B1 fun ρ0 S0 Q0 => ∀ (sZ : Shared) (HZ : Hp), Room kl (cxLG C.X (A0.deeper (envG x sg s1 g cdv)) (envG x sg s1 g cdv :: outer0) scope f c' Ech sZ HZ).A → WE (cxLG C.X (A0.deeper (envG x sg s1 g cdv)) (envG x sg s1 g cdv :: outer0) scope f c' Ech sZ HZ) B1 body ρ0 S0 Q0
    let TB1 : WX → TS := fun W D σ2 H2 => (∀ σ', σ'.length = 2 → ∀ cls d H3, Ech cls d H3 → W cls d σ' H3) ∧ σ2[0]? = some (some (V.ref f)) ∧ H2 f = some (.frz (lamO C.X params body scope pm c' ctv) (HereO f)) ∧ H2 c' = some (CodeO c' (C.X.env.qual ++ "<lambda>")) ∧ tbL σ H2 fun v H3 => ([v].length ≤ sizeLine ∧ ∀ p, H3 p = none → ∃ a xs, V.ref p = .ref a ∧ (upd H3 p (.lst [v])) a = some (.lst xs) ∧ ∀ o, D.rt (.ref p) (upd (upd H3 p (.lst [v])) a (.frz o (.lst xs))))
    let TS1 : Addr → Value → Option Addr → TS := fun ae cls d D σ2 H2 => ∃ n D', n ∈ XS ∧ C.X.mg n = some (.ref D') ∧ cls = .ref D' ∧ d = none ∧ low C.X.K B1 (zCallX 1 ae (Wm n)) σ2 H2 D.rt
    refine ⟨_, pss_one (L2N.ps_try_as (X := Z0) (c := .ref pE2) (i := 1) (tb := TB1) (ts := TS1) (Wout := fun _ _ _ _ => False) rfl rfl Sg.nd rfl le ⟨lP, by decide, .inl hPE⟩ takes0N ?_ ?_), ?_⟩
    · intro W pn xe tk _
      refine ⟨fun pinsZ sZ σZ HZ D IZ hZ => ?_⟩
      obtain ⟨hW2, h0, hf, h1, h2⟩ := hZ
      have call := lam_callG (A0 := A0) (outer0 := outer0) (CXg := L2N.CX C.X.prog C.X.w) (Eg := fun _ _ _ => False) (Ng := [a, e]) (i := 0) (p1 := pa) (p2 := pc) (E := Ech) (pm := pm) (ctv := ctv) (tb := tbL) back Ls (binds _ _ _ _ _) tk hW2 room (fun sZ HZ room2 => PE.imp (we_ze (B := B1)).pe fun σ H Q ⟨ρ0, S0, a1, a2, a3⟩ => ⟨ρ0, S0, a1, a2, a3 sZ HZ room2⟩) rfl (.inl la) da ca
      exact (pss_one (ps_ret (pos := pas) (pe_rest (pe_lst (pos := lp) (pa_cons call pa_nil (by rfl)))))).run pinsZ sZ σZ HZ D IZ ⟨h0, hf, h1, h2⟩
    · intro ae oe cls d pn hz hv
      refine ⟨fun pinsZ sZ σZ HZ D IZ hZ => ?_⟩
      obtain ⟨n, D', hn, e1, rfl, rfl, w⟩ := hZ
      have roomW : RoomH kw (Z0.suite ae ((ae, oe) :: pn)).A := by
        have h := (roomH_of room).mono hkl
        exact ⟨h.dp, h.un⟩
      exact (pss_one (ps_ret (ze_callX (X := Z0.suite ae ((ae, oe) :: pn)) (B := B1) (a := ae) (n := n) hW roomW hmw hkw hbw hn ⟨oe, List.mem_cons_self, ⟨D', e1, hz.1, hz.2.1, hv⟩, rfl, hv.elim fun vs ev => ⟨vs, ev, hz.2.2 vs ev⟩⟩ 1 rfl (.inl le) de ce lw dw).pe)).run pinsZ sZ σZ HZ D IZ w
    · show TB1 _ _ _ _
      refine ⟨?_, rfl, at1, code1, VEnv.den [] (VEnv.dat ρ), S, E1, ⟨rs1, .refl _ _⟩, ?_⟩
      · intro σ' hl cls d H3 hch
        subst eEch
        obtain ⟨n, D, S2, s2, s3, rfl, rfl, hn, e1, e2, e3, rS, g1, o1⟩ := hch
        refine ⟨true, exm n hn D e1, fun _ ae na => ⟨n, D, hn, e1, rfl, rfl, ?_⟩, fun z => nomatch z⟩
        obtain ⟨x0, x1, rfl⟩ : ∃ x0 x1, σ' = [x0, x1] := by
          match σ', hl with
          | [x0, x1], _ => exact ⟨x0, x1, rfl⟩
        refine ⟨[none, some (.r ae)], S2, .non (.val (.r ae) .nil), rS, rfl, o1, d', s3, e2, fun S' hR v H' st rz rs => ?_⟩
        exact done S2 S' H3 H' v g1 o1 rS.2 hR st rz rs.1
      · intro sZ HZ room2
        have tkL : Tk (cxLG C.X (A0.deeper (envG x sg s1 g cdv)) (envG x sg s1 g cdv :: outer0) scope f c' Ech sZ HZ) B1 (fun _ zx S2 => EZ zx S2) := by
          refine (L2N.takes_of (E := Ech) rfl rfl rfl rfl).imp ?_
          rintro cl d σ2 H2 ⟨ρ2, zx, S2, _, rx, rS, hz⟩
          subst eEZ eEch
          obtain ⟨⟨yx, s2, em, xr⟩, g1, o1⟩ := hz
          cases rx
          rcases hres with ⟨dd, t1, t2, e1, _⟩ | ⟨n, t1, t2, e1, hn, e2⟩
          · rw [e1] at em; cases em
          · rw [e1] at em
            cases em
            exact ⟨n, _, S2, _, _, rfl, rfl, hn, xr.1, e2, e1, rS, g1, o1⟩
        have gt0 : Gt Ts ⟨[], S⟩ := ⟨tbi, fun _ _ z => nomatch z⟩
        refine hbody (A0.deeper (envG x sg s1 g cdv)) (envG x sg s1 g cdv :: outer0) f c' Ech sZ HZ B1 S EZ ⟨hG1, gt0⟩ room2 tkL [] [] S _ (rel0 oS) ?_
        subst eEZ
        cases em : m [] with
        | bad => rcases hres with ⟨dd, t1, t2, e1, _⟩ | ⟨n, t1, t2, e1, hn, e2⟩ <;> (rw [em] at e1; cases e1)
        | ex yx s2 =>
          intro zx ps' S2 r2 xr
          exact ⟨⟨yx, s2, by first | exact em | rfl, xr⟩, fun b cb eb => r2.fr b cb (by simp) eb, r2.owS⟩
        | ok dd s2 =>
          intro S2 r2 v H2 st rz rS
          rcases hres with ⟨dd', t1, t2, e1, e2⟩ | ⟨n, t1, t2, e1, hn, e2⟩
          · rw [em] at e1
            cases e1
            have g1 := rel0_grow r2
            have ed : d' = .list [dd] := by cases e2; rfl
            subst ed
            refine ⟨by rw [sizeLine_eq]; exact (by decide : (1 : Nat) ≤ 16777216), fun p hp => ⟨p, [v], rfl, upd_same, fun o => ?_⟩⟩
            rw [upd_upd]
            cases rz with | d rz =>
            have sm : Same H2 (upd H2 p (.frz o (.lst [v]))) := same_fresh hp
            exact done S2 S2 H2 _ _ g1 r2.owS st (rel0 r2.owS) (step_same sm) (.d (.lst ⟨o, upd_same⟩ (.cons (rz.le (.same sm)) .nil))) (rS.1.same sm)
          · rw [em] at e1; cases e1
end ZL
namespace ZL
open PySem PySem.Spec PyProof.Rows L2 V L2H LamX
structure LamI where
  params : Arguments
  body : Expr
  scope : Scope
def LamsH (X : Cx) (H : Hp) : List Addr → List LamI → Prop
  | [], [] => True
  | f :: fs, l :: ls => LamAt X H f l.params l.body l.scope ∧ LamsH X H fs ls
  | _, _ => False
theorem LamAt.keep {X : Cx} {H H' : Hp} {f : Addr} {params : Arguments} {body : Expr} {scope : Scope} (h : LamAt X H f params body scope) (k : ∀ b o, H b = some o → (∀ ps, o ≠ .tbl ps) → (∀ xs, o ≠ .lst xs) → (∀ kvs, o ≠ .dK kvs) → H' b = some o) : LamAt X H' f params body scope := by
  obtain ⟨pm, c', ctv, h1, h2⟩ := h
  exact ⟨pm, c', ctv, k _ _ h1 (fun _ z => nomatch z) (fun _ z => nomatch z) (fun _ z => nomatch z), k _ _ h2 (fun _ z => by unfold CodeO at z; cases z) (fun _ z => by unfold CodeO at z; cases z) (fun _ z => by unfold CodeO at z; cases z)⟩
theorem LamsH.keep {X : Cx} {H H' : Hp} (k : ∀ b o, H b = some o → (∀ ps, o ≠ .tbl ps) → (∀ xs, o ≠ .lst xs) → (∀ kvs, o ≠ .dK kvs) → H' b = some o) : ∀ {fs : List Addr} {ls : List LamI}, LamsH X H fs ls → LamsH X H' fs ls
  | [], [], _ => trivial
  | f :: fs, l :: ls, h => ⟨h.1.keep k, LamsH.keep k h.2⟩
  | [], _ :: _, h => h.elim
  | _ :: _, [], h => h.elim
theorem LamsH.snoc {X : Cx} {H : Hp} {f : Addr} {l : LamI} (la : LamAt X H f l.params l.body l.scope) : ∀ {fs : List Addr} {ls : List LamI}, LamsH X H fs ls → LamsH X H (fs ++ [f]) (ls ++ [l])
  | [], [], _ => ⟨la, trivial⟩
  | _ :: fs, _ :: ls, h => ⟨h.1, LamsH.snoc la h.2⟩
  | [], _ :: _, h => h.elim
  | _ :: _, [], h => h.elim
def LamsIn (X : Cx) (B : Bs) (a : Addr) (ls : List LamI) : Prop := ∃ fs : List Addr, B.H0 a = some (.lst (fs.map V.ref)) ∧ B.S0 a = none ∧ LamsH X B.H0 fs ls ∧ RS0 X.K B.S0 B.H0
theorem step_keeps {K : PySem.W.Frag} {S S' : Sto} {H H' : Hp} (r : RS0 K S H) (st : Step S S' H H') : ∀ b o, H b = some o → (∀ ps, o ≠ .tbl ps) → (∀ xs, o ≠ .lst xs) → (∀ kvs, o ≠ .dK kvs) → H' b = some o := fun b o h n1 n2 n3 => (st b o h (r.notin h n2 n1 n3)).1
theorem LamsIn.now {X : Cx} {B : Bs} {a : Addr} {ls : List LamI} (h : LamsIn X B a ls) {S : Sto} {H : Hp} (r : RS X.K B S H) : ∃ fs : List Addr, H a = some (.lst (fs.map V.ref)) ∧ S a = none ∧ LamsH X H fs ls := by
  obtain ⟨fs, h1, h2, h3, h4⟩ := h
  obtain ⟨e1, e2⟩ := r.2 a _ h1 h2
  exact ⟨fs, e1, e2, h3.keep (step_keeps h4 r.2)⟩
section
variable {X : Cx} {P : Addr} {c : Addr} {params : Arguments} {body : Expr} {scope : Scope} {lpos : Pos}
def tLam (X : Cx) (P : Addr) (l : LamI) : TE := fun _ H Q => TabS H P (X.env.qual ++ "<lambda>") ∧ ∀ f H', (∀ b o, b ≠ P → H b = some o → H' b = some o) → TabS H' P (X.env.qual ++ "<lambda>") → H f = none → LamAt X H' f l.params l.body l.scope → Q (.ref f) H'
theorem pe_lam (TB : TabB X.base X.mg c P) (code : X.env.code = .ref c) (nodef : defaultsOf params X.env = ([], [])) (Ls : LamS X.env.scope scope) : PE X (.Lambda params body scope lpos) (tLam X P ⟨params, body, scope⟩) :=
  ⟨fun pins s σ H Q I h => lam_newT I TB code h.1 nodef (Ls.has I.ok) fun f H1 s' I1 k t nf la => ⟨.ref f, H1, I1, rfl, h.2 f H1 k t nf la⟩⟩
inductive LApps (X : Cx) (x : Str) (P : Addr) (i : Nat) : List Stmt → List LamI → List Stmt → Prop
  | done {rest : List Stmt} : LApps X x P i rest [] rest
  | more {st : Stmt} {ss rest : List Stmt} {l : LamI} {ls : List LamI} : PS X st (tDrop (tBM X.K "list" rAppend (tVar i) (tCons (tLam X P l) tNil))) → LApps X x P i ss ls rest → LApps X x P i (st :: ss) (l :: ls) rest
theorem LApps.add {x : Str} {i : Nat} {params : Arguments} {body : Expr} {scope : Scope} {lpos px apos cpos pos : Pos} {ss rest : List Stmt} {ls : List LamI} (TB : TabB X.base X.mg c P) (code : X.env.code = .ref c) (r : LApps X x P i ss ls rest) (Ls : lamSB X.env.scope scope = true := by first | rfl | decide +kernel) (nodef : defaultsOf params X.env = ([], []) := by rfl) (hN : X.N[i]? = some x := by rfl)
    (hv : Vis X.env.scope x := by first | exact Or.inl rfl | exact Or.inr (Or.inl rfl) | exact Or.inr (Or.inr rfl)) (hd : (x == ("__debug__" : Str)) = false := by decide) (hcd : (x == ("__classdict__" : Str)) = false := by decide)
    (pe : ∀ {ta : TE} {tb : TE}, PE X (.Name x px) ta → PE X (.Lambda params body scope lpos) tb → PE X (.Call (.Attribute (.Name x px) "append" apos) [.Lambda params body scope lpos] [] cpos) (tBM X.K "list" rAppend ta (tCons tb tNil)) := by intro ta tb h1 h2; exact pe_bm PySem.F.plainAttrs_list PySem.F.slot_list_append PySem.F.type_list_append mt_append h1 (pa_cons h2 pa_nil))
    (hs : swapsWith (.Call (.Attribute (.Name x px) "append" apos) [.Lambda params body scope lpos] [] cpos) none pos.line X.env = pure false := by rfl) :
    LApps X x P i (.Expr (.Call (.Attribute (.Name x px) "append" apos) [.Lambda params body scope lpos] [] cpos) pos :: ss) (⟨params, body, scope⟩ :: ls) rest :=
  .more (ps_expr (pe (pe_var hN hv hd hcd) (pe_lam TB code nodef (lamS_by Ls))) hs) r
def tApps (X : Cx) (P : Addr) (i : Nat) : List LamI → TS → TS
  | [], u => u
  | l :: ls, u => tSeq (tDrop (tBM X.K "list" rAppend (tVar i) (tCons (tLam X P l) tNil))) (tApps X P i ls u)
theorem LApps.run {x : Str} {i : Nat} {u : TS} : ∀ {ss rest : List Stmt} {ls : List LamI}, LApps X x P i ss ls rest → PSs X rest u → PSs X ss (tApps X P i ls u)
  | _, _, _, .done, h => h
  | _, _, _, .more p q, h => pss_cons p (LApps.run q h)
structure LJ (X : Cx) (P : Addr) (H H' : Hp) (a : Addr) (fs : List Addr) (ls : List LamI) : Prop where
  keep : ∀ b o, b ≠ P → H b = some o → H' b = some o
  tab : TabS H' P (X.env.qual ++ "<lambda>")
  at_ : H' a = some (.lst (fs.map V.ref))
  new : H a = none
  la : LamsH X H' fs ls
theorem tApps_run {i : Nat} {H : Hp} {a : Addr} {u : TS} {E : Ends} {σ : L2.St} (hσ : σ[i]? = some (some (.ref a))) : ∀ (ls : List LamI) (fs : List Addr) (done : List LamI) (H' : Hp), LJ X P H H' a fs done → fs.length + ls.length < 1000 → (∀ H'' fs', LJ X P H H'' a fs' (done ++ ls) → u E σ H'') → tApps X P i ls u E σ H'
  | [], fs, done, H', j, _, h => h H' fs (by rw [List.append_nil]; exact j)
  | l :: ls, fs, done, H', j, hl, h => by
    have tP : ∃ ps, H' P = some (.tbl ps) := let ⟨ps, e, _⟩ := j.tab; ⟨ps, e⟩
    obtain ⟨ps, tP⟩ := tP
    have aP : a ≠ P := fun z => by have := j.at_; rw [z, tP] at this; cases this
    refine ⟨.ref a, hσ, .inl ⟨rfl, _, .of j.at_⟩, j.tab, fun f H1 k t nf la => ?_⟩
    have at1 : H1 a = some (.lst (fs.map V.ref)) := k a _ aP j.at_
    refine ⟨a, fs.map V.ref, .ref f, rfl, rfl, at1, by rw [List.length_map, sizeLine_eq]; simp at hl; omega, ?_⟩
    refine tApps_run hσ ls (fs ++ [f]) (done ++ [l]) _ ⟨fun b o hb e => ?_, ?_, ?_, j.new, ?_⟩ (by simp at hl ⊢; omega) fun H'' fs' j' => h H'' fs' (by rw [List.append_assoc] at j'; exact j')
    · rw [upd_ne (ne_of_none e j.new)]
      exact k b o hb (j.keep b o hb e)
    · obtain ⟨ps, hP, trip, among⟩ := t
      refine ⟨ps, by rw [upd_ne (Ne.symm aP)]; exact hP, trip, fun pos cv hc => ?_⟩
      obtain ⟨c, e1, e2⟩ := among pos cv hc
      exact ⟨c, e1, by rw [upd_ne (ne_of e2 at1 fun z => by unfold CodeO at z; cases z)]; exact e2⟩
    · rw [upd_same, List.map_append]; rfl
    · have kp : ∀ b o, H1 b = some o → (∀ ps, o ≠ .tbl ps) → (∀ xs, o ≠ .lst xs) → (∀ kvs, o ≠ .dK kvs) → upd H1 a (.lst (fs.map V.ref ++ [.ref f])) b = some o := fun b o e _ n2 _ => by
        rw [upd_ne (ne_of e at1 fun z => n2 _ z)]; exact e
      refine LamsH.snoc (la.keep kp) ((j.la.keep fun b o e n1 _ _ => k b o (fun z => ?_) e).keep kp)
      rw [z, tP] at e
      exact n1 ps (Option.some.inj e).symm
end
theorem RE.length {K : PySem.W.Frag} {H : Hp} : ∀ {ρ : ZEnv} {σ : L2.St}, RE K H ρ σ → ρ.length = σ.length
  | _, _, .nil => rfl
  | _, _, .non h => congrArg Nat.succ (RE.length h)
  | _, _, .val _ h => congrArg Nat.succ (RE.length h)
section
variable {C : Ct} {ρ : VEnv} {Ts : Tbs} {c P : Addr} {params : Arguments} {body : Expr} {scope : Scope} {x : Str} {px lpos lp pos : Pos} {rm : Bool} {ss rest : List Stmt} {ls : List LamI} {L T : Type} {emb : T → VEnv} {embL : L → VEnv} {m : M (Fl L T)}
theorem s_lams (i : Nat) (TB : TabB C.X.base C.X.mg c P) (code : C.X.env.code = .ref c) (inT : (P, C.X.env.qual ++ "<lambda>") ∈ Ts) (hG : C.X.A.guards = some [] ∧ Gt Ts C.G) (hN : C.X.N.Nodup) (tk : Tk C.X C.B fun _ zx S => C.EZ zx S) (apps : LApps C.X x P i ss ls rest)
    (hr : ∀ B a, LamsIn C.X B a (⟨params, body, scope⟩ :: ls) → Tk C.X B (fun _ zx S => C.EZ zx S) → FS ⟨C.X, B, C.G, C.EZ⟩ rm [] rest (ρ.set i (some (.ob a))) emb embL m)
    (hρl : ρ.length = C.X.N.length := by rfl) (hls : ls.length < 900 := by decide) (Ls : lamSB C.X.env.scope scope = true := by first | rfl | decide +kernel) (nodef : defaultsOf params C.X.env = ([], []) := by rfl) (hi : C.X.N[i]? = some x := by rfl) (hx : Loc C.X.env.scope x := by first | exact Or.inl rfl | exact Or.inr rfl)
    (hs : swapsWith (.List [.Lambda params body scope lpos] lp) (some (.Name x px)) pos.line C.X.env = pure false := by rfl) (hf : C.X.fn x = true ∨ C.X.env.scope.names.lookup x = some .local := by first | exact .inl rfl | exact .inr rfl | assumption)
    (hst : starEach [.Lambda params body scope lpos] C.X.env = (false, eval (.Lambda params body scope lpos) C.X.env) :: starEach [] C.X.env := by rfl) :
    FS C rm [] (.Assign [.Name x px] (.List [.Lambda params body scope lpos] lp) pos :: ss) ρ emb embL m := by
  intro ps s S D r w
  have isT : S P = some (.tbl (C.X.env.qual ++ "<lambda>")) := hG.2.now r _ inT
  have hil : i < C.X.N.length := (List.getElem?_eq_some_iff.mp hi).1
  have zz : ZSs C.X C.B (.Assign [.Name x px] (.List [.Lambda params body scope lpos] lp) pos :: ss) (fun D0 ρ0 S0 => S0 P = some (.tbl (C.X.env.qual ++ "<lambda>")) ∧ ρ0.length = C.X.N.length ∧ ∀ B a, Step C.B.S0 B.S0 C.B.H0 B.H0 → LamsIn C.X B a (⟨params, body, scope⟩ :: ls) → WSs C.X B rest D0 (ρ0.set i (some (.r a))) S0) := by
    refine ⟨PSs.imp (pss_cons (ps_set hN hi hx (pe_lst (pa_cons (pe_lam TB code nodef (lamS_by Ls)) pa_nil hst)) hs hf) (apps.run (u := fun E σ H => ∃ B : Bs, lowS C.X.K B (WSs C.X B rest) E σ H) ⟨fun pins s σ H E I ⟨B, h⟩ => (wss_zss (B := B)).pss.run pins s σ H E I h⟩)) ?_⟩
    rintro E σ H ⟨ρ0, S0, D0, hE, hS, l, isT0, hlen, w⟩
    refine ⟨hS.1 P _ isT0, fun f H1 k t nf la => ⟨by rw [sizeLine_eq]; exact (by decide : (1 : Nat) ≤ 16777216), fun p hp => ?_⟩⟩
    show tApps C.X P i ls _ E (σ.set i (some (.ref p))) (upd H1 p (.lst [.ref f]))
    have tP : ∃ q, H1 P = some (.tbl q) := let ⟨q, e, _⟩ := t; ⟨q, e⟩
    obtain ⟨q, tP⟩ := tP
    have pP : p ≠ P := fun z => by rw [z, tP] at hp; cases hp
    have newp : H p = none := by
      cases e : H p with
      | none => rfl
      | some o => rw [k p o pP e] at hp; cases hp
    have kp : ∀ b o, H1 b = some o → upd H1 p (.lst [.ref f]) b = some o := fun b o e => by rw [upd_ne (ne_of_none e hp)]; exact e
    refine tApps_run (a := p) (H := H) (by rw [List.getElem?_set_self (by rw [← hE.length, hlen]; exact hil)]) ls [f] [⟨params, body, scope⟩] _ ⟨fun b o hb e => kp b o (k b o hb e), t.ext kp, upd_same, newp, ⟨la.keep fun b o e _ _ _ => kp b o e, trivial⟩⟩ (by simp; omega) ?_
    intro H2 fs j
    have rs : RS0 C.X.K S0 H2 := hS.1.table isT0 j.keep j.tab
    have st : Step S0 S0 H H2 := step_table isT0 j.keep
    refine ⟨⟨S0, H2⟩, ρ0.set i (some (.r p)), S0, D0, (hE.le (st.le hS.1)).set i (.r p), ⟨rs, .refl _ _⟩, ?_, w ⟨S0, H2⟩ p (hS.2.trans st) ⟨fs, j.at_, hS.1.fresh newp, j.la, rs⟩⟩
    exact ⟨fun a b c d w s r q => l.nx a b c d w (st.trans s) r ⟨q.1, (hS.2.trans st).trans q.2⟩, fun a b c d w s r q => l.rt a b c d w (st.trans s) r ⟨q.1, (hS.2.trans st).trans q.2⟩, fun a b c d w s r q => l.bk a b c d w (st.trans s) r ⟨q.1, (hS.2.trans st).trans q.2⟩, fun a b c d w s r q => l.ct a b c d w (st.trans s) r ⟨q.1, (hS.2.trans st).trans q.2⟩⟩
  refine zz.we ⟨isT, ?_, fun B a st L => ?_⟩
  · rw [← hρl]
    unfold VEnv.den
    rw [List.length_map]
  · have := hr B a L (tk.imp fun cl d σ H ⟨ρ, x, S, e, rx, rs, ez⟩ => ⟨ρ, x, S, e, rx, ⟨rs.1, st.trans rs.2⟩, ez⟩) ps s S D r w
    rw [den_set] at this
    exact this
end
end ZL
namespace ZL
open PySem PySem.Spec PyProof.Rows L2
theorem loopL1 {prog : Program} {w : World} {A : Around} {acc : Value} {env : Env} {elt t0 i0 : Expr} {ifs0 : List Expr} {scope : Scope} {pos : Pos} : LoopBy (model prog w) A (.ListComp elt [⟨t0, i0, ifs0, 0⟩] scope pos) 0 t0 ifs0 acc env (addL elt env acc) := loopBy laidL (p := i0.pos) (K := fun it => addL elt env acc >>= fun _ => again _) (fun _ => rfl) hK_emit
section
variable {X : Cx}
theorem blk_coreI {pins : List (Addr × Obj)} {s : Shared} {σ : L2.St} {H : Hp} {Q : VK} {e tg iter : Expr} {ifs : List Expr} {gs : List Comprehension} {scope : Scope} {own : List (Str × Nat)} {vs1 : List Nat} {pos' : Pos} {wi : TI} {g : TG} {tt : TT} {t1 : Addr → TL} {use : Option (Value → Sem Unit)} {Qf : Value → Shared → Prop}
    {mk : Sem Value} {ob : Obj} {o0 : Addr → HO} {body : Value → Env → Sem Unit}
    (hcl : clausesOf e = ⟨tg, iter, ifs, 0⟩ :: gs)
    (hmk : ∀ (E : Value → Shared → Prop) (s : Shared) (Q : Value → Shared → Prop), Q (.ref s.heap.objs.size) { s with heap := s.heap.push ob } → wpAny (model X.prog X.w) X.A mk Q E s)
    (hob : ∀ (H : Hp) (h : Heap), ObjOk X.prog X.w (upd H h.objs.size (o0 h.objs.size)) (h.push ob) h.objs.size (o0 h.objs.size))
    (hc : X.calm = true) (hN : X.N.Nodup) (I : Inv X pins σ H s) (hi : PI X tg iter wi) (ok : BlkOk X.N X.env.scope scope own) (hv : ∀ i ∈ vs1, i ∈ own.map (·.2))
    (hS : ∀ acc env, StartBy (model X.prog X.w) X.A e 0 acc env) (hL : Blk X scope fun X => ∀ acc, LoopBy (model X.prog X.w) X.A e 0 tg ifs acc X.env (body acc X.env))
    (hg : Blk X scope fun X => PG X tg g) (ht : Blk X scope fun X => PTs X ifs tt) (hl : ∀ (s : Shared) (H : Hp) (C : Addr) (cl : List (Str × Addr)) (fp : List Addr), Inv X pins σ H s → (∀ b ∈ fp, FpOk X pins H b ∧ b < s.heap.objs.size) → ∀ D, Lv (X.blk s H scope (compEnvC scope cl C X.env) fp) (body (.ref D) (compEnvC scope cl C X.env)) vs1 (t1 D)) (hs : ∀ x, foldedSetIterable iter X.env x = pure x)
    (h : tCore wi g tt t1 (own.map (·.2)) o0 σ H Q)
    (hRR : ∀ D C s' m H', Inv X pins σ H' s' → Q (.ref D) H' → s'.heap.Ns C m → FpOk X pins H' C → compPost (model X.prog X.w) X.A X.xe use Qf (.ref D) C (.ok .next) s') :
    wpAny (model X.prog X.w) X.A (comprehension e scope X.env pos' mk false (eval iter X.env) use) Qf X.xe s := by
  have hfree : ∀ y ∈ scope.names, y.2 = .free → ∃ c, X.env.cells.lookup y.1 = some c := by
    intro y hy ey
    rcases ok.free y hy ey with k | k
    · exact I.ok.has _ (.inl k)
    · exact I.ok.has _ (.inr k)
  refine wpAny_comprehension_free (use := use) hcl hs (closure_ok hfree) ok.kind (fun y hy ey => by rw [ok.uniq y hy, ey]) (thn (hi.run pins s σ H _ I h) fun xv s1 hx => thn hx fun itv s2 h2 => ?_)
  obtain ⟨it, fp, tn, J, H2, rfl, I2, T, st2, f2, q⟩ := h2
  refine hmk _ _ _ (newEnv_comp ?_)
  generalize hD : s2.heap.objs.size = D
  obtain ⟨W, ⟨m0, w0⟩, turn⟩ := q D (I2.hok.fresh (Nat.le_of_eq hD))
  generalize hs3 : ({ s2 with heap := s2.heap.push ob } : Shared) = s3
  have h3 : s3.heap = s2.heap.push ob := by rw [← hs3]
  have I3 : Inv X pins σ (upd H2 D (o0 D)) s3 := by
    rw [← hs3]
    refine I2.laid (t' := s2.toks) (fun b o eb => Heap.get?_push_of_some _ eb) (Nat.le_of_eq hD) ?_
    rw [← hD]
    exact hob _ _
  have f3 : ∀ b ∈ fp, FpOk X pins (upd H2 D (o0 D)) b ∧ b < s3.heap.objs.size := by
    intro b hb
    obtain ⟨o, eb, _⟩ := T.obj _ _ st2 b hb
    have hlt := Heap.lt_size eb
    have hne : b ≠ D := by rw [← hD]; exact Nat.ne_of_lt hlt
    refine ⟨⟨?_, (f2 b hb).2⟩, by rw [h3, Heap.size_push]; exact Nat.lt_succ_of_lt hlt⟩
    rw [upd_ne hne]
    exact (f2 b hb).1
  have st3 : tn 0 s3.heap := T.keep _ _ _ st2 fun b _ o eb => by rw [h3]; exact Heap.get?_push_of_some _ eb
  have I4 := block_start I3 ok hN f3
  generalize hcells : cellsFrom (s3.heap.objs.size + 1) scope.names (cloFrom X.env.cells scope.names []) = cl at I4
  have pL := hL s3 (upd H2 D (o0 D)) s3.heap.objs.size cl fp (.ref D)
  have pg := hg s3 (upd H2 D (o0 D)) s3.heap.objs.size cl fp
  have pt := ht s3 (upd H2 D (o0 D)) s3.heap.objs.size cl fp
  have pl := hl s3 (upd H2 D (o0 D)) s3.heap.objs.size cl fp I3 f3 D
  have go : codeAny (model X.prog X.w) X.A (.compStart e 0 (.ref it) (.ref D) (compEnvC scope cl s3.heap.objs.size X.env)) (compPost (model X.prog X.w) X.A X.xe use Qf (.ref D) s3.heap.objs.size) { s3 with heap := pushCells (s3.heap.push { cls := .type "dict", data := .dict #[] }) scope.names } := by
    generalize hce : compEnvC scope cl s3.heap.objs.size X.env = ce at I4 pL pg pt pl ⊢
    have cL : ce.locals = s3.heap.objs.size := by subst hce; rfl
    generalize hH3 : upd H2 D (o0 D) = H3 at I3 I4 pL pg pt pl w0 f3
    generalize hs4 : ({ s3 with heap := pushCells (s3.heap.push { cls := .type "dict", data := .dict #[] }) scope.names } : Shared) = s4 at I4 ⊢
    have st4 : tn 0 s4.heap := T.keep _ _ _ st3 fun b _ o eb => by rw [← hs4]; exact pushCells_keeps _ _ _ _ (Heap.get?_push_of_some _ eb)
    have loop := walk_loop (X := X.blk s3 H3 scope ce fp) rfl hc pL pg pt pl hv T (pins := []) (σ := σ) (N := fun H' => Q (.ref D) H') (W := W)
      (fun s' H' I' hn b hb => ⟨hn b hb, (I'.ok.exf b hb).1, I'.ok.exfs b hb, .inl hb, fun x c ec => (I'.ok.exf b hb).2 x c ec, fun p hp => absurd (show p ∈ ([] : List (Addr × Obj)) ++ [] from hp) (by simp)⟩) turn I4 st4 (fun b hb => (f3 b hb).1.1) w0
    refine codeAny_mono ((hS (.ref D) ce).run _ _ _ loop (T.self X.A 0 _ _ _ st4 loop)) fun r s6 hr => ?_
    cases r with
    | error z => exact hr.elim
    | ok f =>
      obtain ⟨H5, I6, qq⟩ := hr
      have I7 : Inv X pins σ H5 s6 := I3.call' (ch := fp) I6.os I6.base I6.hok I6.bare fun b hb => by
        obtain ⟨⟨_, z1, z2, z3, z4, z5⟩, _⟩ := f3 b hb
        exact ⟨z3, z1, z4, z5⟩
      have nC : H5 s3.heap.objs.size = none := by
        have z : H5 ce.locals = none := I6.free
        rw [cL] at z
        exact z
      obtain ⟨m, hn, _⟩ := I6.loc
      have hn : s6.heap.Ns ce.locals m := hn
      rw [cL] at hn
      have fin := hRR D s3.heap.objs.size s6 m H5 I7 qq hn (I3.fpOk (Nat.le_refl _) nC)
      cases use <;> exact fin
  exact go
end
end ZL
namespace V
open PySem PySem.Spec
def saidsM (XS : List Str) (post : PyData → M PyData) (W : Str → M PyData) : List (M PyData) → M (List PyData)
  | [] => pure []
  | m :: ms => saidM XS post W m >>= fun d => saidsM XS post W ms >>= fun ds => pure (d :: ds)
end V
namespace ZL
open PySem PySem.Spec PyProof.Rows L2 V L2H LamX
inductive SaidsR (XS : List Str) (post : PyData → M PyData) (W : Str → M PyData) : List (M PyData) → List PyData → Prop
  | nil : SaidsR XS post W [] []
  | cons {m : M PyData} {d : PyData} {ms : List (M PyData)} {ds : List PyData} : SaidR XS post W m d → SaidsR XS post W ms ds → SaidsR XS post W (m :: ms) (d :: ds)
theorem saids_inv {XS : List Str} {post : PyData → M PyData} {W : Str → M PyData} : ∀ {ms : List (M PyData)} {s : Cells} {Q : List PyData → Cells → Prop} {E : Exn → Cells → Prop}, sat (saidsM XS post W ms s) Q E → ∃ ds, SaidsR XS post W ms ds ∧ Q ds s
  | [], s, Q, E, h => ⟨[], .nil, h⟩
  | m :: ms, s, Q, E, h => by
    obtain ⟨d, hd, h2⟩ := said_inv (sat_bind h)
    obtain ⟨ds, hds, h3⟩ := saids_inv (sat_bind h2)
    exact ⟨d :: ds, .cons hd hds, h3⟩
inductive LamMs (C : Ct) (Ts : Tbs) (kl : Nat) (ρ : VEnv) : List LamI → List (M PyData) → Prop
  | nil : LamMs C Ts kl ρ [] []
  | cons {params : Arguments} {body : Expr} {scope : Scope} {m : M PyData} {ls : List LamI} {ms : List (M PyData)} (h : FLamG C Ts kl scope body ρ m) (r : LamMs C Ts kl ρ ls ms) (Ls : LamS C.X.env.scope scope) (binds : ∀ (q : Str) (cl : List (Str × Addr)) (pm cv ctv : Value), bindArgs (PySem.W.kla_fn "<lambda>" q params body scope cl pm cv ctv) ⟨[], []⟩ = pure []) : LamMs C Ts kl ρ (⟨params, body, scope⟩ :: ls) (m :: ms)
structure LamD (C : Ct) (Ts : Tbs) (kl : Nat) (ρ : VEnv) (XS : List Str) (post : PyData → M PyData) (W : Str → M PyData) (l : LamI) (d : PyData) : Prop where
  ex : ∃ m, FLamG C Ts kl l.scope l.body ρ m ∧ SaidR XS post W m d
  Ls : LamS C.X.env.scope l.scope
  binds : ∀ (q : Str) (cl : List (Str × Addr)) (pm cv ctv : Value), bindArgs (PySem.W.kla_fn "<lambda>" q l.params l.body l.scope cl pm cv ctv) ⟨[], []⟩ = pure []
theorem lam_all {C : Ct} {Ts : Tbs} {kl : Nat} {ρ : VEnv} {XS : List Str} {post : PyData → M PyData} {W : Str → M PyData} {H : Hp} : ∀ {ls : List LamI} {ms : List (M PyData)} {ds : List PyData} {fs : List Addr}, LamMs C Ts kl ρ ls ms → SaidsR XS post W ms ds → LamsH C.X H fs ls →
    fs.length = ds.length ∧ ∀ (j : Nat) (f : Addr), fs[j]? = some f → ∃ l d, LamAt C.X H f l.params l.body l.scope ∧ ds[j]? = some d ∧ LamD C Ts kl ρ XS post W l d
  | [], _, _, [], .nil, .nil, _ => ⟨rfl, fun j f e => by simp at e⟩
  | l :: ls, _, _, f0 :: fs, .cons h r Ls bi, .cons s1 s2, la => by
    obtain ⟨i1, i2⟩ := lam_all r s2 la.2
    refine ⟨congrArg Nat.succ i1, fun j f e => ?_⟩
    cases j with
    | zero => cases e; exact ⟨_, _, la.1, rfl, ⟨_, h, s1⟩, Ls, bi⟩
    | succ j => exact i2 j f (by simpa using e)
  | [], _, _, _ :: _, _, _, h => h.elim
  | _ :: _, _, _, [], _, _, h => h.elim
section
variable {C : Ct} {ρ : VEnv} {Ts : Tbs} {kl : Nat} {x y : Str} {XS : List Str} {post : PyData → M PyData} {Wm : Str → M PyData} {ps : List Addr} {sc : Cells}
def tSaid (C : Ct) (ρ : VEnv) (Ts : Tbs) (kl : Nat) (XS : List Str) (post : PyData → M PyData) (Wm : Str → M PyData) (ps : List Addr) (sc : Cells) (iy : Nat) (σ : L2.St) (D : Addr) : TL := fun σ' H N => ∃ (f : Addr) (l : LamI) (d : PyData) (S : Sto) (us : List V), σ'[iy]? = some (some (.ref f)) ∧ LamAt C.X H f l.params l.body l.scope ∧ LamD C Ts kl ρ XS post Wm l d ∧
  RE C.X.K H (VEnv.den ps ρ) σ ∧ RS0 C.X.K S H ∧ Rel C.G ps sc S ∧ H D = some (.lst us) ∧ S D = none ∧ us.length < sizeLine ∧ ∀ S' v H', Rel C.G ps sc S' → Step S S' H H' → RZ C.X.K H' v (.d d) → RS0 C.X.K S' H' → H' D = some (.lst us) → S' D = none → N (upd H' D (.lst (us ++ [v])))
theorem lv_said {g : Addr} (Rn : SaidRun C.X.prog C.X.w C.X.K C.X.mg C.X.base Ts kl XS post Wm g) (hm : C.X.mg x = some (.ref g)) (kp : PySem.W.keepIn C.X.K (.ref g) = true) (hG : C.X.A.guards = some [] ∧ Gt Ts C.G) (hr : Room (kl + 2) C.X.A) (iy : Nat) (hN : C.X.N[iy]? = some y) (hdb : (x == ("__debug__" : Str)) = false) (hd : (y == ("__debug__" : Str)) = false) (hcd : (y == ("__classdict__" : Str)) = false) {scope : Scope} {p py cpos : Pos}
    (hg : Blk C.X scope fun X => Gl X x) (hv : Blk C.X scope fun X => Vis X.env.scope y) {pins : List (Addr × Obj)} {σ : L2.St} {s : Shared} {H : Hp} {Cl : Addr} {cl : List (Str × Addr)} {fp : List Addr} (I0 : Inv C.X pins σ H s) (f0 : ∀ b ∈ fp, FpOk C.X pins H b ∧ b < s.heap.objs.size) (D : Addr) :
    Lv (C.X.blk s H scope (compEnvC scope cl Cl C.X.env) fp) (addL (.Call (.Name x p) [.Name y py] [] cpos) (compEnvC scope cl Cl C.X.env) (.ref D)) [] (tSaid C ρ Ts kl XS post Wm ps sc iy σ D) := by
  refine ⟨fun pins' s' σ' H' N I' h => ?_⟩
  obtain ⟨f, l, d, S, us, e1, la, ⟨⟨m, hbody, hres⟩, Ls, bi⟩, hE, rs, r, hD, nD, hz, nx⟩ := h
  have hb : ∀ (s : Shared) (Q : Shared → Prop), wpAny (model C.X.prog C.X.w) C.X.A (eval (.Call (.Name x p) [.Name y py] [] cpos) (compEnvC scope cl Cl C.X.env)) (fun u s1 => wpAny (model C.X.prog C.X.w) C.X.A (call (.builtin "list.append") [.ref D, u]) (fun _ s2 => Q s2) nox s1) nox s → wpAny (model C.X.prog C.X.w) C.X.A (addL (.Call (.Name x p) [.Name y py] [] cpos) (compEnvC scope cl Cl C.X.env) (.ref D)) (fun _ s2 => Q s2) nox s := fun s Q h => wpAny_bind (wpAny_mono h (fun u s1 h1 => wpAny_bind (wpAny_mono h1 (fun _ s2 h2 => wpAny_pure h2) fun _ _ z => z)) fun _ _ z => z)
  refine hb _ _ ?_
  refine wpAny_Call_Name_kw (ld_glob I' (hg s H Cl cl fp) hm ?_ hdb)
  refine PySem.W.callWith_K (h₀ := C.X.base) I'.ok.mod.kin kp (thn ((pa_cons (pe_var (X := C.X.blk s H scope (compEnvC scope cl Cl C.X.env) fp) (i := iy) hN (hv s H Cl cl fp) hd hcd) pa_nil (by rfl)).run cpos pins' s' σ' H' (fun vs H2 => vs = [V.ref f] ∧ H2 = H') I' ⟨_, e1, rfl, rfl⟩) ?_) (by rfl) (by rfl)
  rintro us1 s1 ⟨vs, H1, I1, rv, rfl, rfl⟩
  obtain ⟨u1, rfl, r1⟩ : ∃ u1, us1 = [u1] ∧ RelV (V.ref f) u1 := by cases rv with | cons h t => cases t; exact ⟨_, rfl, h⟩
  obtain rfl : u1 = Value.ref f := r1
  have I2 : Inv C.X pins σ H1 s1 := I0.call' (ch := fp) I1.os I1.base I1.hok I1.bare fun b hb => by
    obtain ⟨⟨_, z1, z2, z3, z4, z5⟩, _⟩ := f0 b hb
    exact ⟨z3, z1, z4, z5⟩
  refine ⟨I1.kIn, wpAny_call (codeAny_mono (Rn C rfl rfl rfl rfl rfl C.X.A C.X.stack s1 H1 S f l.params l.body l.scope ρ σ m d (fun v H2 => ∃ S', Rel C.G ps sc S' ∧ Step S S' H1 H2 ∧ RZ C.X.K H2 v (.d d) ∧ RS0 C.X.K S' H2) hG.1 (hG.2.now r) r.owS hr I2.env0 (Back.here I2) Ls bi hbody hres la (hE.forget (dat_fg ps ρ)) rs fun S' v H2 a b c e => ⟨S', r.grow (rel0_grow a) a.owS, b, c, e⟩) ?_)⟩
  intro rr s2 ended
  cases rr with
  | error e => obtain ⟨_, _, _, _, _, _, _, _, _, _, _, _, z⟩ := ended; exact z.elim
  | ok fl =>
    cases fl with
    | ret u =>
      obtain ⟨v, H2, I3, r3, S', a1, a2, a3, a4⟩ := I1.after ended
      obtain ⟨q1, q2⟩ := a2 D _ hD nD
      exact app_ok (X := C.X.blk s H scope (compEnvC scope cl Cl C.X.env) fp) I3 q1 hz r3 fun s3 I4 => ⟨_, I4, nx S' v H2 a1 a2 a3 a4 q1 q2⟩
    | next => exact ended.elim
    | brk => exact ended.elim
    | cont => exact ended.elim
def zSaids (C : Ct) (ρ : VEnv) (ps : List Addr) (s : Cells) (ds : List PyData) : ZT := fun ρ0 S0 Q0 => ρ0 = VEnv.den ps ρ ∧ Rel C.G ps s S0 ∧ ∀ S', Rel C.G ps s S' → Q0 (.d (.list ds)) S'
def wiVar (K : PySem.W.Frag) (iz : Nat) : TI := fun σ H R => tVar iz σ H fun x H1 => ∃ a, x = .ref a ∧ (((∃ xs, SqL K H1 a xs) ∧ R (Itl K a) H1) ∨ ((∃ xs, SqT K H1 a xs) ∧ R (Itt K a) H1))
theorem saids_low (iz iy : Nat) {a : Addr} {ls : List LamI} {ms : List (M PyData)} {ds : List PyData} {s : Cells} {own : List (Str × Nat)} (La : LamsIn C.X C.B a ls) (hM : LamMs C Ts kl ρ ls ms) (hds : SaidsR XS post Wm ms ds) (hline : ds.length ≤ sizeLine) (hρ : ρ[iz]? = some (some (.ob a))) (hρl : ρ.length = C.X.N.length) (hy : C.X.N[iy]? = some y) (how : iy ∈ own.map (·.2)) :
    ∀ σ H Q (Qf : VK), (∀ a us H', H' a = some (.lst us) → (∀ o, Q (.ref a) (upd H' a (.frz o (.lst us)))) → Qf (.ref a) H') → low C.X.K C.B (zSaids C ρ ps s ds) σ H Q → tCore (wiVar C.X.K iz) (gName iy) (fun σ H Q => Q true H) (tSaid C ρ Ts kl XS post Wm ps s iy σ) (own.map (·.2)) (fun _ => .lst []) σ H Qf := by
  rintro σ H Q Qf hQf ⟨ρ0, S0, hE, hS, rfl, r0, q0⟩
  obtain ⟨v, ev, rz⟩ := hE.get (den_get ps ρ iz hρ)
  cases rz
  refine ⟨_, ev, a, rfl, ?_⟩
  obtain ⟨fs, b1, b2, b3, b4⟩ := La
  have now : ∀ {S' H'}, RS C.X.K C.B S' H' → H' a = some (.lst (fs.map V.ref)) ∧ LamsH C.X H' fs ls := fun r => ⟨(r.2 a _ b1 b2).1, b3.keep (step_keeps b4 r.2)⟩
  have len := (lam_all hM hds (now hS).2).1
  refine .inl ⟨⟨_, .of (now hS).1⟩, fun D nD => ?_⟩
  have sm0 : ∀ o, Same H (upd H D o) := fun o => same_fresh nD
  have walk : Walk (Itl C.X.K a) fs.length (fun H' => SqL C.X.K H' a (fs.map V.ref)) (YAt (fs.map V.ref)) := ⟨fun i H' hi q => ⟨_, _, q, List.getElem?_eq_getElem (by simpa using hi)⟩, fun H' q => ⟨_, q, by simp⟩, fun i H' x H2 hi q y => ⟨y.1, y.2 _ q⟩⟩
  refine turns_it walk (fun i H' => ∃ acc us S', RE C.X.K H' (VEnv.den ps ρ) σ ∧ RS C.X.K C.B S' H' ∧ Step S0 S' H H' ∧ S' D = none ∧ H' D = some (.lst us) ∧ FzAll C.X.K H' us acc ∧ Rel C.G ps s S' ∧ acc = ds.take i) ⟨[], [], S0, hE.le (.same (sm0 _)), hS.step (hS.1.same (sm0 _)) (step_same (sm0 _)), step_same (sm0 _), hS.1.fresh nD, upd_same, .nil, r0, rfl⟩ ?_ ?_ ?_
  · rintro i H' _ ⟨_, _, S', _, R', _⟩
    exact .of (now R').1
  · rintro i x' H' H2 hlt ⟨acc, us, S', E', R', st', nS, hL, f, r', ea⟩ ⟨rfl, ex⟩
    have ex2 : ∃ fj, fs[i]? = some fj ∧ x' = .ref fj := by
      rw [List.getElem?_map] at ex
      cases e : fs[i]? with
      | none => rw [e] at ex; cases ex
      | some fj => rw [e] at ex; exact ⟨fj, rfl, (Option.some.inj ex).symm⟩
    obtain ⟨fj, ej, rfl⟩ := ex2
    obtain ⟨l, d, la, ed, ld⟩ := (lam_all hM hds (now R').2).2 i fj ej
    have hil : iy < σ.length := by
      have h1 := hE.length
      have h2 := (List.getElem?_eq_some_iff.mp hy).1
      unfold VEnv.den at h1
      rw [List.length_map] at h1
      omega
    refine ⟨(wipe_set how).trans wipe_wipe, ?_⟩
    show if true = true then _ else _
    rw [if_pos rfl]
    have acc_len : acc.length = i := by rw [ea, List.length_take]; omega
    refine ⟨fj, l, d, S', us, ?_, la, ld, E', R'.1, r', hL, nS, by rw [f.length, acc_len]; omega, fun S2 v H3 r2 st2 rz2 rs2 hD2 nD2 => ?_⟩
    · exact List.getElem?_set_self (by rw [wipe_length]; exact hil)
    · cases rz2 with | d rz2 =>
      have le2 := st2.le R'.1
      have ls2 : Le H3 (upd H3 D (.lst (us ++ [v]))) := le_set hD2
      have R2 := R'.step rs2 st2
      exact ⟨acc ++ [d], us ++ [v], S2, (E'.le le2).le ls2, R2.poke nD2 hD2 (hS.out nD), (st'.trans st2).poke (fun _ e => by rw [nD] at e; cases e), nD2, upd_same, ((f.le le2).append (.one rz2)).le ls2, r2, by rw [ea, List.take_succ, ed]; rfl⟩
  · rintro H' ⟨acc, us, S', E', R', st', nS, hL, f, r', ea⟩
    refine hQf D us H' hL fun o => ?_
    have ls : Le H' (upd H' D (.frz o (.lst us))) := ⟨fun b zs e => by rw [upd_ne (ne_of e hL fun z => nomatch z)]; exact e, fun b o u e => by rw [upd_ne (ne_of e hL fun z => nomatch z)]; exact e⟩
    have ea : acc = ds := by rw [ea, len, List.take_length]
    subst ea
    exact q0 S' r' _ _ (st'.poke fun _ e => by rw [nD] at e; cases e) (.d (.lst ⟨o, upd_same⟩ (f.le ls))) (R'.poke nS hL (hS.out nD))
theorem f_saidG {g c P : Addr} {params : Arguments} {body : Expr} {scope : Scope} {p lpos pos : Pos} {m : M PyData} (Rn : SaidRun C.X.prog C.X.w C.X.K C.X.mg C.X.base Ts kl XS post Wm g) (hm : C.X.mg x = some (.ref g)) (kp : PySem.W.keepIn C.X.K (.ref g) = true) (TB : TabB C.X.base C.X.mg c P) (code : C.X.env.code = .ref c) (inT : (P, C.X.env.qual ++ "<lambda>") ∈ Ts) (hG : C.X.A.guards = some [] ∧ Gt Ts C.G) (hr : Room (kl + 2) C.X.A) (hbody : FLamG C Ts kl scope body ρ m) (Ls : lamSB C.X.env.scope scope = true := by first | rfl | decide +kernel)
    (nodef : defaultsOf params C.X.env = ([], []) := by rfl) (binds : NoPar params body scope := by intro _ _ _ _ _; rfl) (hg : Gl C.X x := by rfl) (hdb : (x == ("__debug__" : Str)) = false := by decide) :
    FE C (.Call (.Name x p) [.Lambda params body scope lpos] [] pos) ρ (saidM XS post Wm m) := by
  intro ps s S Q r w
  obtain ⟨d', hres, q⟩ := said_inv w
  have zz : ZE C.X C.B (.Call (.Name x p) [.Lambda params body scope lpos] [] pos) (fun ρ0 S0 Q0 => ρ0 = VEnv.den ps ρ ∧ Rel C.G ps s S0 ∧ ∀ S', Rel C.G ps s S' → Q0 (.d d') S') := by
    refine ⟨fun q w => ⟨w.1, w.2.1, fun S' r => q _ _ (w.2.2 S' r)⟩, ⟨?_⟩⟩
    rintro pins s0 σ H Q I ⟨ρ0, S, hE, hS, rfl, r, q⟩
    have isT : S P = some (.tbl (C.X.env.qual ++ "<lambda>")) := hG.2.now r _ inT
    refine wpAny_Call_Name_kw (ld_glob I hg hm ?_ hdb)
    refine PySem.W.callWith_K (h₀ := C.X.base) I.ok.mod.kin kp ?_ (by rfl) (by rfl)
    show wpAny _ _ (spliced ((false, eval (.Lambda params body scope lpos) C.X.env) :: backTo pos (starEach [] C.X.env))) _ _ s0
    refine Calls.spliced_cons (lam_newT I TB code (hS.1 P _ isT) nodef ((lamS_by Ls).has I.ok) ?_)
    intro f H1 s1 I1 keep tab1 nf la
    refine Calls.spliced_nil ⟨I1.kIn, ?_⟩
    have rs1 : RS0 C.X.K S H1 := hS.1.table isT keep tab1
    have st1 : Step S S H H1 := step_table isT keep
    have E1 : RE C.X.K H1 (VEnv.den ps ρ) σ := hE.le (st1.le hS.1)
    refine wpAny_call (codeAny_mono (Rn C rfl rfl rfl rfl rfl C.X.A C.X.stack s1 H1 S f params body scope ρ σ m d' Q hG.1 (hG.2.now r) r.owS hr I1.env0 (Back.here I1) (lamS_by Ls) binds hbody hres la (E1.forget (dat_fg ps ρ)) rs1 fun S' v H2 a b c e => q S' (r.grow (rel0_grow a) a.owS) v H2 (st1.trans b) c (hS.step e (st1.trans b))) ?_)
    intro r' s' ended
    cases r' with
    | error e' => obtain ⟨_, _, _, _, _, _, _, _, _, _, _, _, z⟩ := ended; exact z.elim
    | ok fl => cases fl with
      | ret u => exact I1.after ended
      | next => exact ended.elim
      | brk => exact ended.elim
      | cont => exact ended.elim
  exact zz.we ⟨rfl, r, q⟩
end
end ZL
namespace V
open PySem PySem.Spec
end V
namespace ZL
open PySem PySem.Spec PyProof.Rows L2 V L2H LamX
structure HeldD (P : Program) (w : World) (K : PySem.W.Frag) (mg : Str → Option Value) (base : Heap) (Ts : Tbs) (kr : Nat) (h x : Str) (R : PyData → PyData → M PyData) where
  (a b fo : Str) (ret : Expr) (pf px pa pc pas pr : Pos) (pg : Arguments) (sg : Scope) (gh : Addr) (fdg : FuncData)
  F : FunD K h h pg [.Assign [.Name fo pf] (.Call (.Name x px) [.Name a pa] [] pc) pas, .Return (some ret) pr] sg [] [] gh fdg
  Sc : FnScope [a, b, fo] [a, b] sg
  hm : mg h = some (.ref gh)
  hb : Binds K fdg [a, b] []
  la : sg.names.lookup a = some .local
  lf : sg.names.lookup fo = some .local
  lx : sg.names.lookup x = some .globalImplicit
  da : (a == ("__debug__" : Str)) = false
  ca : (a == ("__classdict__" : Str)) = false
  dx : (x == ("__debug__" : Str)) = false
  hret : ∀ (cdv : Value) (A : Around) (outer : List PySem.Env) (s : Shared) (H : Hp) (E : XK) (B : Bs) (S : Sto), ((A.deeper (envOfC h sg s.heap.objs.size gh cdv)).guards = some [] ∧ Gt Ts ⟨[], S⟩) → Room kr (A.deeper (envOfC h sg s.heap.objs.size gh cdv)) →
    ∀ d2 d, FE ⟨cxOf (L2N.CX P w) P w K mg base [a, b, fo] h sg gh cdv A outer s H E, B, ⟨[], S⟩, noW⟩ ret [none, some (.d d2), some (.d d)] (R d2 d)
section
variable {C : Ct} {ρ : VEnv} {Ts : Tbs} {kl kr : Nat} {h x : Str} {XS : List Str} {post : PyData → M PyData} {Wm : Str → M PyData} {R : PyData → PyData → M PyData} {g c P : Addr} {params : Arguments} {body e2 : Expr} {scope : Scope} {p lpos pos : Pos} {m me2 : M PyData}
end
end ZL
namespace ZL
open PySem PySem.Spec PyProof.Rows L2 V L2H LamX
theorem ps_setI {X : Cx} {i : Nat} {y : Str} {py : Pos} {elt tg iter : Expr} {ifs : List Expr} {scope : Scope} {own : List (Str × Nat)} {vs1 : List Nat} {pos spos : Pos} {wi : TI} {g : TG} {tt : TT} {t1 : L2.St → Addr → TL} {body : Value → Env → Sem Unit} (hc : X.calm = true) (hN : X.N.Nodup) (hy : X.N[i]? = some y) (hyl : X.env.scope.names.lookup y = some .local)
    (hsw : swapsWith (.ListComp elt [⟨tg, iter, ifs, 0⟩] scope pos) (some (.Name y py)) spos.line X.env = pure true) (hi : PI X tg iter wi) (ok : BlkOk X.N X.env.scope scope own) (hv : ∀ i ∈ vs1, i ∈ own.map (·.2))
    (hS : ∀ acc env, StartBy (model X.prog X.w) X.A (.ListComp elt [⟨tg, iter, ifs, 0⟩] scope pos) 0 acc env) (hL : Blk X scope fun X => ∀ acc, LoopBy (model X.prog X.w) X.A (.ListComp elt [⟨tg, iter, ifs, 0⟩] scope pos) 0 tg ifs acc X.env (body acc X.env))
    (hg : Blk X scope fun X => PG X tg g) (ht : Blk X scope fun X => PTs X ifs tt)
    (hl : ∀ (pins : List (Addr × Obj)) (σ : L2.St) (s : Shared) (H : Hp) (C : Addr) (cl : List (Str × Addr)) (fp : List Addr), Inv X pins σ H s → (∀ b ∈ fp, FpOk X pins H b ∧ b < s.heap.objs.size) → ∀ D, Lv (X.blk s H scope (compEnvC scope cl C X.env) fp) (body (.ref D) (compEnvC scope cl C X.env)) vs1 (t1 σ D)) (hs : ∀ x, foldedSetIterable iter X.env x = pure x) :
    PS X (.Assign [.Name y py] (.ListComp elt [⟨tg, iter, ifs, 0⟩] scope pos) spos) (tAsg (fun σ H Q => tCore wi g tt (t1 σ) (own.map (·.2)) (fun _ => .lst []) σ H Q) (gName i)) := by
  refine ⟨fun pins s σ H D I h => ?_⟩
  rw [exec_Assign_Name_used _ _ _ _ hsw]
  refine wpAny_bind (wpAny_standAt (wpAny_bind ?_))
  have h : tCore wi g tt (t1 σ) (own.map (·.2)) (fun _ => .lst []) σ H (fun x H1 => gName i x σ H1 D.nx) := h
  show wpAny _ X.A (do let _ ← comprehension (.ListComp elt [⟨tg, iter, ifs, 0⟩] scope pos) scope X.env (firstIterPos [⟨tg, iter, ifs, 0⟩] pos) (newList []) false (eval iter X.env) (some (assign (.Name y py) X.env))) _ _ s
  refine wpAny_bind (thn (blk_coreI (Qf := fun _ s' => SP X pins D .next s') rfl (fun E s Q h => mkL _ _ _ E s Q h) (obL _ _) hc hN I hi ok hv hS hL hg ht (hl pins σ) hs h fun L C s' m H' I' q hn f => ?_) fun _ s' hq => wpAny_pure (wpAny_pure hq))
  show wpAny _ _ (assign (.Name y py) X.env (.ref L)) _ _ _
  refine wpAny_assign_Name (store_ok2 (v := V.ref L) I' hN hy (.inl hyl) rfl (fun s2 I2 ⟨a, sb, ha⟩ => ?_) (.inr hyl))
  obtain ⟨f0, f1, f2, f3, f4, f5⟩ := f
  have haC : C ≠ a := by
    rcases ha with z | z
    · rw [z]; exact f1
    · exact fun e => f4 y a z e.symm
  refine ⟨m, hn.sameBut sb haC, fun h3 sb3 => ?_⟩
  exact ⟨_, H', I2.turned (t' := s2.toks) (fun b o hb e => (sb3.2 b hb).trans e) f0 f1 f3 f4 f5, q⟩
section
variable {C : Ct} {ρ : VEnv} {Ts : Tbs} {kl : Nat} {x y : Str} {XS : List Str} {post : PyData → M PyData} {Wm : Str → M PyData} {rm : Bool} {K : List (List Stmt)} {rest : List Stmt} {L T : Type} {emb : T → VEnv} {embL : L → VEnv}
theorem s_setSaids (i iz iy : Nat) {u z : Str} {a : Addr} {ls : List LamI} {ms : List (M PyData)} {scope : Scope} {own : List (Str × Nat)} {p py ty pz pu cpos lpos pos : Pos} {g : Addr} {k : PyData → M (Fl L T)} (Rn : SaidRun C.X.prog C.X.w C.X.K C.X.mg C.X.base Ts kl XS post Wm g) (hm : C.X.mg x = some (.ref g)) (kp : PySem.W.keepIn C.X.K (.ref g) = true) (hG : C.X.A.guards = some [] ∧ Gt Ts C.G) (hr : Room (kl + 2) C.X.A) (La : LamsIn C.X C.B a ls) (hM : LamMs C Ts kl ρ ls ms) (hN : C.X.N.Nodup) (ok : BlkOk C.X.N C.X.env.scope scope own)
    (hk : ∀ v, FS C rm K rest (ρ.set i (some (.d v))) emb embL (k v))
    (hρ : ρ[iz]? = some (some (.ob a)) := by rfl) (hρl : ρ.length = C.X.N.length := by rfl) (hz : C.X.N[iz]? = some z := by rfl) (hy : C.X.N[iy]? = some y := by rfl) (hu : C.X.N[i]? = some u := by rfl) (hul : C.X.env.scope.names.lookup u = some .local := by rfl) (how : iy ∈ own.map (·.2) := by decide) (hvz : Vis C.X.env.scope z := by first | exact Or.inl rfl | exact Or.inr (Or.inl rfl) | exact Or.inr (Or.inr rfl)) (hdb : (x == ("__debug__" : Str)) = false := by decide) (hd : (y == ("__debug__" : Str)) = false := by decide) (hcd : (y == ("__classdict__" : Str)) = false := by decide) (hdz : (z == ("__debug__" : Str)) = false := by decide) (hcz : (z == ("__classdict__" : Str)) = false := by decide)
    (hsw : swapsWith (.ListComp (.Call (.Name x p) [.Name y py] [] cpos) [⟨.Name y ty, .Name z pz, [], 0⟩] scope lpos) (some (.Name u pu)) pos.line C.X.env = pure true := by exact sw_true rfl rfl rfl (by decide +kernel))
    (hg : Blk C.X scope fun X => Gl X x := by intro _ _ _ _ _; rfl) (hv : Blk C.X scope fun X => Vis X.env.scope y := by intro _ _ _ _ _; exact Or.inl rfl) (hl : Blk C.X scope fun X => X.env.scope.names.lookup y = some .local := by intro _ _ _ _ _; rfl) (hc : C.X.calm = true := by rfl) :
    FS C rm K (.Assign [.Name u pu] (.ListComp (.Call (.Name x p) [.Name y py] [] cpos) [⟨.Name y ty, .Name z pz, [], 0⟩] scope lpos) pos :: rest) ρ emb embL ((saidsM XS post Wm ms >>= fun ds => if ds.length ≤ line then pure (.list ds) else bad) >>= k) := by
  intro ps s S D r w
  obtain ⟨ds, hds, w2⟩ := saids_inv (sat_bind (sat_bind w))
  obtain ⟨hline, q⟩ := sat_if w2
  have hline : ds.length ≤ sizeLine := by rw [← line_eq]; exact hline
  have zz : ZS C.X C.B (.Assign [.Name u pu] (.ListComp (.Call (.Name x p) [.Name y py] [] cpos) [⟨.Name y ty, .Name z pz, [], 0⟩] scope lpos) pos) (zAsg (zSaids C ρ ps s ds) (zgName i)) := by
    refine ⟨⟨fun pins s1 σ H D I w => ?_⟩⟩
    have base := ps_setI (wi := wiVar C.X.K iz) (g := gName iy) (tt := fun σ H Q => Q true H) (vs1 := []) (t1 := tSaid C ρ Ts kl XS post Wm ps s iy) (body := fun acc env => addL (.Call (.Name x p) [.Name y py] [] cpos) env acc) (spos := pos) (pos := lpos) (py := pu) hc hN hu hul hsw (pi_seq (pe_var hz hvz hdz hcz)) ok (fun i h => by cases h)
      (fun acc env => startL (g := ⟨.Name y ty, .Name z pz, [], 0⟩) rfl rfl) (fun s H C cl fp acc => loopL1) (fun s H C2 cl fp => pg_name hN hy (.inl (hl s H C2 cl fp)) (.inr (hl s H C2 cl fp))) (fun s H C cl fp => pts_nil) (fun pins σ s H Cl cl fp I0 f0 D => lv_said Rn hm kp hG hr iy hy hdb hd hcd hg hv I0 f0 D) (fun _ => rfl)
    obtain ⟨ρ0, S0, E, hE, hS, l, rfl, r0, w⟩ := w
    have lo : low C.X.K C.B (zSaids C ρ ps s ds) σ H fun v H' => D.nx (σ.set i (some v)) H' :=
      ⟨_, S0, hE, hS, rfl, r0, fun S' r' v H' st rz R' => l.nx _ _ _ _ (w S' r') st ((hE.le (st.le hS.1)).set i rz) R'⟩
    refine thn (base.run pins s1 σ H { nx := fun σ' H' => ∃ a xs, σ' = σ.set i (some (.ref a)) ∧ H' a = some (.lst xs) ∧ ∀ o, D.nx (σ.set i (some (.ref a))) (upd H' a (.frz o (.lst xs))), rt := fun _ _ => False } I ?_) ?_
    · exact saids_low iz iy La hM hds hline hρ hρl hy how σ H _ (fun v H' => ∃ a xs, σ.set i (some v) = σ.set i (some (.ref a)) ∧ H' a = some (.lst xs) ∧ ∀ o, D.nx (σ.set i (some (.ref a))) (upd H' a (.frz o (.lst xs)))) (fun a us H' e q => ⟨a, us, rfl, e, q⟩) lo
    · intro f s1 q
      cases f with
      | next =>
        obtain ⟨σ', H', I', a, xs, rfl, ea, q⟩ := q
        obtain ⟨o, I2⟩ := I'.lock ea True.intro
        exact ⟨_, _, I2, q o⟩
      | brk => obtain ⟨_, _, _, q⟩ := q; exact q.elim
      | cont => obtain ⟨_, _, _, q⟩ := q; exact q.elim
      | ret u => obtain ⟨_, _, _, _, _, q⟩ := q; exact q.elim
  refine wsk_cons zz ⟨rfl, r, fun S' r' => ?_⟩
  have := hk (.list ds) ps s S' D r' q
  rw [den_set] at this
  exact this
end
end ZL
namespace V
open PySem PySem.Spec
end V
namespace ZL
open PySem PySem.Spec PyProof.Rows L2 V L2H LamX
section
variable {C : Ct} {ρ : VEnv} {Ts : Tbs} {kl : Nat} {x : Str} {XS : List Str} {post : PyData → M PyData} {Wm : Str → M PyData}
end
section
variable {C : Ct} {ρ : VEnv} {Ts : Tbs} {kl : Nat} {rm : Bool} {K : List (List Stmt)} {body rest : List Stmt} {L T T1 : Type} {emb : T → VEnv} {embL : L → VEnv} {emb1 : T1 → VEnv}
end
end ZL
namespace K
open PySem PySem.Spec PyProof.Rows L2 ZL V
def topS (i : Nat) : Stmt := PySem.Challenge.pw_platerest_k03_fractions_refused.main.body.getD i (.Pass ⟨0, 0, 0, 0⟩)
abbrev s_is_whole : Stmt := topS 30
abbrev s_divisor : Stmt := topS 31
abbrev s_is_fraction : Stmt := topS 32
abbrev s_need_whole : Stmt := topS 33
abbrev s_need_fraction : Stmt := topS 34
abbrev s_made_by : Stmt := topS 35
abbrev s_plus_by : Stmt := topS 36
abbrev s_minus_by : Stmt := topS 37
abbrev s_times_by : Stmt := topS 38
abbrev s_over_by : Stmt := topS 39
abbrev s_less_by : Stmt := topS 40
abbrev s_made : Stmt := topS 41
abbrev s_need_two : Stmt := topS 42
abbrev s_plus : Stmt := topS 43
abbrev s_minus : Stmt := topS 44
abbrev s_times : Stmt := topS 45
abbrev s_over : Stmt := topS 46
abbrev s_less : Stmt := topS 47
abbrev s__law_cell_at : Stmt := topS 49
abbrev s__law_state : Stmt := topS 50
abbrev s__law_choice : Stmt := topS 51
abbrev s__law_low : Stmt := topS 52
abbrev s__law_fraction : Stmt := topS 53
abbrev s__law_odd : Stmt := topS 54
abbrev s__law_marks : Stmt := topS 55
abbrev s__law_word : Stmt := topS 56
abbrev s__law_said : Stmt := topS 57
abbrev s__law_whole : Stmt := topS 58
abbrev s__law_is_fraction : Stmt := topS 59
abbrev s__law_bent : Stmt := topS 60
abbrev s__law_words : Stmt := topS 61
abbrev s_law : Stmt := topS 62
def tfL : List He.Defn := [("_law_words", none), ("law", none)]
end K
namespace Hd
open PySem PySem.Spec PyProof.Rows L2 ZL V K
def d_is_whole : He.DefD := ⟨("is_whole", none), "is_whole", "is_whole", defArgs s_is_whole, defBody s_is_whole, defScope s_is_whole, [], []⟩
def d_divisor : He.DefD := ⟨("divisor", none), "divisor", "divisor", defArgs s_divisor, defBody s_divisor, defScope s_divisor, [], []⟩
def d_is_fraction : He.DefD := ⟨("is_fraction", none), "is_fraction", "is_fraction", defArgs s_is_fraction, defBody s_is_fraction, defScope s_is_fraction, [], []⟩
def d_need_whole : He.DefD := ⟨("need_whole", none), "need_whole", "need_whole", defArgs s_need_whole, defBody s_need_whole, defScope s_need_whole, [], []⟩
def d_need_fraction : He.DefD := ⟨("need_fraction", none), "need_fraction", "need_fraction", defArgs s_need_fraction, defBody s_need_fraction, defScope s_need_fraction, [], []⟩
def d_made_by : He.DefD := ⟨("made_by", none), "made_by", "made_by", defArgs s_made_by, defBody s_made_by, defScope s_made_by, [], []⟩
def d_plus_by : He.DefD := ⟨("plus_by", none), "plus_by", "plus_by", defArgs s_plus_by, defBody s_plus_by, defScope s_plus_by, [], []⟩
def d_minus_by : He.DefD := ⟨("minus_by", none), "minus_by", "minus_by", defArgs s_minus_by, defBody s_minus_by, defScope s_minus_by, [], []⟩
def d_times_by : He.DefD := ⟨("times_by", none), "times_by", "times_by", defArgs s_times_by, defBody s_times_by, defScope s_times_by, [], []⟩
def d_over_by : He.DefD := ⟨("over_by", none), "over_by", "over_by", defArgs s_over_by, defBody s_over_by, defScope s_over_by, [], []⟩
def d_less_by : He.DefD := ⟨("less_by", none), "less_by", "less_by", defArgs s_less_by, defBody s_less_by, defScope s_less_by, [], []⟩
def d_made : He.DefD := ⟨("made", none), "made", "made", defArgs s_made, defBody s_made, defScope s_made, [.int 1], []⟩
def d_need_two : He.DefD := ⟨("need_two", none), "need_two", "need_two", defArgs s_need_two, defBody s_need_two, defScope s_need_two, [], []⟩
def d_plus : He.DefD := ⟨("plus", none), "plus", "plus", defArgs s_plus, defBody s_plus, defScope s_plus, [], []⟩
def d_minus : He.DefD := ⟨("minus", none), "minus", "minus", defArgs s_minus, defBody s_minus, defScope s_minus, [], []⟩
def d_times : He.DefD := ⟨("times", none), "times", "times", defArgs s_times, defBody s_times, defScope s_times, [], []⟩
def d_over : He.DefD := ⟨("over", none), "over", "over", defArgs s_over, defBody s_over, defScope s_over, [], []⟩
def d_less : He.DefD := ⟨("less", none), "less", "less", defArgs s_less, defBody s_less, defScope s_less, [], []⟩
def d__law_cell_at : He.DefD := ⟨("_law_cell_at", none), "_law_cell_at", "_law_cell_at", defArgs s__law_cell_at, defBody s__law_cell_at, defScope s__law_cell_at, [], []⟩
def d__law_state : He.DefD := ⟨("_law_state", none), "_law_state", "_law_state", defArgs s__law_state, defBody s__law_state, defScope s__law_state, [], []⟩
def d__law_choice : He.DefD := ⟨("_law_choice", none), "_law_choice", "_law_choice", defArgs s__law_choice, defBody s__law_choice, defScope s__law_choice, [], []⟩
def d__law_low : He.DefD := ⟨("_law_low", none), "_law_low", "_law_low", defArgs s__law_low, defBody s__law_low, defScope s__law_low, [], []⟩
def d__law_fraction : He.DefD := ⟨("_law_fraction", none), "_law_fraction", "_law_fraction", defArgs s__law_fraction, defBody s__law_fraction, defScope s__law_fraction, [], []⟩
def d__law_odd : He.DefD := ⟨("_law_odd", none), "_law_odd", "_law_odd", defArgs s__law_odd, defBody s__law_odd, defScope s__law_odd, [], []⟩
def d__law_marks : He.DefD := ⟨("_law_marks", none), "_law_marks", "_law_marks", defArgs s__law_marks, defBody s__law_marks, defScope s__law_marks, [], []⟩
def d__law_word : He.DefD := ⟨("_law_word", none), "_law_word", "_law_word", defArgs s__law_word, defBody s__law_word, defScope s__law_word, [], []⟩
def d__law_said : He.DefD := ⟨("_law_said", none), "_law_said", "_law_said", defArgs s__law_said, defBody s__law_said, defScope s__law_said, [], []⟩
def d__law_whole : He.DefD := ⟨("_law_whole", none), "_law_whole", "_law_whole", defArgs s__law_whole, defBody s__law_whole, defScope s__law_whole, [], []⟩
def d__law_is_fraction : He.DefD := ⟨("_law_is_fraction", none), "_law_is_fraction", "_law_is_fraction", defArgs s__law_is_fraction, defBody s__law_is_fraction, defScope s__law_is_fraction, [], []⟩
def d__law_bent : He.DefD := ⟨("_law_bent", none), "_law_bent", "_law_bent", defArgs s__law_bent, defBody s__law_bent, defScope s__law_bent, [], []⟩
def d__law_words : He.DefD := ⟨("_law_words", none), "_law_words", "_law_words", defArgs s__law_words, defBody s__law_words, defScope s__law_words, [], []⟩
def d_law : He.DefD := ⟨("law", none), "law", "law", defArgs s_law, defBody s_law, defScope s_law, [], []⟩
def fn0 : List He.DefD := [d_is_whole, d_divisor, d_is_fraction, d_need_whole, d_need_fraction, d_made_by, d_plus_by, d_minus_by, d_times_by, d_over_by, d_less_by, d_made, d_need_two, d_plus, d_minus, d_times, d_over, d_less, d__law_cell_at, d__law_state, d__law_choice, d__law_low, d__law_fraction, d__law_odd, d__law_marks, d__law_word, d__law_said, d__law_whole, d__law_is_fraction, d__law_bent]
def fn1 : List He.DefD := [d__law_words, d_law]
def fn : List He.DefD := fn0 ++ fn1
def fa0 : List He.Fa := [.glo "is_whole", .glo "divisor", .glo "is_fraction", .glo "need_whole", .glo "need_fraction", .glo "made_by", .glo "plus_by", .glo "minus_by", .glo "times_by", .glo "over_by", .glo "less_by", .glo "made", .glo "need_two", .glo "plus", .glo "minus", .glo "times", .glo "over", .glo "less", .glo "_law_cell_at", .glo "_law_state", .glo "_law_choice", .glo "_law_low", .glo "_law_fraction", .glo "_law_odd", .glo "_law_marks", .glo "_law_word", .glo "_law_said", .glo "_law_whole", .glo "_law_is_fraction", .glo "_law_bent"]
def fa1 : List He.Fa := [.glo "_law_words", .glo "law", .free "ValueError", .free "abs", .free "all", .free "bool", .free "int", .free "isinstance", .free "len", .free "list", .free "max", .free "min", .free "range", .free "repr", .free "tuple", .glo "NoBalance", .glo "NoDeed", .glo "NoDeeds", .glo "NoFirm", .glo "NoFraction", .exc "NoFraction", .glo "NoFrame", .glo "NoHolding", .glo "NoInner", .glo "NoLine", .glo "NoLoads", .glo "NoLot", .glo "NoMotions", .glo "NoPiece", .glo "NoPlate"]
def fa2 : List He.Fa := [.glo "NoRest", .glo "NoRounds", .glo "NoRows", .glo "NoStresses", .glo "NoText", .glo "NoThick", .glo "NoTurning", .glo "NoWay", .glo "NoWays", .glo "NoWhole", .exc "NoWhole", .glo "NotHeld", .glo "PlateError", .glo "TooMany"]
def fa : List He.Fa := fa0 ++ fa1 ++ fa2
def ex0 : List (PySem.W.Frag → Bool) := [constB "NOUGHT" (.tuple [(.int 0), (.int 1)]), exTabB exNames "PlateError"]
def ex : List (PySem.W.Frag → Bool) := ex0
def names0 : List PySem.Str := ["PlateError", "NoWhole", "NoFraction", "NoRows", "NoPlate", "NoMotions", "NoLoads", "NoHolding", "NoWays", "NoWay", "NoPiece", "NoStresses", "NoBalance", "NoRest", "NoRounds", "NoFrame", "NoLot", "NoInner", "NoTurning", "NoFirm", "NoThick", "NoDeed", "NoDeeds", "NotHeld", "NoLine", "TooMany", "NoText", "NOUGHT", "is_whole", "divisor"]
def names1 : List PySem.Str := ["is_fraction", "need_whole", "need_fraction", "made_by", "plus_by", "minus_by", "times_by", "over_by", "less_by", "made", "need_two", "plus", "minus", "times", "over", "less", "_law_cell_at", "_law_state", "_law_choice", "_law_low", "_law_fraction", "_law_odd", "_law_marks", "_law_word", "_law_said", "_law_whole", "_law_is_fraction", "_law_bent", "_law_words"]
def names : List PySem.Str := names0 ++ names1
abbrev R : PySem.W.OpenRow := PySem.W.OpenLaw.row PySem.Challenge.rw_platerest_k03_fractions_refused
abbrev hk : PySem.W.Hook := He.hookX 2 fa fn [] _root_.K.tfL (exAll ex _root_.K.tfL)
def ob (s : PySem.W.SharedT) : He.AlX := He.obsX 2 fa fn [] _root_.K.tfL (exAll ex _root_.K.tfL) (HandSHeadRun.getT s)
theorem ob_eq (s : PySem.W.SharedT) : ob s = hk.obs s.abs := He.obsX_eq (HandSHeadRun.getT_eq s)
theorem run (w : World) : HandSHeadRun.RunEq R (PySem.W.view R.prog [62]) hk ob 9000 names w := by
  intro os
  kernel_rfl
end Hd
namespace L
open PySem V ZL
def is_whole (a0 : PyData) : M PyData := V.frame 0 (fin ((andV (pure (isO .int a0)) (notV (pure (isO .bool a0)))) >>= fun x1 => pure (.rt x1)))
def divisor (a0 a1 : PyData) : M PyData := V.frame 0 (fin (((absM a0) >>= fun x8 => (absM a1) >>= fun x9 => (pure (x8, x9))) >>= fun u1 => (V.whileM (fun (t2 : PyData × PyData) => (gtM t2.2 (.int 0))) (fun (t2 : PyData × PyData) => (((((fdivM t2.1 t2.2) >>= fun x4 => (mulM x4 t2.2)) >>= fun x5 => (subM t2.1 x5)) >>= fun x6 => (pure (t2.2, x6))) >>= fun u3 => (pure (.nx (u3.1, u3.2))))) fuel (u1.1, u1.2) >>= flk (fun (t2 : PyData × PyData) => ((pure t2.1) >>= fun x7 => pure (.rt x7))))))
def is_fraction (a0 : PyData) : M PyData := V.frame 0 (fin ((tOr (tNot ((pure (isO .tuple a0)) >>= toB)) (tOr ((lenM a0) >>= fun x6 => (neM x6 (.int 2))) (tNot (((((pure a0) >>= rowM) >>= fun xs2 => (comp pN yep (fun t1 => (sub [] (L.is_whole t1))) xs2) >>= fun ys4 => pure (.list ys4)) >>= fun x5 => (allM x5)) >>= toB)))) >>= fun b7 => bif b7 then ((pure (.bool false)) >>= fun x8 => pure (.rt x8)) else ((andV (ofB ((ixM a0 (.int 1)) >>= fun x12 => (gtM x12 (.int 0)))) (ofB (((ixM a0 (.int 0)) >>= fun x9 => (ixM a0 (.int 1)) >>= fun x10 => (sub [] (L.divisor x9 x10))) >>= fun x11 => (eqM x11 (.int 1))))) >>= fun x13 => pure (.rt x13))))
def need_whole (a0 : PyData) : M PyData := V.frame 0 (fin ((tNot ((sub [] (L.is_whole a0)) >>= toB)) >>= fun b1 => bif b1 then (raise "NoWhole") else (pure (.nx ()))))
def made_by (a0 a1 : PyData) : M PyData := V.frame 0 (fin ((sub [] (L.divisor a0 a1)) >>= fun v1 => ((ltM a1 (.int 0)) >>= fun b2 => (bif b2 then ((negM v1) >>= fun v4 => (pure (.nx v4))) else (pure (.nx v1))) >>= flk (fun (t3 : PyData) => (((fdivM a0 t3) >>= fun x5 => (fdivM a1 t3) >>= fun x6 => (tupK [.d x5, .d x6])) >>= fun x7 => pure (.rt x7))))))
def made (a0 a1 : PyData) : M PyData := V.frame 0 (fin ((sub [] (L.need_whole a0)) >>= fun _u4 => ((sub [] (L.need_whole a1)) >>= fun _u3 => ((eqM a1 (.int 0)) >>= fun b1 => bif b1 then (raise "NoWhole") else ((sub [] (L.made_by a0 a1)) >>= fun x2 => pure (.rt x2))))))
def law_cell_at (a0 a1 : PyData) : M PyData := V.frame 0 (fin (((lenM (.list (unl a0))) >>= fun x1 => (ltM a1 x1)) >>= fun b2 => bif b2 then ((ixM (.list (unl a0)) a1) >>= fun x3 => pure (.rt x3)) else ((pure (.int 0)) >>= fun x4 => pure (.rt x4))))
def law_state (a0 a1 : PyData) : M PyData := V.frame 0 (fin ((sub [] (L.law_cell_at (.list (unl a0)) a1)) >>= fun v1 => (((((powM (.int 10) (.int 18)) >>= fun x2 => (subM v1 x2)) >>= fun x3 => (maxM (.int 0) x3)) >>= fun x4 => ((modM v1 (.int 2147483629)) >>= fun x5 => (addM x5 (.int 1))) >>= fun x6 => (lstN [.d x4, .d x6, .d (.int 0)])) >>= fun xs7 => pure (.rt (.list xs7)))))
def law_choice (a0 : PyData) : M PyData := V.frame 0 (fin (((getC 0 >>= fun xs1 => (ixM (.list xs1) (.int 0))) >>= fun x2 => (gtM x2 (.int 0))) >>= fun b3 => bif b3 then (((getC 0 >>= fun xs5 => (ixM (.list xs5) (.int 0))) >>= fun x6 => (modM x6 a0)) >>= fun v4 => (((getC 0 >>= fun xs7 => (ixM (.list xs7) (.int 0))) >>= fun x8 => (fdivM x8 a0)) >>= fun v10 => (pure (.int 0)) >>= fun x11 => putC 0 x11 v10 >>= fun _ => ((pure v4) >>= fun x9 => pure (.rt x9)))) else (((getC 0 >>= fun xs12 => (ixM (.list xs12) (.int 2))) >>= fun x13 => (addM x13 (.int 1))) >>= fun v40 => (pure (.int 2)) >>= fun x41 => putC 0 x41 v40 >>= fun _ => ((((((getC 0 >>= fun xs14 => (ixM (.list xs14) (.int 1))) >>= fun x15 => (mulM x15 (.int 48271))) >>= fun x16 => (addM x16 (.int 29))) >>= fun x17 => (getC 0 >>= fun xs18 => (ixM (.list xs18) (.int 2))) >>= fun x19 => (addM x17 x19)) >>= fun x20 => (modM x20 (.int 2147483647))) >>= fun v38 => (pure (.int 1)) >>= fun x39 => putC 0 x39 v38 >>= fun _ => ((((((getC 0 >>= fun xs22 => (ixM (.list xs22) (.int 1))) >>= fun x23 => (getC 0 >>= fun xs24 => (ixM (.list xs24) (.int 1))) >>= fun x25 => (mulM x23 x25)) >>= fun x26 => ((getC 0 >>= fun xs27 => (ixM (.list xs27) (.int 1))) >>= fun x28 => (mulM (.int 39373) x28)) >>= fun x29 => (addM x26 x29)) >>= fun x30 => (addM x30 (.int 7))) >>= fun x31 => (modM x31 (.int 2147483629))) >>= fun v21 => ((((mulM v21 v21) >>= fun x33 => (mulM (.int 50021) v21) >>= fun x34 => (addM x33 x34)) >>= fun x35 => (modM x35 (.int 2147483587))) >>= fun v32 => (((fdivM v32 (.int 8)) >>= fun x36 => (modM x36 a0)) >>= fun x37 => pure (.rt x37))))))))
def law_low (a0 a1 : PyData) : M PyData := V.frame 0 (fin (((absM a0) >>= fun x11 => (absM a1) >>= fun x12 => (pure (x11, x12))) >>= fun u1 => (V.whileM (fun (t2 : PyData × PyData) => (gtM t2.2 (.int 0))) (fun (t2 : PyData × PyData) => (((modM t2.1 t2.2) >>= fun x4 => (pure (t2.2, x4))) >>= fun u3 => (pure (.nx (u3.1, u3.2))))) fuel (u1.1, u1.2) >>= flk (fun (t2 : PyData × PyData) => ((((gtM a1 (.int 0)) >>= fun b6 => bif b6 then (fdivM a0 t2.1) else ((fdivM a0 t2.1) >>= fun x5 => (subM (.int 0) x5))) >>= fun x7 => ((absM a1) >>= fun x8 => (fdivM x8 t2.1)) >>= fun x9 => (tupK [.d x7, .d x9])) >>= fun x10 => pure (.rt x10))))))
def law_fraction : M PyData := V.frame 0 (fin (((sub [0] (L.law_choice (.int 19))) >>= fun x2 => (subM x2 (.int 9))) >>= fun v1 => ((sub [0] (L.law_choice (.int 5))) >>= fun v3 => ((ltM v3 (.int 3)) >>= fun b4 => bif b4 then ((((tupK [.d (.int 0), .d (.int 1)]) >>= fun x5 => (tupK [.d (.int 1), .d (.int 1)]) >>= fun x6 => (tupK [.d v1, .d (.int 1)]) >>= fun x7 => (lstK [.d x5, .d x6, .d x7])) >>= fun x8 => (ixM x8 v3)) >>= fun x9 => pure (.rt x9)) else (((((((powM (.int 10) (.int 12)) >>= fun x10 => (addM x10 (.int 7))) >>= fun x11 => (lstK [.d (.int 1), .d x11])) >>= fun x12 => ((ofB ((sub [0] (L.law_choice (.int 9))) >>= fun x13 => (eqM x13 (.int 0)))) >>= fun x14 => (intM x14)) >>= fun x15 => (ixM x12 x15)) >>= fun x16 => (mulM v1 x16)) >>= fun x17 => ((sub [0] (L.law_choice (.int 6))) >>= fun x18 => (addM (.int 1) x18)) >>= fun x19 => (sub [] (L.law_low x17 x19))) >>= fun x20 => pure (.rt x20))))))
def law_same (a0 a1 : PyData) : M PyData := V.frame 0 (fin ((ofB ((reprM a0) >>= fun x1 => (reprM a1) >>= fun x2 => (eqM x1 x2))) >>= fun x3 => pure (.rt x3)))
def law_odd : M PyData := V.frame 0 (fin (((negM (.int 1)) >>= fun x2 => (powM (.int 10) (.int 29)) >>= fun x3 => (tupK []) >>= fun x4 => (lstK []) >>= fun x5 => (pure (.dict [])) >>= fun x6 => (tupK [.d (.int 0), .d (.int 1)]) >>= fun x7 => (tupK [.d (.int 1), .d (.int 1)]) >>= fun x8 => (lstK [.d (.int 0), .d (.int 1)]) >>= fun x9 => (lstK [.d .none, .d (.bool true), .d (.bool false), .d (.int 0), .d (.int 1), .d x2, .d x3, .d (.str ""), .d (.str "a"), .d x4, .d x5, .d x6, .d x7, .d x8, .d x9])) >>= fun v1 => ((((((tupK [.d (.int 0), .d (.int 1)]) >>= fun x10 => (tupK [.d x10])) >>= fun x11 => (tupK [.d (.int 2), .d (.int 4)]) >>= fun x12 => (tupK [.d (.int 1), .d (.int 0)]) >>= fun x13 => (tupK [.d (.int 0), .d (.int 2)]) >>= fun x14 => (tupK [.d (.bool true), .d (.int 1)]) >>= fun x15 => (lstK [.d x11, .d x12, .d x13, .d x14, .d x15])) >>= fun x16 => (addM v1 x16)) >>= fun x17 => (sub [0] (L.law_choice (.int 20))) >>= fun x18 => (ixM x17 x18)) >>= fun x19 => pure (.rt x19))))
def law_whole (a0 : PyData) : M PyData := V.frame 0 (fin ((andV (pure (isO .int a0)) (notV (pure (isO .bool a0)))) >>= fun x1 => pure (.rt x1)))
def law_is_fraction (a0 : PyData) : M PyData := V.frame 0 (fin ((tOr (tNot ((pure (isO .tuple a0)) >>= toB)) (tOr ((lenM a0) >>= fun x6 => (neM x6 (.int 2))) (tNot (((((pure a0) >>= rowM) >>= fun xs2 => (comp pN yep (fun t1 => (sub [] (L.law_whole t1))) xs2) >>= fun ys4 => pure (.list ys4)) >>= fun x5 => (allM x5)) >>= toB)))) >>= fun b7 => bif b7 then ((pure (.bool false)) >>= fun x8 => pure (.rt x8)) else ((andV (ofB ((ixM a0 (.int 1)) >>= fun x12 => (gtM x12 (.int 0)))) (ofB (((ixM a0 (.int 0)) >>= fun x9 => (ixM a0 (.int 1)) >>= fun x10 => (sub [] (L.law_low x9 x10))) >>= fun x11 => (eqM x11 a0)))) >>= fun x13 => pure (.rt x13))))
def law_bent : Nat → PyData → M PyData
  | 0, _ => bad
  | n + 1, a0 => V.frame 1 (fin ((tAnd ((pure (isO .tuple a0)) >>= toB) (tAnd ((tupK []) >>= fun x2 => (neM a0 x2)) ((sub [0] (L.law_choice (.int 5))) >>= fun x1 => (gtM x1 (.int 0))))) >>= fun b3 => bif b3 then (((lenM a0) >>= fun x5 => (sub [0] (L.law_choice x5))) >>= fun v4 => ((((slH a0 v4) >>= fun x6 => (((ixM a0 v4) >>= fun x7 => (sub [0] (law_bent n x7))) >>= fun x8 => (tupK [.d x8])) >>= fun x9 => (addM x6 x9)) >>= fun x10 => ((addM v4 (.int 1)) >>= fun x11 => (slL a0 x11)) >>= fun x12 => (addM x10 x12)) >>= fun x13 => pure (.rt x13))) else ((sub [0] (L.law_choice (.int 9))) >>= fun v14 => ((tAnd ((pure (isO .tuple a0)) >>= toB) (ltM v14 (.int 7))) >>= fun b15 => bif b15 then (((((negM (.int 1)) >>= fun x16 => (slL a0 x16)) >>= fun x17 => (addM a0 x17)) >>= fun x18 => ((negM (.int 1)) >>= fun x19 => (slH a0 x19)) >>= fun x20 => (slL a0 (.int 1)) >>= fun x21 => (revM a0) >>= fun x22 => (listM a0) >>= fun x23 => ((tupK [.d (.int 0)]) >>= fun x24 => (addM a0 x24)) >>= fun x25 => (lstN [.d x18, .d x20, .d x21, .d x22, .d x23, .d x25])) >>= fun xs32 => setC 1 xs32 >>= fun _ => ((getC 1 >>= fun _ => ((tupK [.d a0]) >>= fun x26 => (addM a0 x26)) >>= fun x27 => appC 1 x27) >>= fun _u31 => ((getC 1 >>= fun xs29 => (ixM (.list xs29) v14)) >>= fun x30 => pure (.rt x30)))) else ((tAnd ((sub [] (L.law_whole a0)) >>= toB) (ltM v14 (.int 6))) >>= fun b33 => bif b33 then (((((negM (.int 1)) >>= fun x34 => (negM (.int 101)) >>= fun x35 => (lstK [.d (.int 1), .d x34, .d (.int 2), .d (.int 30), .d x35, .d (.int 5)])) >>= fun x36 => (ixM x36 v14)) >>= fun x37 => (addM a0 x37)) >>= fun x38 => pure (.rt x38)) else ((sub [0] (L.law_odd)) >>= fun x39 => pure (.rt x39)))))))
def need_fraction (a0 : PyData) : M PyData := V.frame 0 (fin ((tNot ((sub [] (L.is_fraction a0)) >>= toB)) >>= fun b1 => bif b1 then (raise "NoFraction") else (pure (.nx ()))))
def plus_by (a0 a1 : PyData) : M PyData := V.frame 0 (fin (((((ixM a0 (.int 0)) >>= fun x1 => (ixM a1 (.int 1)) >>= fun x2 => (mulM x1 x2)) >>= fun x3 => ((ixM a1 (.int 0)) >>= fun x4 => (ixM a0 (.int 1)) >>= fun x5 => (mulM x4 x5)) >>= fun x6 => (addM x3 x6)) >>= fun x7 => ((ixM a0 (.int 1)) >>= fun x8 => (ixM a1 (.int 1)) >>= fun x9 => (mulM x8 x9)) >>= fun x10 => (sub [] (L.made_by x7 x10))) >>= fun x11 => pure (.rt x11)))
def minus_by (a0 a1 : PyData) : M PyData := V.frame 0 (fin (((((ixM a0 (.int 0)) >>= fun x1 => (ixM a1 (.int 1)) >>= fun x2 => (mulM x1 x2)) >>= fun x3 => ((ixM a1 (.int 0)) >>= fun x4 => (ixM a0 (.int 1)) >>= fun x5 => (mulM x4 x5)) >>= fun x6 => (subM x3 x6)) >>= fun x7 => ((ixM a0 (.int 1)) >>= fun x8 => (ixM a1 (.int 1)) >>= fun x9 => (mulM x8 x9)) >>= fun x10 => (sub [] (L.made_by x7 x10))) >>= fun x11 => pure (.rt x11)))
def times_by (a0 a1 : PyData) : M PyData := V.frame 0 (fin ((((ixM a0 (.int 0)) >>= fun x1 => (ixM a1 (.int 0)) >>= fun x2 => (mulM x1 x2)) >>= fun x3 => ((ixM a0 (.int 1)) >>= fun x4 => (ixM a1 (.int 1)) >>= fun x5 => (mulM x4 x5)) >>= fun x6 => (sub [] (L.made_by x3 x6))) >>= fun x7 => pure (.rt x7)))
def over_by (a0 a1 : PyData) : M PyData := V.frame 0 (fin ((((ixM a0 (.int 0)) >>= fun x1 => (ixM a1 (.int 1)) >>= fun x2 => (mulM x1 x2)) >>= fun x3 => ((ixM a0 (.int 1)) >>= fun x4 => (ixM a1 (.int 0)) >>= fun x5 => (mulM x4 x5)) >>= fun x6 => (sub [] (L.made_by x3 x6))) >>= fun x7 => pure (.rt x7)))
def less_by (a0 a1 : PyData) : M PyData := V.frame 0 (fin ((ofB (((ixM a0 (.int 0)) >>= fun x1 => (ixM a1 (.int 1)) >>= fun x2 => (mulM x1 x2)) >>= fun x3 => ((ixM a1 (.int 0)) >>= fun x4 => (ixM a0 (.int 1)) >>= fun x5 => (mulM x4 x5)) >>= fun x6 => (ltM x3 x6))) >>= fun x7 => pure (.rt x7)))
def need_two (a0 a1 : PyData) : M PyData := V.frame 0 (fin ((sub [] (L.need_fraction a0)) >>= fun _u2 => ((sub [] (L.need_fraction a1)) >>= fun _u1 => (pure (.nx ())))))
def plus (a0 a1 : PyData) : M PyData := V.frame 0 (fin ((sub [] (L.need_two a0 a1)) >>= fun _u2 => ((sub [] (L.plus_by a0 a1)) >>= fun x1 => pure (.rt x1))))
def minus (a0 a1 : PyData) : M PyData := V.frame 0 (fin ((sub [] (L.need_two a0 a1)) >>= fun _u2 => ((sub [] (L.minus_by a0 a1)) >>= fun x1 => pure (.rt x1))))
def times (a0 a1 : PyData) : M PyData := V.frame 0 (fin ((sub [] (L.need_two a0 a1)) >>= fun _u2 => ((sub [] (L.times_by a0 a1)) >>= fun x1 => pure (.rt x1))))
def over (a0 a1 : PyData) : M PyData := V.frame 0 (fin ((sub [] (L.need_two a0 a1)) >>= fun _u3 => ((eqM a1 (.tuple [(.int 0), (.int 1)])) >>= fun b1 => bif b1 then (raise "NoFraction") else ((sub [] (L.over_by a0 a1)) >>= fun x2 => pure (.rt x2)))))
def less (a0 a1 : PyData) : M PyData := V.frame 0 (fin ((sub [] (L.need_two a0 a1)) >>= fun _u2 => ((sub [] (L.less_by a0 a1)) >>= fun x1 => pure (.rt x1))))
def is_within (a0 a1 a2 : PyData) : M PyData := V.frame 0 (fin ((andV (sub [] (L.is_whole a0)) (ofB (leM a1 a0 >>= fun b2 => bif b2 then (fun y1 => (leM y1 a2)) a0 else pure false))) >>= fun x3 => pure (.rt x3)))
def is_row_of (a0 a1 : PyData) : M PyData := V.frame 0 (fin ((andV (pure (isO .tuple a1)) (andV (ofB ((lenM a1) >>= fun x6 => (eqM x6 a0))) ((((pure a1) >>= rowM) >>= fun xs2 => (comp pN yep (fun t1 => (sub [] (L.is_fraction t1))) xs2) >>= fun ys4 => pure (.list ys4)) >>= fun x5 => (allM x5)))) >>= fun x7 => pure (.rt x7)))
def is_corner (a0 : PyData) : M PyData := V.frame 0 (fin ((tOr (tNot ((pure (isO .tuple a0)) >>= toB)) ((lenM a0) >>= fun x1 => (neM x1 (.int 2)))) >>= fun b2 => bif b2 then ((pure (.bool false)) >>= fun x3 => pure (.rt x3)) else (((((pure a0) >>= rowM) >>= fun xs5 => (comp pN yep (fun t4 => ((negM (.int 100)) >>= fun x6 => (sub [] (L.is_within t4 x6 (.int 100))))) xs5) >>= fun ys8 => pure (.list ys8)) >>= fun x9 => (allM x9)) >>= fun x10 => pure (.rt x10))))
def turn_of (a0 a1 a2 : PyData) : M PyData := V.frame 0 (fin (((((ixM a1 (.int 0)) >>= fun x1 => (ixM a0 (.int 0)) >>= fun x2 => (subM x1 x2)) >>= fun x3 => ((ixM a2 (.int 1)) >>= fun x4 => (ixM a0 (.int 1)) >>= fun x5 => (subM x4 x5)) >>= fun x6 => (mulM x3 x6)) >>= fun x7 => (((ixM a2 (.int 0)) >>= fun x8 => (ixM a0 (.int 0)) >>= fun x9 => (subM x8 x9)) >>= fun x10 => ((ixM a1 (.int 1)) >>= fun x11 => (ixM a0 (.int 1)) >>= fun x12 => (subM x11 x12)) >>= fun x13 => (mulM x10 x13)) >>= fun x14 => (subM x7 x14)) >>= fun x15 => pure (.rt x15)))
def sign_of (a0 : PyData) : M PyData := V.frame 0 (fin ((((ofB (gtM a0 (.int 0))) >>= fun x1 => (intM x1)) >>= fun x2 => ((ofB (ltM a0 (.int 0))) >>= fun x3 => (intM x3)) >>= fun x4 => (subM x2 x4)) >>= fun x5 => pure (.rt x5)))
def lies_in (a0 a1 a2 : PyData) : M PyData := V.frame 1 (fin ((((pure a1) >>= rowM) >>= fun xs2 => (comp pN yep (fun t1 => (ixM a0 t1)) xs2) >>= fun ys4 => pure (.list ys4)) >>= fun v6 => ofO ((pQ3 pN pN pN) v6) >>= fun u5 => ((ixM a0 a2) >>= fun v7 => ((((sub [] (L.turn_of u5.1 u5.2.1 v7)) >>= fun x8 => (sub [] (L.sign_of x8))) >>= fun x9 => ((sub [] (L.turn_of u5.2.1 u5.2.2 v7)) >>= fun x10 => (sub [] (L.sign_of x10))) >>= fun x11 => (lstN [.d x9, .d x11])) >>= fun xs20 => setC 0 xs20 >>= fun _ => ((getC 0 >>= fun _ => ((sub [] (L.turn_of u5.2.2 u5.1 v7)) >>= fun x12 => (sub [] (L.sign_of x12))) >>= fun x13 => appC 0 x13) >>= fun _u19 => ((notV (andV (ofB ((negM (.int 1)) >>= fun x16 => (getC 0 >>= fun xs17 => (inM false x16 (.list xs17))))) (ofB (getC 0 >>= fun xs15 => (inM false (.int 1) (.list xs15)))))) >>= fun x18 => pure (.rt x18)))))))
def sides_in (a0 : PyData) : M PyData := V.frame 0 (fin ((pure a0) >>= fun v2 => ofO ((pQ3 pN pN pN) v2) >>= fun u1 => (((tupK [.d u1.1, .d u1.2.1]) >>= fun x3 => (tupK [.d u1.1, .d u1.2.2]) >>= fun x4 => (tupK [.d u1.2.1, .d u1.2.2]) >>= fun x5 => (lstK [.d x3, .d x4, .d x5])) >>= fun x6 => pure (.rt x6))))
def are_crossing (a0 a1 a2 : PyData) : M PyData := V.frame 0 (fin ((((pure a1) >>= rowM) >>= fun xs2 => (comp pN yep (fun t1 => (ixM a0 t1)) xs2) >>= fun ys4 => pure (.list ys4)) >>= fun v6 => ofO ((pQ2 pN pN) v6) >>= fun u5 => ((((pure a2) >>= rowM) >>= fun xs8 => (comp pN yep (fun t7 => (ixM a0 t7)) xs8) >>= fun ys10 => pure (.list ys10)) >>= fun v12 => ofO ((pQ2 pN pN) v12) >>= fun u11 => (((((sub [] (L.turn_of u5.1 u5.2 u11.1)) >>= fun x13 => (sub [] (L.sign_of x13))) >>= fun x14 => ((sub [] (L.turn_of u5.1 u5.2 u11.2)) >>= fun x15 => (sub [] (L.sign_of x15))) >>= fun x16 => (mulM x14 x16)) >>= fun x17 => (negM (.int 1)) >>= fun x18 => (neM x17 x18)) >>= fun b19 => bif b19 then ((pure (.bool false)) >>= fun x20 => pure (.rt x20)) else ((ofB ((((sub [] (L.turn_of u11.1 u11.2 u5.1)) >>= fun x21 => (sub [] (L.sign_of x21))) >>= fun x22 => ((sub [] (L.turn_of u11.1 u11.2 u5.2)) >>= fun x23 => (sub [] (L.sign_of x23))) >>= fun x24 => (mulM x22 x24)) >>= fun x25 => (negM (.int 1)) >>= fun x26 => (eqM x25 x26))) >>= fun x27 => pure (.rt x27))))))
def are_thicks (a0 a1 : PyData) : M PyData := V.frame 0 (fin ((tOr (tNot ((pure (isO .tuple a1)) >>= toB)) ((lenM a1) >>= fun x1 => (neM x1 a0))) >>= fun b2 => bif b2 then ((pure (.bool false)) >>= fun x3 => pure (.rt x3)) else (((((pure a1) >>= rowM) >>= fun xs5 => (comp pN yep (fun t4 => (sub [] (L.is_within t4 (.int 1) (.int 9)))) xs5) >>= fun ys7 => pure (.list ys7)) >>= fun x8 => (allM x8)) >>= fun x9 => pure (.rt x9))))
def is_stuff (a0 : PyData) : M PyData := V.frame 0 (fin ((tOr (tNot ((pure (isO .tuple a0)) >>= toB)) ((lenM a0) >>= fun x1 => (neM x1 (.int 2)))) >>= fun b2 => bif b2 then ((pure (.bool false)) >>= fun x3 => pure (.rt x3)) else ((andV ((ixM a0 (.int 0)) >>= fun x5 => (sub [] (L.is_within x5 (.int 0) (.int 9)))) ((ixM a0 (.int 1)) >>= fun x4 => (sub [] (L.is_within x4 (.int 1) (.int 9))))) >>= fun x6 => pure (.rt x6))))
def ways_in (a0 : PyData) : M PyData := V.frame 0 (fin ((((ixM a0 (.int 0)) >>= fun x1 => (lenM x1)) >>= fun x2 => (mulM (.int 2) x2)) >>= fun x3 => pure (.rt x3)))
def need_motions (a0 a1 : PyData) : M PyData := V.frame 0 (fin ((tNot (((sub [] (L.ways_in a0)) >>= fun x1 => (sub [] (L.is_row_of x1 a1))) >>= toB)) >>= fun b2 => bif b2 then (raise "NoMotions") else (pure (.nx ()))))
def doubled (a0 : PyData) : M PyData := V.frame 0 (fin ((pure a0) >>= fun v2 => ofO ((pQ3 pN pN pN) v2) >>= fun u1 => (((((ixM u1.2.1 (.int 0)) >>= fun x3 => (ixM u1.1 (.int 0)) >>= fun x4 => (subM x3 x4)) >>= fun x5 => ((ixM u1.2.2 (.int 1)) >>= fun x6 => (ixM u1.1 (.int 1)) >>= fun x7 => (subM x6 x7)) >>= fun x8 => (mulM x5 x8)) >>= fun x9 => (((ixM u1.2.2 (.int 0)) >>= fun x10 => (ixM u1.1 (.int 0)) >>= fun x11 => (subM x10 x11)) >>= fun x12 => ((ixM u1.2.1 (.int 1)) >>= fun x13 => (ixM u1.1 (.int 1)) >>= fun x14 => (subM x13 x14)) >>= fun x15 => (mulM x12 x15)) >>= fun x16 => (subM x9 x16)) >>= fun x17 => pure (.rt x17))))
def slopes_of (a0 a1 : PyData) : M PyData := V.frame 1 (fin ((pure a0) >>= fun v2 => ofO ((pS2 pN pN pN) v2) >>= fun u1 => ((((ixM u1.2.1 a1) >>= rowM) >>= fun xs5 => (comp pN yep (fun t4 => (ixM u1.1 t4)) xs5) >>= fun ys31 => pure (.list ys31)) >>= fun v3 => ((sub [] (L.doubled v3)) >>= fun v6 => (lstN []) >>= fun ys30 => setC 0 ys30 >>= fun _ => (((pure (.tuple [(.tuple [(.int 0), (.int 1), (.int 2)]), (.tuple [(.int 1), (.int 2), (.int 0)]), (.tuple [(.int 2), (.int 0), (.int 1)])])) >>= rowM) >>= fun xs9 => V.forM (pT3 pN pN pN) (fun u8 (t7 : Unit) => (((((ixM v3 u8.2.1) >>= fun x18 => (ixM x18 (.int 1))) >>= fun x19 => ((ixM v3 u8.2.2) >>= fun x20 => (ixM x20 (.int 1))) >>= fun x21 => (subM x19 x21)) >>= fun x22 => (((ixM v3 u8.2.2) >>= fun x23 => (ixM x23 (.int 0))) >>= fun x24 => ((ixM v3 u8.2.1) >>= fun x25 => (ixM x25 (.int 0))) >>= fun x26 => (subM x24 x26)) >>= fun x27 => (pure (x22, x27))) >>= fun u10 => ((getC 0 >>= fun _ => (((ixM u1.2.1 a1) >>= fun x11 => (ixM x11 u8.1)) >>= fun x12 => (sub [] (L.made_by u10.1 v6)) >>= fun x13 => (sub [] (L.made_by u10.2 v6)) >>= fun x14 => (tupK [.d x12, .d x13, .d x14])) >>= fun x15 => appC 0 x15) >>= fun _u17 => (pure (.nx ()))))) xs9 () >>= flk (fun (t7 : Unit) => (lockC 0 >>= fun xs28 => ((pure (.list xs28)) >>= fun x29 => pure (.rt x29)))))))))
def strain_by (a0 a1 a2 : PyData) : M PyData := V.frame 0 (fin ((pure ((.tuple [(.int 0), (.int 1)]), (.tuple [(.int 0), (.int 1)]), (.tuple [(.int 0), (.int 1)]))) >>= fun u1 => (((sub [] (L.slopes_of a0 a2)) >>= rowM) >>= fun xs4 => V.forM (pT3 pN pN pN) (fun u3 (t2 : PyData × PyData × PyData) => ((((mulM (.int 2) u3.1) >>= fun x15 => (ixM a1 x15)) >>= fun x16 => (((mulM (.int 2) u3.1) >>= fun x17 => (addM x17 (.int 1))) >>= fun x18 => (ixM a1 x18)) >>= fun x19 => (pure (x16, x19))) >>= fun u5 => ((((sub [] (L.times_by u3.2.1 u5.1)) >>= fun x11 => (sub [] (L.plus_by t2.1 x11))) >>= fun x12 => ((sub [] (L.times_by u3.2.2 u5.2)) >>= fun x13 => (sub [] (L.plus_by t2.2.1 x13))) >>= fun x14 => (pure (x12, x14))) >>= fun u6 => ((((sub [] (L.times_by u3.2.2 u5.1)) >>= fun x8 => (sub [] (L.times_by u3.2.1 u5.2)) >>= fun x9 => (sub [] (L.plus_by x8 x9))) >>= fun x10 => (sub [] (L.plus_by t2.2.2 x10))) >>= fun v7 => (pure (.nx (u6.1, u6.2, v7))))))) xs4 (u1.1, u1.2.1, u1.2.2) >>= flk (fun (t2 : PyData × PyData × PyData) => ((tupK [.d t2.1, .d t2.2.1, .d t2.2.2]) >>= fun x20 => pure (.rt x20))))))
def stress_to (a0 a1 : PyData) : M PyData := V.frame 0 (fin (((ixM a0 (.int 3)) >>= fun x1 => (tupK [.d a1, .d x1])) >>= fun v3 => ofO ((pQ2 (pQ3 pN pN pN) (pQ2 pN pN)) v3) >>= fun u2 => (((tupK [.d u2.2.1, .d (.int 1)]) >>= fun x5 => (sub [] (L.plus_by u2.1.1 u2.1.2.1)) >>= fun x6 => (sub [] (L.times_by x5 x6))) >>= fun v4 => ((((((mulM (.int 2) u2.2.2) >>= fun x7 => (tupK [.d x7, .d (.int 1)])) >>= fun x8 => (sub [] (L.times_by x8 u2.1.1))) >>= fun x9 => (sub [] (L.plus_by v4 x9))) >>= fun x10 => ((((mulM (.int 2) u2.2.2) >>= fun x11 => (tupK [.d x11, .d (.int 1)])) >>= fun x12 => (sub [] (L.times_by x12 u2.1.2.1))) >>= fun x13 => (sub [] (L.plus_by v4 x13))) >>= fun x14 => ((tupK [.d u2.2.2, .d (.int 1)]) >>= fun x15 => (sub [] (L.times_by x15 u2.1.2.2))) >>= fun x16 => (tupK [.d x10, .d x14, .d x16])) >>= fun x17 => pure (.rt x17)))))
def stress_by (a0 a1 a2 : PyData) : M PyData := V.frame 0 (fin (((sub [] (L.strain_by a0 a1 a2)) >>= fun x1 => (sub [] (L.stress_to a0 x1))) >>= fun x2 => pure (.rt x2)))
def law_order (a0 : PyData) : M PyData := V.frame 2 (fin ((rgN (.int 0) a0) >>= fun xs12 => setC 1 xs12 >>= fun _ => (lstN []) >>= fun ys13 => setC 2 ys13 >>= fun _ => (V.whileM (fun (t1 : Unit) => ((lstK []) >>= fun x2 => (getC 1 >>= fun xs3 => (bif true then neM (.list xs3) x2 else eqM (.list xs3) x2)))) (fun (t1 : Unit) => ((getC 2 >>= fun _ => (getC 1 >>= fun _ => ((getC 1 >>= fun xs4 => (lenM (.list xs4))) >>= fun x5 => (sub [0] (L.law_choice x5))) >>= fun x6 => popC 1 x6) >>= fun x7 => appC 2 x7) >>= fun _u9 => (pure (.nx ())))) fuel () >>= flk (fun (t1 : Unit) => (lockC 2 >>= fun xs10 => ((pure (.list xs10)) >>= fun x11 => pure (.rt x11)))))))
def law_shapes : M PyData := V.frame 0 (fin ((((tupK [.d (.int 0), .d (.int 0)]) >>= fun x2 => (tupK [.d (.int 2), .d (.int 0)]) >>= fun x3 => (tupK [.d (.int 0), .d (.int 3)]) >>= fun x4 => (tupK [.d x2, .d x3, .d x4])) >>= fun x5 => ((tupK [.d (.int 0), .d (.int 1), .d (.int 2)]) >>= fun x6 => (tupK [.d x6])) >>= fun x7 => (tupK [.d x5, .d x7])) >>= fun v1 => ((((tupK [.d (.int 0), .d (.int 0)]) >>= fun x9 => (tupK [.d (.int 3), .d (.int 0)]) >>= fun x10 => (tupK [.d (.int 3), .d (.int 2)]) >>= fun x11 => (tupK [.d (.int 0), .d (.int 2)]) >>= fun x12 => (tupK [.d x9, .d x10, .d x11, .d x12])) >>= fun x13 => ((tupK [.d (.int 0), .d (.int 1), .d (.int 2)]) >>= fun x14 => (tupK [.d (.int 0), .d (.int 2), .d (.int 3)]) >>= fun x15 => (tupK [.d x14, .d x15])) >>= fun x16 => (tupK [.d x13, .d x16])) >>= fun v8 => ((((tupK [.d (.int 0), .d (.int 0)]) >>= fun x18 => (tupK [.d (.int 6), .d (.int 0)]) >>= fun x19 => (tupK [.d (.int 0), .d (.int 6)]) >>= fun x20 => (tupK [.d (.int 2), .d (.int 1)]) >>= fun x21 => (tupK [.d x18, .d x19, .d x20, .d x21])) >>= fun x22 => ((tupK [.d (.int 0), .d (.int 1), .d (.int 3)]) >>= fun x23 => (tupK [.d (.int 0), .d (.int 2), .d (.int 3)]) >>= fun x24 => (tupK [.d (.int 1), .d (.int 2), .d (.int 3)]) >>= fun x25 => (tupK [.d x23, .d x24, .d x25])) >>= fun x26 => (tupK [.d x22, .d x26])) >>= fun v17 => ((((tupK [.d (.int 0), .d (.int 0)]) >>= fun x28 => (tupK [.d (.int 2), .d (.int 1)]) >>= fun x29 => ((negM (.int 1)) >>= fun x30 => (tupK [.d (.int 2), .d x30])) >>= fun x31 => ((negM (.int 2)) >>= fun x32 => (tupK [.d x32, .d (.int 1)])) >>= fun x33 => ((negM (.int 3)) >>= fun x34 => (negM (.int 1)) >>= fun x35 => (tupK [.d x34, .d x35])) >>= fun x36 => (tupK [.d x28, .d x29, .d x31, .d x33, .d x36])) >>= fun x37 => ((tupK [.d (.int 0), .d (.int 1), .d (.int 2)]) >>= fun x38 => (tupK [.d (.int 0), .d (.int 3), .d (.int 4)]) >>= fun x39 => (tupK [.d x38, .d x39])) >>= fun x40 => (tupK [.d x37, .d x40])) >>= fun v27 => ((((tupK [.d (.int 0), .d (.int 0)]) >>= fun x42 => (tupK [.d (.int 2), .d (.int 0)]) >>= fun x43 => (tupK [.d (.int 0), .d (.int 2)]) >>= fun x44 => (tupK [.d (.int 4), .d (.int 0)]) >>= fun x45 => (tupK [.d (.int 6), .d (.int 1)]) >>= fun x46 => (tupK [.d (.int 4), .d (.int 3)]) >>= fun x47 => (tupK [.d x42, .d x43, .d x44, .d x45, .d x46, .d x47])) >>= fun x48 => ((tupK [.d (.int 0), .d (.int 1), .d (.int 2)]) >>= fun x49 => (tupK [.d (.int 3), .d (.int 4), .d (.int 5)]) >>= fun x50 => (tupK [.d x49, .d x50])) >>= fun x51 => (tupK [.d x48, .d x51])) >>= fun v41 => ((((tupK [.d (.int 0), .d (.int 0)]) >>= fun x53 => (tupK [.d (.int 0), .d (.int 2)]) >>= fun x54 => (tupK [.d (.int 2), .d (.int 0)]) >>= fun x55 => (tupK [.d (.int 3), .d (.int 2)]) >>= fun x56 => (tupK [.d (.int 5), .d (.int 0)]) >>= fun x57 => (tupK [.d x53, .d x54, .d x55, .d x56, .d x57])) >>= fun x58 => ((tupK [.d (.int 0), .d (.int 1), .d (.int 2)]) >>= fun x59 => (tupK [.d (.int 1), .d (.int 2), .d (.int 3)]) >>= fun x60 => (tupK [.d (.int 2), .d (.int 3), .d (.int 4)]) >>= fun x61 => (tupK [.d x59, .d x60, .d x61])) >>= fun x62 => (tupK [.d x58, .d x62])) >>= fun v52 => ((((tupK [.d (.int 0), .d (.int 0)]) >>= fun x64 => (tupK [.d (.int 2), .d (.int 0)]) >>= fun x65 => (tupK [.d (.int 0), .d (.int 3)]) >>= fun x66 => ((negM (.int 2)) >>= fun x67 => (tupK [.d x67, .d (.int 0)])) >>= fun x68 => ((negM (.int 1)) >>= fun x69 => (tupK [.d (.int 0), .d x69])) >>= fun x70 => (tupK [.d x64, .d x65, .d x66, .d x68, .d x70])) >>= fun x71 => ((tupK [.d (.int 0), .d (.int 1), .d (.int 2)]) >>= fun x72 => (tupK [.d (.int 0), .d (.int 2), .d (.int 3)]) >>= fun x73 => (tupK [.d (.int 0), .d (.int 3), .d (.int 4)]) >>= fun x74 => (tupK [.d (.int 0), .d (.int 1), .d (.int 4)]) >>= fun x75 => (tupK [.d x72, .d x73, .d x74, .d x75])) >>= fun x76 => (tupK [.d x71, .d x76])) >>= fun v63 => ((((tupK [.d (.int 0), .d (.int 0)]) >>= fun x78 => (tupK [.d (.int 1), .d (.int 2)]) >>= fun x79 => (tupK [.d (.int 2), .d (.int 0)]) >>= fun x80 => (tupK [.d (.int 3), .d (.int 2)]) >>= fun x81 => (tupK [.d (.int 4), .d (.int 0)]) >>= fun x82 => (tupK [.d (.int 5), .d (.int 3)]) >>= fun x83 => (tupK [.d x78, .d x79, .d x80, .d x81, .d x82, .d x83])) >>= fun x84 => ((tupK [.d (.int 0), .d (.int 1), .d (.int 2)]) >>= fun x85 => (tupK [.d (.int 2), .d (.int 3), .d (.int 4)]) >>= fun x86 => (tupK [.d (.int 3), .d (.int 4), .d (.int 5)]) >>= fun x87 => (tupK [.d x85, .d x86, .d x87])) >>= fun x88 => (tupK [.d x84, .d x88])) >>= fun v77 => ((lstK [.d v1, .d v8, .d v27, .d v41, .d v17, .d v52, .d v77, .d v63]) >>= fun x89 => pure (.rt x89)))))))))))
def law_row (a0 : PyData) : M PyData := V.frame 0 (fin ((((rangeM (.int 0) a0) >>= fun xs2 => (comp pN yep (fun t1 => (sub [0] (L.law_fraction))) xs2) >>= fun ys4 => pure (.list ys4)) >>= fun x5 => (tupleM x5)) >>= fun x6 => pure (.rt x6)))
def law_plate (a0 : PyData) : M PyData := V.frame 1 (fin ((((sub [] (L.law_shapes))) >>= fun x1 => (sub [0] (L.law_choice a0)) >>= fun x2 => (ixM x1 x2)) >>= fun v4 => ofO ((pQ2 pN pN) v4) >>= fun u3 => ((((sub [0] (L.law_choice (.int 3))) >>= fun x6 => (addM (.int 1) x6)) >>= fun x7 => ((sub [0] (L.law_choice (.int 5))) >>= fun x8 => (subM x8 (.int 2))) >>= fun x9 => ((sub [0] (L.law_choice (.int 5))) >>= fun x10 => (subM x10 (.int 2))) >>= fun x11 => (pure (x7, x9, x11))) >>= fun u5 => ((((sub [0] (L.law_choice (.int 7))) >>= fun x13 => (subM x13 (.int 3))) >>= fun x14 => ((sub [0] (L.law_choice (.int 41))) >>= fun x15 => (subM x15 (.int 20))) >>= fun x16 => ((sub [0] (L.law_choice (.int 9))) >>= fun x17 => (subM x17 (.int 4))) >>= fun x18 => (pure (x14, x16, x18))) >>= fun u12 => (((mulM u5.1 u12.1) >>= fun x19 => (mulM u5.2.1 u5.2.2) >>= fun x20 => (eqM x19 x20)) >>= fun b21 => (bif b21 then ((tupK [.d (.int 1), .d u5.2.1, .d (.int 0), .d (.int 1)]) >>= fun v24 => ofO ((pQ4 pN pN pN pN) v24) >>= fun u23 => (pure (.nx (u23.1, u23.2.1, u23.2.2.1, u23.2.2.2)))) else (pure (.nx (u5.1, u5.2.1, u5.2.2, u12.1)))) >>= flk (fun (t22 : PyData × PyData × PyData × PyData) => (((lenM u3.1) >>= fun x26 => (sub [0] (L.law_order x26))) >>= fun v25 => ((((tupK [.d (.int 0), .d (.int 0)]) >>= fun x27 => (lstK [.d x27])) >>= fun x28 => (lenM u3.1) >>= fun x29 => (repN x28 x29)) >>= fun xs73 => setC 1 xs73 >>= fun _ => ((enumM u3.1) >>= fun xs32 => V.forM (pT2 pN (pT2 pN pN)) (fun u31 (t30 : Unit) => (((((mulM t22.1 u31.2.1) >>= fun x33 => (mulM t22.2.1 u31.2.2) >>= fun x34 => (addM x33 x34)) >>= fun x35 => (addM x35 u12.2.1)) >>= fun x36 => (((mulM t22.2.2.1 u31.2.1) >>= fun x37 => (mulM t22.2.2.2 u31.2.2) >>= fun x38 => (addM x37 x38)) >>= fun x39 => (addM x39 u12.2.2)) >>= fun x40 => (tupK [.d x36, .d x40])) >>= fun v41 => (ixM v25 u31.1) >>= fun x42 => putC 1 x42 v41 >>= fun _ => (pure (.nx ())))) xs32 () >>= flk (fun (t30 : Unit) => (((((pure u3.2) >>= rowM) >>= fun xs45 => (comp pN yep (fun t44 => (((((pure t44) >>= rowM) >>= fun xs47 => (comp pN yep (fun t46 => (ixM v25 t46)) xs47) >>= fun ys49 => pure (.list ys49)) >>= fun x50 => (sortedM x50)) >>= fun x51 => (tupleM x51))) xs45) >>= fun ys53 => pure (.list ys53)) >>= fun x54 => (sortedM x54)) >>= fun v43 => (((((pure v43) >>= rowM) >>= fun xs57 => (comp pN yep (fun t56 => ((((lstK [.d (.int 9), .d (.int 2)]) >>= fun x58 => (sub [0] (L.law_choice (.int 2))) >>= fun x59 => (ixM x58 x59)) >>= fun x60 => (sub [0] (L.law_choice x60))) >>= fun x61 => (addM (.int 1) x61))) xs57) >>= fun ys63 => pure (.list ys63)) >>= fun x64 => (tupleM x64)) >>= fun v55 => (((getC 1 >>= fun xs65 => (tupleM (.list xs65))) >>= fun x66 => (tupleM v43) >>= fun x67 => ((sub [0] (L.law_choice (.int 10))) >>= fun x68 => ((sub [0] (L.law_choice (.int 9))) >>= fun x69 => (addM (.int 1) x69)) >>= fun x70 => (tupK [.d x68, .d x70])) >>= fun x71 => (tupK [.d x66, .d x67, .d v55, .d x71])) >>= fun x72 => pure (.rt x72))))))))))))))
def rises2 (a0 : PyData) : M PyData := V.frame 0 (fin (((((slL a0 (.int 1)) >>= fun x1 => (zipM a0 x1)) >>= fun xs3 => (comp (pT2 pN pN) yep (fun t2 => (ofB (ltM2 t2.1 t2.2))) xs3) >>= fun ys5 => pure (.list ys5)) >>= fun x6 => (allM x6)) >>= fun x7 => pure (.rt x7)))
def is_piece2 (a0 a1 : PyData) : M PyData := V.frame 0 (fin ((tOr (tNot ((pure (isO .tuple a1)) >>= toB)) ((lenM a1) >>= fun x1 => (neM x1 (.int 3)))) >>= fun b2 => bif b2 then ((pure (.bool false)) >>= fun x3 => pure (.rt x3)) else ((tOr (tNot (((((pure a1) >>= rowM) >>= fun xs5 => (comp pN yep (fun t4 => (((lenM a0) >>= fun x6 => (subM x6 (.int 1))) >>= fun x7 => (sub [] (L.is_within t4 (.int 0) x7)))) xs5) >>= fun ys9 => pure (.list ys9)) >>= fun x10 => (allM x10)) >>= toB)) (tNot ((sub [] (L.rises2 a1)) >>= toB))) >>= fun b11 => bif b11 then ((pure (.bool false)) >>= fun x12 => pure (.rt x12)) else ((((pure a1) >>= rowM) >>= fun xs14 => (comp pN yep (fun t13 => (ixM a0 t13)) xs14) >>= fun ys16 => pure (.list ys16)) >>= fun v18 => ofO ((pQ3 pN pN pN) v18) >>= fun u17 => ((ofB ((sub [] (L.turn_of u17.1 u17.2.1 u17.2.2)) >>= fun x19 => (neM x19 (.int 0)))) >>= fun x20 => pure (.rt x20))))))
def are_apart (a0 a1 : PyData) : M PyData := V.frame 0 (fin (((pure a1) >>= rowM) >>= fun xs3 => V.forM pN (fun u2 (t1 : Unit) => ((((((lenM a0) >>= fun x4 => (rangeM (.int 0) x4)) >>= fun xs6 => (comp pN (fun t5 => (inM true t5 u2)) (fun t5 => (sub [] (L.lies_in a0 u2 t5))) xs6) >>= fun ys8 => pure (.list ys8)) >>= fun x9 => (anyM x9)) >>= toB) >>= fun b10 => bif b10 then ((pure (.bool false)) >>= fun x11 => pure (.rt x11)) else (pure (.nx ())))) xs3 () >>= flk (fun (t1 : Unit) => ((((pure a1) >>= rowM) >>= fun xs14 => (comps pN yep (fun t13 => ((sub [] (L.sides_in t13)) >>= rowM) >>= fun xs16 => (comps pN yep (fun t15 => one1 (pure t15)) xs16)) xs14) >>= fun es17 => setSortM es17) >>= fun v12 => ((notV (((enumM v12) >>= fun xs19 => (comps (pT2 pN pN) yep (fun t18 => ((slH v12 t18.1) >>= rowM) >>= fun xs21 => (comps pN yep (fun t20 => one1 (sub [] (L.are_crossing a0 t18.2 t20))) xs21)) xs19) >>= fun es22 => shortM es22) >>= fun x23 => (anyM x23))) >>= fun x24 => pure (.rt x24))))))
def are_corners (a0 : PyData) : M PyData := V.frame 0 (fin ((tOr (tNot ((pure (isO .tuple a0)) >>= toB)) (tNot ((lenM a0) >>= fun x2 => (leM (.int 3) x2 >>= fun b3 => bif b3 then (fun y1 => (leM y1 (.int 30))) x2 else pure false)))) >>= fun b4 => bif b4 then ((pure (.bool false)) >>= fun x5 => pure (.rt x5)) else ((andV ((((pure a0) >>= rowM) >>= fun xs11 => (comp pN yep (fun t10 => (sub [] (L.is_corner t10))) xs11) >>= fun ys13 => pure (.list ys13)) >>= fun x14 => (allM x14)) (ofB (((pure a0) >>= rowM >>= fun es6 => setOfM es6 >>= fun es7 => setLenM es7) >>= fun x8 => (lenM a0) >>= fun x9 => (eqM x8 x9)))) >>= fun x15 => pure (.rt x15))))
def are_pieces2 (a0 a1 : PyData) : M PyData := V.frame 0 (fin ((tOr (tNot ((pure (isO .tuple a1)) >>= toB)) (tNot ((lenM a1) >>= fun x2 => (leM (.int 1) x2 >>= fun b3 => bif b3 then (fun y1 => (leM y1 (.int 40))) x2 else pure false)))) >>= fun b4 => bif b4 then ((pure (.bool false)) >>= fun x5 => pure (.rt x5)) else ((andV ((((pure a1) >>= rowM) >>= fun xs7 => (comp pN yep (fun t6 => (sub [] (L.is_piece2 a0 t6))) xs7) >>= fun ys9 => pure (.list ys9)) >>= fun x10 => (allM x10)) (sub [] (L.rises2 a1))) >>= fun x11 => pure (.rt x11))))
def is_plate (a0 : PyData) : M PyData := V.frame 0 (fin ((tOr (tNot ((pure (isO .tuple a0)) >>= toB)) ((lenM a0) >>= fun x1 => (neM x1 (.int 4)))) >>= fun b2 => bif b2 then ((pure (.bool false)) >>= fun x3 => pure (.rt x3)) else ((pure a0) >>= fun v5 => ofO ((pQ4 pN pN pN pN) v5) >>= fun u4 => ((tOr (tNot ((sub [] (L.are_corners u4.1)) >>= toB)) (tNot ((sub [] (L.are_pieces2 u4.1 u4.2.1)) >>= toB))) >>= fun b6 => bif b6 then ((pure (.bool false)) >>= fun x7 => pure (.rt x7)) else ((tOr (tNot (((lenM u4.2.1) >>= fun x8 => (sub [] (L.are_thicks x8 u4.2.2.1))) >>= toB)) (tNot ((sub [] (L.is_stuff u4.2.2.2)) >>= toB))) >>= fun b9 => bif b9 then ((pure (.bool false)) >>= fun x10 => pure (.rt x10)) else ((((pure u4.2.1) >>= rowM) >>= fun xs13 => (comps pN yep (fun t12 => ((pure t12) >>= rowM) >>= fun xs15 => (comps pN yep (fun t14 => one1 (pure t14)) xs15)) xs13) >>= fun es16 => setSortM es16) >>= fun v11 => ((andV (ofB (((lenM u4.1) >>= fun x17 => (rgL (.int 0) x17)) >>= fun x18 => (eqM v11 x18))) (sub [] (L.are_apart u4.1 u4.2.1))) >>= fun x19 => pure (.rt x19))))))))
def need_plate (a0 : PyData) : M PyData := V.frame 0 (fin ((tNot ((sub [] (L.is_plate a0)) >>= toB)) >>= fun b1 => bif b1 then (raise "NoPlate") else (pure (.nx ()))))
def stresses_by (a0 a1 : PyData) : M PyData := V.frame 0 (fin ((((((ixM a0 (.int 1)) >>= fun x1 => (lenM x1)) >>= fun x2 => (rangeM (.int 0) x2)) >>= fun xs4 => (comp pN yep (fun t3 => (sub [] (L.stress_by a0 a1 t3))) xs4) >>= fun ys6 => pure (.list ys6)) >>= fun x7 => (tupleM x7)) >>= fun x8 => pure (.rt x8)))
def stresses (a0 a1 : PyData) : M PyData := V.frame 0 (fin ((sub [] (L.need_plate a0)) >>= fun _u3 => ((sub [] (L.need_motions a0 a1)) >>= fun _u2 => ((sub [] (L.stresses_by a0 a1)) >>= fun x1 => pure (.rt x1)))))
def law_marks2 (n : Str) : M PyData := V.frame 1 (fin (((isxM n "NoBalance") >>= fun x1 => (isxM n "NoDeed") >>= fun x2 => (isxM n "NoDeeds") >>= fun x3 => (isxM n "NoFirm") >>= fun x4 => (lstN [.d x1, .d x2, .d x3, .d x4])) >>= fun xs53 => setC 0 xs53 >>= fun _ => ((((isxM n "NoFraction") >>= fun x5 => (isxM n "NoFrame") >>= fun x6 => (isxM n "NoHolding") >>= fun x7 => (lstK [.d x5, .d x6, .d x7])) >>= fun x8 => (getC 0 >>= fun xs9 => (catN (.list xs9) x8))) >>= fun xs52 => setC 0 xs52 >>= fun _ => ((((isxM n "NoInner") >>= fun x10 => (isxM n "NoLine") >>= fun x11 => (isxM n "NoLoads") >>= fun x12 => (lstK [.d x10, .d x11, .d x12])) >>= fun x13 => (getC 0 >>= fun xs14 => (catN (.list xs14) x13))) >>= fun xs51 => setC 0 xs51 >>= fun _ => ((getC 0 >>= fun _ => (isxM n "NoLot") >>= fun x15 => appC 0 x15) >>= fun _u50 => ((((isxM n "NoMotions") >>= fun x17 => (isxM n "NoPiece") >>= fun x18 => (isxM n "NoPlate") >>= fun x19 => (lstK [.d x17, .d x18, .d x19])) >>= fun x20 => (getC 0 >>= fun xs21 => (catN (.list xs21) x20))) >>= fun xs49 => setC 0 xs49 >>= fun _ => ((getC 0 >>= fun _ => (isxM n "NoRest") >>= fun x22 => appC 0 x22) >>= fun _u48 => ((((isxM n "NoRounds") >>= fun x24 => (isxM n "NoRows") >>= fun x25 => (isxM n "NoStresses") >>= fun x26 => (lstK [.d x24, .d x25, .d x26])) >>= fun x27 => (getC 0 >>= fun xs28 => (catN (.list xs28) x27))) >>= fun xs47 => setC 0 xs47 >>= fun _ => ((getC 0 >>= fun _ => (isxM n "NoThick") >>= fun x29 => appC 0 x29) >>= fun _u46 => ((((isxM n "NoTurning") >>= fun x31 => (isxM n "NoWay") >>= fun x32 => (isxM n "NoWays") >>= fun x33 => (lstK [.d x31, .d x32, .d x33])) >>= fun x34 => (getC 0 >>= fun xs35 => (catN (.list xs35) x34))) >>= fun xs45 => setC 0 xs45 >>= fun _ => ((getC 0 >>= fun _ => (isxM n "NoWhole") >>= fun x36 => appC 0 x36) >>= fun _u44 => ((((isxM n "NotHeld") >>= fun x38 => (isxM n "TooMany") >>= fun x39 => (isxM n "NoText") >>= fun x40 => (lstK [.d x38, .d x39, .d x40])) >>= fun x41 => (getC 0 >>= fun xs42 => (catL (.list xs42) x41))) >>= fun x43 => pure (.rt x43)))))))))))))
def law_word2 (n : Str) : M PyData := V.frame 0 (fin ((lstK [.d (.str "balance"), .d (.str "deed"), .d (.str "deeds"), .d (.str "firm"), .d (.str "fraction"), .d (.str "frame"), .d (.str "holding"), .d (.str "inner"), .d (.str "line")]) >>= fun v1 => (((lstK [.d (.str "loads"), .d (.str "lot")]) >>= fun x3 => (addM v1 x3)) >>= fun v2 => (((lstK [.d (.str "motions"), .d (.str "piece"), .d (.str "plate"), .d (.str "rest"), .d (.str "rounds"), .d (.str "rows"), .d (.str "stresses"), .d (.str "thick")]) >>= fun x5 => (addM v2 x5)) >>= fun v4 => (((lstK [.d (.str "turning"), .d (.str "way")]) >>= fun x7 => (addM v4 x7)) >>= fun v6 => (((lstK [.d (.str "ways"), .d (.str "whole"), .d (.str "held"), .d (.str "many"), .d (.str "text")]) >>= fun x9 => (addM v6 x9)) >>= fun v8 => ((noex (V.sub [] (L.law_marks2 n))) >>= fun v10 => ((tOr (((pure v10) >>= fun x11 => tyM "list" x11 >>= fun _ => (ofO (countO x11 [(.bool true)]))) >>= fun x12 => (neM x12 (.int 1))) (tNot ((pure (.bool true)) >>= toB))) >>= fun b13 => bif b13 then ((tupK [.d (.str "other")]) >>= fun x14 => pure (.rt x14)) else ((((pure v10) >>= fun x16 => tyM "list" x16 >>= fun _ => (ofO (indexO x16 [(.bool true)]))) >>= fun x17 => (ixM v8 x17)) >>= fun v15 => ((eqM v15 (.str "many")) >>= fun b18 => bif b18 then (bad >>= fun x19 => pure (.rt x19)) else (((eqM v15 (.str "text")) >>= fun b20 => bif b20 then bad else (tupK [.d v15])) >>= fun x21 => pure (.rt x21))))))))))))
def law_words2 (a0 a1 : PyData) : M PyData := V.frame 0 (fin ((saidsM exNames (fun d => (pure (.list [d]))) L.law_word2 [(sub [] (L.plus a0 a1)), (sub [] (L.minus a0 a1)), (sub [] (L.times a0 a1)), (sub [] (L.less a0 a1)), (sub [] (L.over a0 a1))] >>= fun ds5 => if ds5.length ≤ line then pure (.list ds5) else bad) >>= fun v4 => ((((pure v4) >>= rowM) >>= fun xs7 => (comp pN yep (fun t6 => (((pure (isO .list t6)) >>= toB) >>= fun b8 => bif b8 then (pure .none) else (pure t6))) xs7) >>= fun ys10 => pure (.list ys10)) >>= fun x11 => pure (.rt x11))))
def law42 (a0 : PyData) : M PyData := V.frame 1 (fin (((((lenM (.list (unl a0))) >>= fun x2 => (minM x2 (.int 5))) >>= fun x3 => (maxM (.int 1) x3)) >>= fun x4 => (rangeM (.int 0) x4)) >>= fun xs6 => V.forM pN (fun u5 (t1 : Unit) => ((callL (sub [] (L.law_state (.list (unl a0)) u5))) >>= fun xs77 => setC 0 xs77 >>= fun _ => ((sub [0] (L.law_fraction)) >>= fun v7 => (((tupK [.d (.int 2), .d (.int 4)]) >>= fun x9 => (tupK [.d (.int 0), .d (.int 2)]) >>= fun x10 => (tupK [.d (.int 1), .d (.int 0)]) >>= fun x11 => ((negM (.int 1)) >>= fun x12 => (tupK [.d (.int 1), .d x12])) >>= fun x13 => (tupK [.d (.bool true), .d (.int 1)]) >>= fun x14 => (tupK [.d (.int 1), .d (.bool true)]) >>= fun x15 => (lstK [.d (.int 1), .d (.int 1)]) >>= fun x16 => (lstK [.d x9, .d x10, .d x11, .d x13, .d x14, .d x15, .d x16, .d (.int 1), .d .none, .d (.str "1/2")])) >>= fun v8 => ((((tupK [.d (.int 1), .d (.int 1), .d (.int 1)]) >>= fun x18 => (tupK [.d (.int 1)]) >>= fun x19 => ((tupK [.d (.int 1), .d (.int 1)]) >>= fun x20 => (tupK [.d x20])) >>= fun x21 => (lstK [.d x18, .d x19, .d x21])) >>= fun x22 => (addM v8 x22)) >>= fun v17 => ((((sub [0] (L.law_odd)) >>= fun x24 => (sub [0] (L.law_bent 30 v7)) >>= fun x25 => (lstK [.d x24, .d x25])) >>= fun x26 => (addM v17 x26)) >>= fun v23 => (((pure v23) >>= rowM) >>= fun xs29 => V.forM pN (fun u28 (t27 : Unit) => (((tupK [.d u28, .d v7]) >>= fun x31 => (reprM x31)) >>= fun v30 => (((lstK [.d .none]) >>= fun x33 => (repL x33 (.int 5))) >>= fun v32 => ((tNot ((sub [] (L.law_is_fraction u28)) >>= toB)) >>= fun b34 => (bif b34 then ((((tupK [.d (.str "fraction")]) >>= fun x37 => (lstK [.d x37])) >>= fun x38 => (repL x38 (.int 5))) >>= fun v36 => (pure (.nx v36))) else (((tupK [.d (.int 0), .d (.int 1)]) >>= fun x39 => (eqM u28 x39)) >>= fun b40 => bif b40 then ((((lstK [.d .none]) >>= fun x42 => (repL x42 (.int 4))) >>= fun x43 => ((tupK [.d (.str "fraction")]) >>= fun x44 => (lstK [.d x44])) >>= fun x45 => (addM x43 x45)) >>= fun v41 => (pure (.nx v41))) else (pure (.nx v32)))) >>= flk (fun (t35 : PyData) => ((tOr ((sub [] (L.law_words2 v7 u28)) >>= fun x48 => (neM x48 t35)) (((tupK [.d u28, .d v7]) >>= fun x46 => (reprM x46)) >>= fun x47 => (neM x47 v30))) >>= fun b49 => bif b49 then ((pure (.bool false)) >>= fun x50 => pure (.rt x50)) else ((tAnd (tNot ((sub [] (L.law_is_fraction u28)) >>= toB)) (((sub [0] (L.law_odd)) >>= fun x51 => (sub [] (L.law_words2 u28 x51))) >>= fun x52 => (neM x52 t35))) >>= fun b53 => bif b53 then ((pure (.bool false)) >>= fun x54 => pure (.rt x54)) else (pure (.nx ()))))))))) xs29 () >>= flk (fun (t27 : Unit) => ((((tupK [.d (.int 1), .d (.int 1)]) >>= fun x56 => (lstK [.d (.int 1)]) >>= fun x57 => (tupK []) >>= fun x58 => (lstK [.d .none, .d (.bool true), .d (.str "1"), .d x56, .d x57, .d x58, .d (.bool false)])) >>= rowM) >>= fun xs60 => V.forM pN (fun u59 (t55 : Unit) => (((saidM exNames (fun d => (pure (.list [d]))) L.law_word2 ((sub [] (L.made u59 (.int 1))))) >>= fun x61 => (tupK [.d (.str "whole")]) >>= fun x62 => (neM x61 x62)) >>= fun b63 => bif b63 then ((pure (.bool false)) >>= fun x64 => pure (.rt x64)) else (((saidM exNames (fun d => (pure (.list [d]))) L.law_word2 ((sub [] (L.made (.int 1) u59)))) >>= fun x65 => (tupK [.d (.str "whole")]) >>= fun x66 => (neM x65 x66)) >>= fun b67 => bif b67 then ((pure (.bool false)) >>= fun x68 => pure (.rt x68)) else (pure (.nx ()))))) xs60 () >>= flk (fun (t55 : Unit) => (((saidM exNames (fun d => (pure (.list [d]))) L.law_word2 ((sub [] (L.made (.int 3) (.int 0))))) >>= fun x69 => (tupK [.d (.str "whole")]) >>= fun x70 => (neM x69 x70)) >>= fun b71 => bif b71 then ((pure (.bool false)) >>= fun x72 => pure (.rt x72)) else (((saidM exNames (fun d => (pure (.list [d]))) L.law_word2 ((sub [] (L.made .none (.int 0))))) >>= fun x73 => (tupK [.d (.str "whole")]) >>= fun x74 => (neM x73 x74)) >>= fun b75 => bif b75 then ((pure (.bool false)) >>= fun x76 => pure (.rt x76)) else (pure (.nx ())))))))))))))) xs6 () >>= flk (fun (t1 : Unit) => ((pure (.bool true)) >>= fun x78 => pure (.rt x78)))))
end L
set_option exponentiation.threshold 20000
namespace V
open PySem PySem.Spec ZL L2
section
variable {α β : Type}
@[simp] theorem frame_pure (nl : Nat) (a : PyData) : V.frame nl (pure a) = pure a := by
  funext s; show (match (Res.ok a (s ++ List.replicate nl none) : Res PyData) with | .ok a s' => Res.ok a (s'.take s.length) | .ex x s' => .ex x (s'.take s.length) | .bad => .bad) = _
  simp
@[simp] theorem frame_raise (nl : Nat) (n : Str) : V.frame nl (raise n) = raise n := by
  funext s; show (match (Res.ex ⟨n, []⟩ (s ++ List.replicate nl none) : Res PyData) with | .ok a s' => Res.ok a (s'.take s.length) | .ex x s' => .ex x (s'.take s.length) | .bad => .bad) = _
  simp; rfl
@[simp] theorem frame_cond (nl : Nat) (b : Bool) (x y : M PyData) : V.frame nl (bif b then x else y) = bif b then V.frame nl x else V.frame nl y := by cases b <;> rfl
@[simp] theorem frame_ite (nl : Nat) (c : Prop) [Decidable c] (x y : M PyData) : V.frame nl (if c then x else y) = if c then V.frame nl x else V.frame nl y := by split <;> rfl
@[simp] theorem bind_ite' (c : Prop) [Decidable c] (x y : M α) (k : α → M β) : ((if c then x else y) >>= k) = if c then (x >>= k) else (y >>= k) := by split <;> rfl
@[simp] theorem fin_ite (c : Prop) [Decidable c] (x y : M (Fl Unit Unit)) : fin (if c then x else y) = if c then fin x else fin y := by split <;> rfl
@[simp] theorem sub_raise (n : Str) : sub [] (raise n : M α) = raise n := rfl
@[simp] theorem raise_run (n : Str) (s : Cells) : (raise n : M α) s = .ex ⟨n, []⟩ s := rfl
theorem frame_run {nl : Nat} {m : M PyData} {s s' : Cells} {a : PyData} (h : m (s ++ List.replicate nl none) = .ok a s') : V.frame nl m s = .ok a (s'.take s.length) := by
  unfold V.frame; rw [h]
@[simp] theorem add_int (i j : Int) : addM (.int i) (.int j) = pure (.int (i + j)) := rfl
@[simp] theorem sub_int (i j : Int) : subM (.int i) (.int j) = pure (.int (i - j)) := rfl
@[simp] theorem neg_int (i : Int) : negM (.int i) = pure (.int (-i)) := rfl
@[simp] theorem abs_int (i : Int) : absM (.int i) = pure (.int i.natAbs) := by show (pure (PyData.int (absI i)) : M PyData) = _; rw [absI_eq]
@[simp] theorem max_int (i j : Int) : maxM (.int i) (.int j) = pure (.int (max i j)) := by show (pure (PyData.int (maxI i j)) : M PyData) = _; rw [maxI_eq]
@[simp] theorem min_int (i j : Int) : minM (.int i) (.int j) = pure (.int (min i j)) := by show (pure (PyData.int (minI i j)) : M PyData) = _; rw [minI_eq]
@[simp] theorem lt_int (i j : Int) : ltM (.int i) (.int j) = pure (decide (i < j)) := rfl
@[simp] theorem le_int (i j : Int) : leM (.int i) (.int j) = pure (decide (i ≤ j)) := rfl
@[simp] theorem gt_int (i j : Int) : gtM (.int i) (.int j) = pure (decide (j < i)) := rfl
@[simp] theorem eq_int (i j : Int) : eqM (.int i) (.int j) = pure (decide (i = j)) := rfl
@[simp] theorem ne_int (i j : Int) : neM (.int i) (.int j) = pure (!decide (i = j)) := rfl
theorem mul_int {i j : Int} (h : mulOk i j = true) : mulM (.int i) (.int j) = pure (.int (i * j)) := by show ofO (if mulOk i j then _ else _) = _; rw [if_pos h]; rfl
theorem fdiv_int {i j : Int} (h : divOk j = true) : fdivM (.int i) (.int j) = pure (.int (i.fdiv j)) := by show ofO (if divOk j then _ else _) = _; rw [if_pos h]; rfl
theorem mod_int {i j : Int} (h : 0 < j) : modM (.int i) (.int j) = pure (.int (i % j)) := by show ofO (if 0 < j then _ else _) = _; rw [if_pos h]; rfl
theorem pow_int {i j : Int} (h : powOk i j = true) : powM (.int i) (.int j) = pure (.int (i ^ j.toNat)) := by show ofO (if powOk i j then _ else _) = _; rw [if_pos h]; rfl
@[simp] theorem len_list (xs : List PyData) : lenM (.list xs) = pure (.int xs.length) := rfl
@[simp] theorem len_tuple (xs : List PyData) : lenM (.tuple xs) = pure (.int xs.length) := rfl
@[simp] theorem toB_bool (b : Bool) : toB (.bool b) = pure b := rfl
@[simp] theorem ofB_pure (b : Bool) : ofB (pure b) = pure (.bool b) := rfl
@[simp] theorem tNot_pure (b : Bool) : tNot (pure b) = pure (!b) := rfl
@[simp] theorem tAnd_pure (b : Bool) (m : M Bool) : tAnd (pure b) m = bif b then m else pure false := rfl
@[simp] theorem tOr_pure (b : Bool) (m : M Bool) : tOr (pure b) m = bif b then pure true else m := rfl
@[simp] theorem andV_bool (b : Bool) (m : M PyData) : ZL.andV (pure (.bool b)) m = bif b then m else pure (.bool false) := rfl
@[simp] theorem orV_bool (b : Bool) (m : M PyData) : ZL.orV (pure (.bool b)) m = bif b then pure (.bool true) else m := rfl
@[simp] theorem notV_bool (b : Bool) : ZL.notV (pure (.bool b)) = pure (.bool (!b)) := rfl
@[simp] theorem ofB_bind (m : M α) (k : α → M Bool) : ofB (m >>= k) = (m >>= fun a => ofB (k a)) := by unfold ofB; rw [bind_assoc']
@[simp] theorem tNot_bind (m : M α) (k : α → M Bool) : tNot (m >>= k) = (m >>= fun a => tNot (k a)) := by unfold tNot; rw [bind_assoc']
@[simp] theorem tAnd_bind (m : M α) (k : α → M Bool) (n : M Bool) : tAnd (m >>= k) n = (m >>= fun a => tAnd (k a) n) := by unfold tAnd; rw [bind_assoc']
@[simp] theorem tOr_bind (m : M α) (k : α → M Bool) (n : M Bool) : tOr (m >>= k) n = (m >>= fun a => tOr (k a) n) := by unfold tOr; rw [bind_assoc']
@[simp] theorem andV_bind (m : M α) (k : α → M PyData) (n : M PyData) : ZL.andV (m >>= k) n = (m >>= fun a => ZL.andV (k a) n) := by unfold ZL.andV; rw [bind_assoc']
@[simp] theorem orV_bind (m : M α) (k : α → M PyData) (n : M PyData) : ZL.orV (m >>= k) n = (m >>= fun a => ZL.orV (k a) n) := by unfold ZL.orV; rw [bind_assoc']
@[simp] theorem notV_bind (m : M α) (k : α → M PyData) : ZL.notV (m >>= k) = (m >>= fun a => ZL.notV (k a)) := by unfold ZL.notV; rw [bind_assoc']
@[simp] theorem rowM_list (xs : List PyData) : rowM (.list xs) = pure xs := rfl
@[simp] theorem rowM_tuple (xs : List PyData) : rowM (.tuple xs) = pure xs := rfl
theorem all_bools (bs : List Bool) : allM (.list (bs.map PyData.bool)) = pure (.bool (bs.all fun b => b)) := by show ofO ((boolsZ _).map _) = _; rw [boolsZ_of]; rfl
@[simp] theorem tupK_nil : tupK [] = pure (.tuple []) := rfl
@[simp] theorem tupK_1 (a : PyData) : tupK [.d a] = pure (.tuple [a]) := rfl
@[simp] theorem tupK_2 (a b : PyData) : tupK [.d a, .d b] = pure (.tuple [a, b]) := rfl
@[simp] theorem tupK_3 (a b c : PyData) : tupK [.d a, .d b, .d c] = pure (.tuple [a, b, c]) := rfl
@[simp] theorem tupK_4 (a b c d : PyData) : tupK [.d a, .d b, .d c, .d d] = pure (.tuple [a, b, c, d]) := rfl
theorem datV_map : ∀ l : List PyData, datV (l.map Vl.d) = some l
  | [] => rfl
  | a :: l => by simp [datV, datV_map l]
theorem lstK_of (l : List PyData) (h : l.length ≤ 16777216) : lstK (l.map Vl.d) = pure (.list l) := by
  unfold lstK; rw [datV_map]; exact if_pos h
theorem lstN_of (l : List PyData) (h : l.length ≤ 16777216) : lstN (l.map Vl.d) = pure l := by
  unfold lstN; rw [datV_map]; exact if_pos h
theorem comp_some {T : Type} {mt : PyData → Option T} {f : T → M PyData} {g : PyData → PyData} : ∀ {xs : List PyData}, (∀ x ∈ xs, ∃ t, mt x = some t ∧ f t = pure (g x)) → compP mt yep f xs = pure (xs.map g)
  | [], _ => rfl
  | x :: r, h => by
    obtain ⟨t, e1, e2⟩ := h x (by simp)
    unfold compP
    rw [e1, ofO_some, pure_bind', pure_bind', cond_true, e2, pure_bind', comp_some (xs := r) fun y hy => h y (by simp [hy])]
    rfl
theorem comp_map {T : Type} {mt : PyData → Option T} {f : T → M PyData} (g : PyData → PyData) {xs : List PyData} (hz : xs.length ≤ 16777216) (h : ∀ x ∈ xs, ∃ t, mt x = some t ∧ f t = pure (g x)) : comp mt yep f xs = pure (xs.map g) := by
  unfold comp
  rw [if_pos (show xs.length ≤ line from hz), comp_some h]
  rfl
theorem ix_list {xs : List PyData} {i : Int} {d : PyData} (h : 0 ≤ i) (e : xs[i.toNat]? = some d) : ixM (.list xs) (.int i) = pure d := by
  show ofO (atI xs i) = _
  have hl := (List.getElem?_eq_some_iff.mp e).1
  rw [show atI xs i = some d by
    unfold atI ixN
    rw [if_pos h, if_pos (by omega)]
    exact e]
  rfl
theorem ix_tuple {xs : List PyData} {i : Int} {d : PyData} (h : 0 ≤ i) (e : xs[i.toNat]? = some d) : ixM (.tuple xs) (.int i) = pure d := ix_list (xs := xs) h e
def Tr (P : Cells → Prop) (m : M α) (Q : α → Cells → Prop) : Prop := ∀ s, P s → ∃ a s', m s = .ok a s' ∧ Q a s'
theorem Tr.pure {P : Cells → Prop} {Q : α → Cells → Prop} {a : α} (h : ∀ s, P s → Q a s) : Tr P (pure a) Q := fun s p => ⟨a, s, rfl, h s p⟩
theorem Tr.bind {P : Cells → Prop} {R : α → Cells → Prop} {Q : β → Cells → Prop} {m : M α} {k : α → M β} (h1 : Tr P m R) (h2 : ∀ a, Tr (R a) (k a) Q) : Tr P (m >>= k) Q := fun s p => by
  obtain ⟨a, s1, e1, r⟩ := h1 s p
  obtain ⟨b, s2, e2, q⟩ := h2 a s1 r
  exact ⟨b, s2, by rw [bind_ok e1]; exact e2, q⟩
theorem Tr.post {P : Cells → Prop} {Q Q' : α → Cells → Prop} {m : M α} (h : Tr P m Q) (q : ∀ a s, Q a s → Q' a s) : Tr P m Q' := fun s p => let ⟨a, s', e, h⟩ := h s p; ⟨a, s', e, q a s' h⟩
theorem Tr.pre {P P' : Cells → Prop} {Q : α → Cells → Prop} {m : M α} (h : Tr P m Q) (q : ∀ s, P' s → P s) : Tr P' m Q := fun s p => h s (q s p)
theorem Tr.of {P : Cells → Prop} {Q : α → Cells → Prop} {m : M α} (h : ∀ s, P s → Tr (fun s' => s' = s) m Q) : Tr P m Q := fun s p => h s p s rfl
theorem Tr.cond {P : Cells → Prop} {Q : α → Cells → Prop} {b : Bool} {x y : M α} (h1 : b = true → Tr P x Q) (h2 : b = false → Tr P y Q) : Tr P (bif b then x else y) Q := by
  cases b with
  | true => exact h1 rfl
  | false => exact h2 rfl
theorem Tr.forM {L T γ : Type} {pt : PyData → Option γ} {body : γ → T → M (Fl T T)} {Q : Fl L T → Cells → Prop} (I : T → Cells → Prop) : ∀ {xs : List PyData} {t : T}, (∀ x ∈ xs, ∃ u, pt x = some u ∧ ∀ t, Tr (I t) (body u t) fun f s => match f with | .nx t' => I t' s | _ => False) → (∀ t s, I t s → Q (.nx t) s) → Tr (I t) (V.forM pt body xs t) Q
  | [], t, _, hq => fun s p => ⟨.nx t, s, rfl, hq t s p⟩
  | x :: r, t, h, hq => by
    obtain ⟨u, e, hb⟩ := h x (by simp)
    unfold V.forM
    rw [e, ofO_some, pure_bind']
    refine Tr.bind (hb t) fun f => ?_
    cases f with
    | nx t' => exact Tr.forM I (xs := r) (fun y hy => h y (by simp [hy])) hq
    | _ => exact fun s p => p.elim
def GoodSt (st : List PyData) : Prop := ∃ a b c : Int, st = [.int a, .int b, .int c] ∧ 0 ≤ b ∧ b < 2 ^ 31
abbrev cS (st : List PyData) : Option Cell := some (.lst st)
def Gen (m : M α) (P : α → Prop) : Prop := ∀ st rest, GoodSt st → ∃ a st', GoodSt st' ∧ P a ∧ m (cS st :: rest) = .ok a (cS st' :: rest)
theorem Gen.pure {P : α → Prop} {a : α} (h : P a) : Gen (pure a) P := fun st rest g => ⟨a, st, g, h, rfl⟩
theorem Gen.bind {R : α → Prop} {P : β → Prop} {m : M α} {k : α → M β} (h1 : Gen m R) (h2 : ∀ a, R a → Gen (k a) P) : Gen (m >>= k) P := fun st rest g => by
  obtain ⟨a, st1, g1, r, e1⟩ := h1 st rest g
  obtain ⟨b, st2, g2, p, e2⟩ := h2 a r st1 rest g1
  exact ⟨b, st2, g2, p, by rw [bind_ok e1]; exact e2⟩
theorem Gen.mono {P P' : α → Prop} {m : M α} (h : Gen m P) (q : ∀ a, P a → P' a) : Gen m P' := fun st rest g => let ⟨a, st', g', p, e⟩ := h st rest g; ⟨a, st', g', q a p, e⟩
theorem Gen.cond {P : α → Prop} {b : Bool} {x y : M α} (h1 : b = true → Gen x P) (h2 : b = false → Gen y P) : Gen (bif b then x else y) P := by
  cases b with
  | true => exact h1 rfl
  | false => exact h2 rfl
theorem Gen.sub {P : α → Prop} {m : M α} (h : Gen m P) : Gen (sub [0] m) P := fun st rest g => by
  obtain ⟨a, st', g', p, e⟩ := h st [] g
  refine ⟨a, st', g', p, ?_⟩
  show (bif liveB (cS st :: rest) [0] then _ else _) = _
  rw [show liveB (cS st :: rest) [0] = true from rfl, cond_true, show pick (cS st :: rest) [0] = [cS st] from rfl, e]
  rfl
theorem Gen.frame {P : PyData → Prop} {m : M PyData} {nl : Nat} (h : ∀ st, GoodSt st → ∃ a st' r, GoodSt st' ∧ P a ∧ m (cS st :: List.replicate nl none) = .ok a (cS st' :: r)) : ∀ st, GoodSt st → ∃ a st', GoodSt st' ∧ P a ∧ V.frame nl m [cS st] = .ok a [cS st'] := fun st g => by
  obtain ⟨a, st', r, g', p, e⟩ := h st g
  exact ⟨a, st', g', p, by rw [frame_run (s := [cS st]) e]; rfl⟩
def Gen1 (m : M α) (P : α → Prop) : Prop := ∀ st, GoodSt st → ∃ a st', GoodSt st' ∧ P a ∧ m [cS st] = .ok a [cS st']
theorem Gen1.sub {P : α → Prop} {m : M α} (h : Gen1 m P) : Gen (V.sub [0] m) P := fun st rest g => by
  obtain ⟨a, st', g', p, e⟩ := h st g
  refine ⟨a, st', g', p, ?_⟩
  show (bif liveB (cS st :: rest) [0] then _ else _) = _
  rw [show liveB (cS st :: rest) [0] = true from rfl, cond_true, show pick (cS st :: rest) [0] = [cS st] from rfl, e]
  rfl
theorem Gen.frame0 {P : PyData → Prop} {m : M PyData} {nl : Nat} (h : Gen m P) : Gen1 (V.frame nl m) P := fun st g => by
  obtain ⟨a, st', g', p, e⟩ := h st (List.replicate nl none) g
  exact ⟨a, st', g', p, by rw [frame_run (s := [cS st]) e]; rfl⟩
end
end V
set_option exponentiation.threshold 20000
namespace V
open PySem PySem.Spec ZL L2
theorem mulOk_of {i j : Int} {a b : Nat} (ha : i.natAbs < 2 ^ a) (hb : j.natAbs < 2 ^ b) (h : a + b ≤ 100000000) : mulOk i j = true := by
  unfold mulOk
  refine decide_eq_true ?_
  have l : ∀ {x k : Nat}, x < 2 ^ k → x.log2 ≤ k := by
    intro x k hx
    by_cases e : x = 0
    · subst e; simp
    · have := (Nat.log2_lt e).mpr hx; omega
  have := l ha
  have := l hb
  omega
theorem divOk_of {j : Int} {n : Nat} (h : j ≠ 0) (hn : j.natAbs < 2 ^ n) (hl : n ≤ 9000) : divOk j = true := by
  unfold divOk
  have := (Nat.log2_lt (by omega : j.natAbs ≠ 0)).mpr hn
  simp only [Bool.and_eq_true, decide_eq_true_eq]
  exact ⟨h, by omega⟩
theorem gcd_half {x y : Nat} {k : Nat} (h0 : 0 < x % y) (hy : y < 2 ^ (k + 1)) : y % (x % y) < 2 ^ k := by
  rcases Nat.eq_zero_or_pos y with e | hy0
  · subst e; rw [Nat.zero_mod]; exact Nat.two_pow_pos k
  have h1 : x % y < y := Nat.mod_lt _ hy0
  have h2 : y % (x % y) < x % y := Nat.mod_lt _ h0
  have h3 : y % (x % y) + x % y ≤ y := by
    have e := Nat.mod_add_div y (x % y)
    have : 1 ≤ y / (x % y) := (Nat.one_le_div_iff h0).mpr (Nat.le_of_lt h1)
    have : x % y * 1 ≤ x % y * (y / (x % y)) := Nat.mul_le_mul_left _ this
    omega
  rw [Nat.pow_succ] at hy
  omega
theorem while_gcd {L : Type} {c : PyData × PyData → M Bool} {body : PyData × PyData → M (Fl (PyData × PyData) (PyData × PyData))} {B : Nat} (hc : ∀ x y : Nat, c (.int x, .int y) = pure (decide ((0 : Int) < y)))
    (hb : ∀ x y : Nat, x < 2 ^ B → y < 2 ^ B → 0 < y → body (.int x, .int y) = pure (.nx (.int y, .int ((x % y : Nat) : Int)))) : ∀ (k x y n : Nat), x < 2 ^ B → y < 2 ^ B → y < 2 ^ k → 2 * k + 1 ≤ n → (whileM c body n (.int x, .int y) : M (Fl L _)) = pure (.nx (.int (Nat.gcd x y), .int 0)) := by
  have step : ∀ (x y n : Nat), x < 2 ^ B → y < 2 ^ B → 0 < y → (whileM c body (n + 1) (.int x, .int y) : M (Fl L _)) = whileM c body n (.int y, .int ((x % y : Nat) : Int)) := by
    intro x y n hx hy h0
    rw [whileM_succ, hc, pure_bind', show decide ((0 : Int) < y) = true from decide_eq_true (by omega), cond_true, hb x y hx hy h0, pure_bind']
  have stop : ∀ (x n : Nat), (whileM c body (n + 1) (.int x, .int (0 : Nat)) : M (Fl L _)) = pure (.nx (.int x, .int 0)) := by
    intro x n
    rw [whileM_succ, hc, pure_bind']
    rfl
  intro k
  induction k with
  | zero =>
    intro x y n hx hy hk hn
    have e : y = 0 := by omega
    subst e
    obtain ⟨m, rfl⟩ : ∃ m, n = m + 1 := ⟨n - 1, by omega⟩
    rw [stop, Nat.gcd_zero_right]
  | succ k ih =>
    intro x y n hx hy hk hn
    obtain ⟨m, rfl⟩ : ∃ m, n = m + 2 + 1 := ⟨n - 3, by omega⟩
    rcases Nat.eq_zero_or_pos y with e | h0
    · subst e; rw [stop, Nat.gcd_zero_right]
    · rw [step x y _ hx hy h0]
      have h1 : x % y < y := Nat.mod_lt _ h0
      rcases Nat.eq_zero_or_pos (x % y) with e | h2
      · rw [e, stop]
        have : Nat.gcd x y = y := by rw [Nat.gcd_comm, Nat.gcd_rec, e, Nat.gcd_zero_left]
        rw [this]
      · rw [step y (x % y) _ hy (by omega) h2, ih (x % y) (y % (x % y)) (m + 1) (by omega) (Nat.lt_trans (Nat.mod_lt _ h2) (by omega)) (gcd_half h2 hk) (by omega)]
        have e1 : Nat.gcd x y = Nat.gcd (x % y) (y % (x % y)) := by rw [Nat.gcd_comm x y, Nat.gcd_rec y x, Nat.gcd_rec (x % y) y, Nat.gcd_comm]
        rw [e1]
theorem int_mod_nat (x y : Nat) : ((x : Int) % (y : Int)) = ((x % y : Nat) : Int) := rfl
theorem divisor_eq (a b : Int) (ha : a.natAbs < 2 ^ 9000) (hb : b.natAbs < 2 ^ 9000) : L.divisor (.int a) (.int b) = pure (.int (Int.gcd a b)) := by
  unfold L.divisor
  simp only [abs_int, pure_bind']
  rw [while_gcd (B := 9000) (k := 9000) (fun x y => by simp only [gt_int]) (fun x y hx hy h0 => ?_) a.natAbs b.natAbs fuel ha hb hb (by unfold fuel; omega)]
  · simp only [pure_bind', flk_nx, fin_rt, frame_pure]
    rfl
  · simp only []
    have e : (x : Int).fdiv (y : Int) * (y : Int) = ((x / y * y : Nat) : Int) := by
      rw [Int.fdiv_eq_ediv_of_nonneg _ (by omega)]
      norm_cast
    rw [fdiv_int (divOk_of (n := 9000) (by omega) (by simpa using hy) (by omega)), pure_bind', mul_int, pure_bind', sub_int, pure_bind', pure_bind', e]
    · have : (x : Int) - ((x / y * y : Nat) : Int) = ((x % y : Nat) : Int) := by
        have := Nat.mod_add_div x y
        rw [Nat.mul_comm] at this
        omega
      rw [this]
    · refine mulOk_of (a := 9000) (b := 9000) ?_ (by simpa using hy) (by omega)
      rw [Int.fdiv_eq_ediv_of_nonneg _ (by omega)]
      have : ((x : Int) / (y : Int)).natAbs = x / y := rfl
      rw [this]
      exact Nat.lt_of_le_of_lt (Nat.div_le_self _ _) hx
end V
set_option exponentiation.threshold 20000
namespace V
open PySem PySem.Spec ZL L2
def fr (q : Rat) : PyData := .tuple [.int q.num, .int q.den]
def Bt (n : Nat) (q : Rat) : Prop := q.num.natAbs < 2 ^ n ∧ q.den < 2 ^ n
theorem Bt.mono {n m : Nat} {q : Rat} (h : Bt n q) (hn : n ≤ m) : Bt m q := ⟨Nat.lt_of_lt_of_le h.1 (Nat.pow_le_pow_right (by decide) hn), Nat.lt_of_lt_of_le h.2 (Nat.pow_le_pow_right (by decide) hn)⟩
theorem gcd_dvd_l (a b : Int) : ((Int.gcd a b : Nat) : Int) ∣ a := Int.gcd_dvd_left ..
theorem gcd_dvd_r (a b : Int) : ((Int.gcd a b : Nat) : Int) ∣ b := Int.gcd_dvd_right ..
theorem gcd_pos (a b : Int) (h : b ≠ 0) : 0 < Int.gcd a b := Nat.pos_of_ne_zero fun e => h (Int.gcd_eq_zero_iff.mp e).2
theorem fr_divInt (a b : Int) (h : b ≠ 0) : fr (Rat.divInt a b) = .tuple [.int (if 0 < b then a / (Int.gcd a b : Nat) else -(a / (Int.gcd a b : Nat))), .int (b.natAbs / Int.gcd a b : Nat)] := by
  unfold fr
  rw [Rat.num_divInt, Rat.den_divInt, if_neg h, Int.gcd_comm b a]
  have e : b.sign * a / ((Int.gcd a b : Nat) : Int) = if 0 < b then a / (Int.gcd a b : Nat) else -(a / (Int.gcd a b : Nat)) := by
    split
    · rename_i hb; rw [Int.sign_eq_one_of_pos hb, Int.one_mul]
    · rw [Int.sign_eq_neg_one_of_neg (by omega), Int.neg_one_mul, Int.neg_ediv_of_dvd (gcd_dvd_l a b)]
  rw [e]
theorem fdiv_dvd {a g : Int} (h : g ∣ a) : a.fdiv g = a / g := Int.fdiv_eq_ediv_of_dvd h
theorem gcd_small {a b : Int} {n : Nat} (hb : b.natAbs < 2 ^ n) (h : b ≠ 0) : Int.gcd a b < 2 ^ n := Nat.lt_of_le_of_lt (Nat.le_of_dvd (by omega) (Int.ofNat_dvd_left.mp (gcd_dvd_r a b))) hb
theorem Bt.divInt {a b : Int} {n : Nat} (ha : a.natAbs < 2 ^ n) (hb : b.natAbs < 2 ^ n) (h : b ≠ 0) : Bt n (Rat.divInt a b) := by
  have hg := gcd_pos a b h
  constructor
  · rw [Rat.num_divInt, Int.gcd_comm b a]
    refine Nat.lt_of_le_of_lt (m := a.natAbs) ?_ ha
    have : (b.sign * a / ((Int.gcd a b : Nat) : Int)).natAbs ≤ (b.sign * a).natAbs := Int.natAbs_ediv_le_natAbs ..
    rw [Int.natAbs_mul] at this
    have s : b.sign.natAbs = 1 := by rw [Int.natAbs_sign_of_ne_zero h]
    rw [s, Nat.one_mul] at this
    exact this
  · rw [Rat.den_divInt, if_neg h, Int.gcd_comm b a]
    exact Nat.lt_of_le_of_lt (Nat.div_le_self _ _) hb
theorem made_by_eq (a b : Int) (ha : a.natAbs < 2 ^ 9000) (hb : b.natAbs < 2 ^ 9000) (h : b ≠ 0) : L.made_by (.int a) (.int b) = pure (fr (Rat.divInt a b)) := by
  have hg := gcd_pos a b h
  have hs := gcd_small (a := a) hb h
  unfold L.made_by
  rw [divisor_eq a b ha hb, fr_divInt a b h]
  simp only [sub_pure, pure_bind', lt_int]
  by_cases hn : b < 0
  · have h2 : ¬ 0 < b := by omega
    simp only [decide_eq_true hn, cond_true, neg_int, pure_bind', flk_nx, if_neg h2]
    rw [fdiv_int (divOk_of (n := 9000) (by omega) (by simpa using hs) (by omega)), pure_bind', fdiv_int (divOk_of (n := 9000) (by omega) (by simpa using hs) (by omega))]
    simp only [pure_bind', tupK_2, fin_rt, frame_pure]
    rw [fdiv_dvd (Int.neg_dvd.mpr (gcd_dvd_l a b)), fdiv_dvd (Int.neg_dvd.mpr (gcd_dvd_r a b)), Int.ediv_neg, Int.ediv_neg]
    have e : -(b / ((Int.gcd a b : Nat) : Int)) = ((b.natAbs / Int.gcd a b : Nat) : Int) := by
      rw [← Int.neg_ediv_of_dvd (gcd_dvd_r a b), show -b = ((b.natAbs : Nat) : Int) by omega]
      rfl
    rw [e]
  · have h2 : 0 < b := by omega
    simp only [decide_eq_false hn, cond_false, pure_bind', flk_nx, if_pos h2]
    rw [fdiv_int (divOk_of (n := 9000) (by omega) (by simpa using hs) (by omega)), pure_bind', fdiv_int (divOk_of (n := 9000) (by omega) (by simpa using hs) (by omega))]
    simp only [pure_bind', tupK_2, fin_rt, frame_pure]
    rw [fdiv_dvd (gcd_dvd_l a b), fdiv_dvd (gcd_dvd_r a b)]
    have e : b / ((Int.gcd a b : Nat) : Int) = ((b.natAbs / Int.gcd a b : Nat) : Int) := by
      rw [show b = ((b.natAbs : Nat) : Int) by omega]
      rfl
    rw [e]
theorem low_eq (a b : Int) (ha : a.natAbs < 2 ^ 9000) (hb : b.natAbs < 2 ^ 9000) (h : b ≠ 0) : L.law_low (.int a) (.int b) = pure (fr (Rat.divInt a b)) := by
  have hg := gcd_pos a b h
  have hs := gcd_small (a := a) hb h
  unfold L.law_low
  rw [fr_divInt a b h]
  simp only [abs_int, pure_bind']
  rw [while_gcd (B := 9000) (k := 9000) (fun x y => by simp only [gt_int]) (fun x y hx hy h0 => ?_) a.natAbs b.natAbs fuel ha hb hb (by unfold fuel; omega)]
  · simp only [pure_bind', flk_nx, gt_int]
    have eg : ((a.natAbs.gcd b.natAbs : Nat) : Int) = ((Int.gcd a b : Nat) : Int) := rfl
    rw [eg]
    have d1 : divOk ((Int.gcd a b : Nat) : Int) = true := divOk_of (n := 9000) (by omega) (by simpa using hs) (by omega)
    have e2 : (b.natAbs : Int).fdiv ((Int.gcd a b : Nat) : Int) = ((b.natAbs / Int.gcd a b : Nat) : Int) := by rw [Int.fdiv_eq_ediv_of_nonneg _ (by omega)]; rfl
    by_cases hn : 0 < b
    · simp only [decide_eq_true hn, cond_true, if_pos hn]
      rw [fdiv_int d1, pure_bind', fdiv_int d1, pure_bind']
      simp only [tupK_2, pure_bind', fin_rt, frame_pure]
      rw [fdiv_dvd (gcd_dvd_l a b), e2]
    · simp only [decide_eq_false hn, cond_false, if_neg hn]
      rw [fdiv_int d1, pure_bind', sub_int, pure_bind', fdiv_int d1, pure_bind']
      simp only [tupK_2, pure_bind', fin_rt, frame_pure]
      rw [fdiv_dvd (gcd_dvd_l a b), e2, Int.zero_sub]
  · rw [mod_int (by omega), pure_bind', pure_bind', int_mod_nat]
def isW : PyData → Bool
  | .int _ => true
  | _ => false
theorem is_whole_eq (d : PyData) : L.is_whole d = pure (.bool (isW d)) := by
  unfold L.is_whole
  cases d <;> simp [isO, isD, isW]
theorem law_whole_eq (d : PyData) : L.law_whole d = pure (.bool (isW d)) := is_whole_eq d
def isFr : PyData → Bool
  | .tuple [.int a, .int b] => decide (0 < b) && decide (Int.gcd a b = 1)
  | _ => false
def sm2 : PyData → Prop
  | .tuple [.int a, .int b] => a.natAbs < 2 ^ 9000 ∧ b.natAbs < 2 ^ 9000
  | _ => True
def lenOk : PyData → Prop
  | .tuple xs => xs.length ≤ 16777216
  | _ => True
theorem isFr_fr (q : Rat) : isFr (fr q) = true := by
  have h1 : (0 : Int) < (q.den : Int) := by have := q.den_pos; omega
  have h2 : Int.gcd q.num (q.den : Int) = 1 := q.reduced
  show (decide ((0 : Int) < (q.den : Int)) && decide (Int.gcd q.num q.den = 1)) = true
  rw [decide_eq_true h1, decide_eq_true h2]; rfl
theorem isFr_inv {d : PyData} (h : isFr d = true) : ∃ q : Rat, d = fr q := by
  unfold isFr at h
  split at h
  · rename_i a b
    simp only [Bool.and_eq_true, decide_eq_true_eq] at h
    refine ⟨⟨a, b.natAbs, by omega, ?_⟩, ?_⟩
    · have : Int.gcd a b = Nat.gcd a.natAbs b.natAbs := rfl
      unfold Nat.Coprime
      omega
    · unfold fr
      have : ((b.natAbs : Nat) : Int) = b := by omega
      simp only [this]
  · cases h
theorem isFr_short {xs : List PyData} (h : xs.length ≠ 2) : isFr (.tuple xs) = false := by
  rcases xs with _ | ⟨a, _ | ⟨b, _ | ⟨c, r⟩⟩⟩
  · rfl
  · cases a <;> rfl
  · simp at h
  · cases a <;> cases b <;> rfl
theorem isFr_bent {a b : PyData} (h : isW a = false ∨ isW b = false) : isFr (.tuple [a, b]) = false := by
  cases a <;> cases b <;> first | rfl | simp [isW] at h
theorem fr_test (W : PyData → M PyData) (hW : ∀ d, W d = pure (.bool (isW d))) (d : PyData) (hl : lenOk d) (rest : M PyData) (hrest : ∀ a b, d = .tuple [.int a, .int b] → rest = pure (.bool (isFr d))) :
    V.frame 0 (fin ((tOr (tNot ((pure (isO .tuple d)) >>= toB)) (tOr ((lenM d) >>= fun x6 => (neM x6 (.int 2))) (tNot (((((pure d) >>= rowM) >>= fun xs2 => (comp pN yep (fun t1 => (sub [] (W t1))) xs2) >>= fun ys4 => pure (.list ys4)) >>= fun x5 => (allM x5)) >>= toB)))) >>= fun b7 => bif b7 then ((pure (.bool false)) >>= fun x8 => pure (.rt x8)) else (rest >>= fun x13 => pure (.rt x13)))) = pure (.bool (isFr d)) := by
  cases d with
  | tuple xs =>
    simp only [isO, isD, toB_bool, pure_bind', tNot_pure, Bool.not_true, tOr_pure, cond_false, len_tuple, ne_int, rowM_tuple]
    by_cases h2 : xs.length = 2
    · have : decide ((xs.length : Int) = 2) = true := decide_eq_true (by omega)
      simp only [this, Bool.not_true, cond_false]
      obtain ⟨a, b, rfl⟩ : ∃ a b, xs = [a, b] := by
        rcases xs with _ | ⟨a, _ | ⟨b, _ | ⟨c, r⟩⟩⟩ <;> simp at h2
        exact ⟨a, b, rfl⟩
      rw [comp_map (fun x => .bool (isW x)) (by simp) (fun x _ => ⟨x, rfl, by rw [hW]; rfl⟩)]
      have e : List.map (fun x => PyData.bool (isW x)) [a, b] = [isW a, isW b].map PyData.bool := rfl
      simp only [pure_bind', e, all_bools, toB_bool, tNot_pure]
      cases ha : isW a with
      | false => simp [isFr_bent (.inl ha)]
      | true =>
        cases hb : isW b with
        | false => simp [isFr_bent (.inr hb)]
        | true =>
          cases a <;> simp [isW] at ha
          cases b <;> simp [isW] at hb
          rename_i i j
          rw [hrest i j rfl]
          simp
    · have : decide ((xs.length : Int) = 2) = false := decide_eq_false (by omega)
      simp only [this, Bool.not_false, cond_true, pure_bind', fin_rt, frame_pure, isFr_short h2]
  | _ => simp [isO, isD, isFr]
theorem is_fraction_eq (d : PyData) (hl : lenOk d) (hs : sm2 d) : L.is_fraction d = pure (.bool (isFr d)) := by
  unfold L.is_fraction
  refine fr_test L.is_whole is_whole_eq d hl _ fun a b e => ?_
  subst e
  have h1 : ixM (.tuple [.int a, .int b]) (.int 1) = pure (.int b) := ix_tuple (by decide) rfl
  have h0 : ixM (.tuple [.int a, .int b]) (.int 0) = pure (.int a) := ix_tuple (by decide) rfl
  rw [h1, h0]
  simp only [pure_bind', gt_int, ofB_pure, andV_bool, divisor_eq a b hs.1 hs.2, sub_pure, eq_int]
  show (bif decide (0 < b) then _ else _) = (pure (PyData.bool (decide (0 < b) && decide (Int.gcd a b = 1))) : M PyData)
  have e : decide (((Int.gcd a b : Nat) : Int) = 1) = decide (Int.gcd a b = 1) := by simp only [decide_eq_decide]; omega
  rw [e]
  cases decide (0 < b) <;> rfl
theorem fr_eqv (a b c d : Int) : PyData.eqv (.tuple [.int a, .int b]) (.tuple [.int c, .int d]) = (decide (a = c) && decide (b = d)) := by
  simp only [PyData.eqv, PyData.eqvAll, Bool.and_true]
  rfl
theorem eq_pair (a b c d : Int) : eqM (.tuple [.int a, .int b]) (.tuple [.int c, .int d]) = pure (decide (a = c) && decide (b = d)) := by
  show ofO (if SeqAt.shaped (.tuple [.int a, .int b]) && SeqAt.shaped (.tuple [.int c, .int d]) then some (PyData.eqv (.tuple [.int a, .int b]) (.tuple [.int c, .int d])) else none) = _
  rw [if_pos (by rfl), fr_eqv]; rfl
theorem law_is_fraction_eq (d : PyData) (hl : lenOk d) (hs : sm2 d) : L.law_is_fraction d = pure (.bool (isFr d)) := by
  unfold L.law_is_fraction
  refine fr_test L.law_whole law_whole_eq d hl _ fun a b e => ?_
  subst e
  have h1 : ixM (.tuple [.int a, .int b]) (.int 1) = pure (.int b) := ix_tuple (by decide) rfl
  have h0 : ixM (.tuple [.int a, .int b]) (.int 0) = pure (.int a) := ix_tuple (by decide) rfl
  rw [h1, h0]
  simp only [pure_bind', gt_int, ofB_pure, andV_bool]
  show (bif decide (0 < b) then _ else _) = (pure (PyData.bool (decide (0 < b) && decide (Int.gcd a b = 1))) : M PyData)
  by_cases hb : 0 < b
  · rw [decide_eq_true hb, cond_true, Bool.true_and, low_eq a b hs.1 hs.2 (by omega), fr_divInt a b (by omega)]
    simp only [sub_pure, pure_bind', eq_pair, ofB_pure, if_pos hb]
    have hg := gcd_pos a b (by omega)
    have e : (decide (a / ((Int.gcd a b : Nat) : Int) = a) && decide (((b.natAbs / Int.gcd a b : Nat) : Int) = b)) = decide (Int.gcd a b = 1) := by
      by_cases h1 : Int.gcd a b = 1
      · rw [h1]
        simp
        omega
      · rw [decide_eq_false h1, Bool.and_eq_false_iff]
        right
        refine decide_eq_false fun h => h1 ?_
        have h2 : b.natAbs / Int.gcd a b = b.natAbs := by omega
        have h3 : 2 ≤ Int.gcd a b := by omega
        have := Nat.div_lt_self (n := b.natAbs) (by omega) (show 1 < Int.gcd a b by omega)
        omega
    rw [e]
  · rw [decide_eq_false hb]; rfl
end V
set_option exponentiation.threshold 20000
namespace V
open PySem PySem.Spec ZL L2
theorem getC_run (xs : List PyData) (r : Cells) : getC 0 (cS xs :: r) = .ok xs (cS xs :: r) := rfl
theorem ix_at {xs : List PyData} (i : Nat) {d : PyData} (e : xs[i]? = some d) : ixM (.list xs) (.int (i : Int)) = pure d := ix_list (by omega) (by simpa using e)
theorem putC_run {xs : List PyData} {i : Nat} {v : PyData} {r : Cells} (h : i < xs.length) : putC 0 (.int (i : Int)) v (cS xs :: r) = .ok () (cS (xs.set i v) :: r) := by
  unfold putC
  show (match ixN xs.length (i : Int) with | some n => Res.ok () ((cS xs :: r).set 0 (some (.lst (xs.set n v)))) | none => .bad) = _
  rw [show ixN xs.length (i : Int) = some i by unfold ixN; rw [if_pos (by omega), if_pos (by omega)]; simp]
  rfl
theorem bindR {α β : Type} {m : M α} {k : α → M β} {s s1 : Cells} {a : α} {r : Res β} (h : m s = .ok a s1) (h2 : k a s1 = r) : (m >>= k) s = r := by rw [bind_ok h]; exact h2
theorem choice_gen (n : Int) (h : 0 < n) (hn : n < 2 ^ 100) : Gen1 (L.law_choice (.int n)) fun d => ∃ r : Int, d = .int r ∧ 0 ≤ r ∧ r < n := by
  rintro st ⟨a, b, c, rfl, hb, hb2⟩
  have dn : divOk n = true := divOk_of (n := 100) (by omega) (by omega) (by omega)
  unfold L.law_choice
  have i0 : ∀ x y z : PyData, ixM (.list [x, y, z]) (.int 0) = pure x := fun x y z => ix_at (xs := [x, y, z]) 0 rfl
  have i1 : ∀ x y z : PyData, ixM (.list [x, y, z]) (.int 1) = pure y := fun x y z => ix_at (xs := [x, y, z]) 1 rfl
  have i2 : ∀ x y z : PyData, ixM (.list [x, y, z]) (.int 2) = pure z := fun x y z => ix_at (xs := [x, y, z]) 2 rfl
  have p0 : ∀ (x y z v : PyData) (r : Cells), putC 0 (.int 0) v (cS [x, y, z] :: r) = .ok () (cS [v, y, z] :: r) := fun x y z v r => putC_run (xs := [x, y, z]) (i := 0) (by simp)
  have p1 : ∀ (x y z v : PyData) (r : Cells), putC 0 (.int 1) v (cS [x, y, z] :: r) = .ok () (cS [x, v, z] :: r) := fun x y z v r => putC_run (xs := [x, y, z]) (i := 1) (by simp)
  have p2 : ∀ (x y z v : PyData) (r : Cells), putC 0 (.int 2) v (cS [x, y, z] :: r) = .ok () (cS [x, y, v] :: r) := fun x y z v r => putC_run (xs := [x, y, z]) (i := 2) (by simp)
  simp only [fin_bind, bind_assoc', fin_cond, pure_bind', fin_rt]
  by_cases ha : 0 < a
  · refine ⟨.int (a % n), [.int (a.fdiv n), .int b, .int c], ⟨_, _, _, rfl, hb, hb2⟩, ⟨_, rfl, Int.emod_nonneg _ (by omega), Int.emod_lt_of_pos _ h⟩, ?_⟩
    refine (frame_run (s := [cS _]) (nl := 0) (s' := [cS [.int (a.fdiv n), .int b, .int c]]) ?_).trans rfl
    refine bindR (getC_run _ _) ?_
    simp only [i0, pure_bind', gt_int, decide_eq_true ha, cond_true]
    refine bindR (getC_run _ _) ?_
    simp only [i0, pure_bind', mod_int h]
    refine bindR (getC_run _ _) ?_
    simp only [i0, pure_bind', fdiv_int dn]
    exact bindR (p0 ..) rfl
  · have hm : ∀ x : Int, 0 ≤ x % 2147483647 ∧ x % 2147483647 < 2 ^ 31 := fun x => by omega
    have hv : ∀ x : Int, 0 ≤ x % 2147483629 ∧ x % 2147483629 < 2 ^ 31 := fun x => by omega
    obtain ⟨b', eb⟩ : ∃ b', b' = (b * 48271 + 29 + (c + 1)) % 2147483647 := ⟨_, rfl⟩
    obtain ⟨v, ev⟩ : ∃ v, v = (b' * b' + 39373 * b' + 7) % 2147483629 := ⟨_, rfl⟩
    obtain ⟨u, eu⟩ : ∃ u, u = ((v * v + 50021 * v) % 2147483587).fdiv 8 := ⟨_, rfl⟩
    have hb' := hm (b * 48271 + 29 + (c + 1))
    rw [← eb] at hb'
    have hv' := hv (b' * b' + 39373 * b' + 7)
    rw [← ev] at hv'
    refine ⟨.int (u % n), [.int a, .int b', .int (c + 1)], ⟨_, _, _, rfl, hb'.1, hb'.2⟩, ⟨_, rfl, Int.emod_nonneg _ (by omega), Int.emod_lt_of_pos _ h⟩, ?_⟩
    refine (frame_run (s := [cS _]) (nl := 0) (s' := [cS [.int a, .int b', .int (c + 1)]]) ?_).trans rfl
    refine bindR (getC_run _ _) ?_
    simp only [i0, pure_bind', gt_int, decide_eq_false ha, cond_false]
    refine bindR (getC_run _ _) ?_
    simp only [i2, pure_bind', add_int]
    refine bindR (p2 ..) ?_
    refine bindR (getC_run _ _) ?_
    simp only [i1, pure_bind']
    rw [mul_int (mulOk_of (a := 31) (b := 31) (by omega) (by omega) (by omega))]
    simp only [pure_bind', add_int]
    refine bindR (getC_run _ _) ?_
    simp only [i2, pure_bind', add_int]
    rw [mod_int (by omega)]
    simp only [pure_bind', ← eb]
    refine bindR (p1 ..) ?_
    refine bindR (getC_run _ _) ?_
    simp only [i1, pure_bind']
    refine bindR (getC_run _ _) ?_
    simp only [i1, pure_bind']
    rw [mul_int (mulOk_of (a := 31) (b := 31) (by omega) (by omega) (by omega))]
    simp only [pure_bind']
    refine bindR (getC_run _ _) ?_
    simp only [i1, pure_bind']
    rw [mul_int (mulOk_of (a := 31) (b := 31) (by omega) (by omega) (by omega))]
    simp only [pure_bind', add_int]
    rw [mod_int (by omega)]
    simp only [pure_bind', ← ev]
    rw [mul_int (mulOk_of (a := 31) (b := 31) (by omega) (by omega) (by omega)), mul_int (mulOk_of (a := 31) (b := 31) (by omega) (by omega) (by omega))]
    simp only [pure_bind', add_int]
    rw [mod_int (by omega)]
    simp only [pure_bind']
    rw [fdiv_int (by decide)]
    simp only [pure_bind', ← eu]
    rw [mod_int h]
    rfl
theorem choice {n : Int} (h : 0 < n) (hn : n < 2 ^ 100) : Gen (V.sub [0] (L.law_choice (.int n))) fun d => ∃ r : Int, d = .int r ∧ 0 ≤ r ∧ r < n := (choice_gen n h hn).sub
theorem cell_at_eq (ns : List Int) (k : Int) (hk : 0 ≤ k) : L.law_cell_at (.list (ns.map .int)) (.int k) = pure (.int (ns.getD k.toNat 0)) := by
  unfold L.law_cell_at
  simp only [unl, len_list, pure_bind', lt_int, List.length_map]
  by_cases h : k < (ns.length : Int)
  · rw [decide_eq_true h, cond_true, ix_list (d := .int (ns.getD k.toNat 0)) hk]
    · simp
    · rw [List.getElem?_map, List.getD_eq_getElem?_getD, List.getElem?_eq_getElem (by omega)]; rfl
  · rw [decide_eq_false h, cond_false, List.getD_eq_getElem?_getD, List.getElem?_eq_none (by omega)]; simp
theorem state_eq (ns : List Int) (k : Int) (hk : 0 ≤ k) : ∃ st, GoodSt st ∧ L.law_state (.list (ns.map .int)) (.int k) = pure (.list st) := by
  unfold L.law_state
  have e := cell_at_eq ns k hk
  generalize ns.getD k.toNat 0 = x at e
  refine ⟨[.int (max 0 (x - 10 ^ 18)), .int (x % 2147483629 + 1), .int 0], ⟨_, _, _, rfl, by omega, by omega⟩, ?_⟩
  simp only [unl, e, sub_pure, pure_bind']
  rw [pow_int (by decide)]
  simp only [pure_bind', sub_int, max_int]
  rw [mod_int (by omega)]
  simp only [pure_bind', add_int]
  rw [show lstN [Vl.d (PyData.int (max 0 (x - 10 ^ Int.toNat 18))), Vl.d (PyData.int (x % 2147483629 + 1)), Vl.d (PyData.int 0)] = pure [PyData.int (max 0 (x - 10 ^ Int.toNat 18)), PyData.int (x % 2147483629 + 1), PyData.int 0] from lstN_of [_, _, _] (by simp)]
  simp
mutual
def sz : PyData → Nat
  | .none => 4
  | .bool _ => 5
  | .int _ => 1921
  | .str x => (reprText x).length
  | .list xs => szA xs + 2
  | .tuple xs => szA xs + 3
  | .dict kvs => szK kvs + 2
def szA : List PyData → Nat
  | [] => 0
  | x :: xs => sz x + 2 + szA xs
def szK : List (PyData × PyData) → Nat
  | [] => 0
  | (k, v) :: r => sz k + sz v + 4 + szK r
end
theorem join_le (ts : List Str) : (Str.join ", " ts).length ≤ piled ts := by
  by_cases h : ts = []
  · subst h; exact Nat.zero_le _
  · have := join_length_add ts h; omega
theorem int_text (z : Int) (h : z.natAbs.log2 < 1920) : (Str.ofString (toString z)).length ≤ 1921 := by
  have := int_text_length_le (k := 1920) (by decide) h
  rw [ofString_length]; omega
mutual
theorem shown_sz : ∀ d : PyData, d.showable = true → d.shown.length ≤ sz d
  | .none, _ => by simp only [PyData.shown, sz]; decide
  | .bool b, _ => by cases b <;> simp only [PyData.shown, sz] <;> decide
  | .int i, h => by
    simp only [PyData.shown, sz]
    exact int_text i (by simpa [PyData.showable] using h)
  | .str x, _ => by simp only [PyData.shown, sz]; exact Nat.le_refl _
  | .list xs, h => by
    have ih := shownAll_sz xs (by simpa [PyData.showable] using h)
    simp only [PyData.shown, sz]
    rw [listText_eq_join, strLen_append, strLen_append]
    have := join_le (PyData.shownAll xs)
    have e1 : ((("[" : String) : Str)).length = 1 := rfl
    have e2 : ((("]" : String) : Str)).length = 1 := rfl
    omega
  | .tuple xs, h => by
    have ih := shownAll_sz xs (by simpa [PyData.showable] using h)
    simp only [PyData.shown, sz]
    unfold tupleText
    rw [strLen_append, strLen_append]
    have := join_le (PyData.shownAll xs)
    have e1 : ((("(" : String) : Str)).length = 1 := rfl
    have e3 : (((if (PyData.shownAll xs).length == 1 then ",)" else ")" : String) : Str)).length ≤ 2 := by split <;> decide
    omega
  | .dict kvs, h => by
    have ih := shownKv_sz kvs (by simpa [PyData.showable] using h)
    simp only [PyData.shown, sz]
    unfold dictText
    rw [strLen_append, strLen_append]
    have := join_le (PyData.shownKv kvs)
    have e1 : ((("{" : String) : Str)).length = 1 := rfl
    have e2 : ((("}" : String) : Str)).length = 1 := rfl
    omega
theorem shownAll_sz : ∀ xs : List PyData, PyData.showableAll xs = true → piled (PyData.shownAll xs) ≤ szA xs
  | [], _ => by simp [PyData.shownAll, szA, piled]
  | x :: xs, h => by
    simp only [PyData.showableAll, Bool.and_eq_true] at h
    have h1 := shown_sz x h.1
    have h2 := shownAll_sz xs h.2
    simp only [PyData.shownAll, szA, piled_cons]
    omega
theorem shownKv_sz : ∀ xs : List (PyData × PyData), PyData.showableKv xs = true → piled (PyData.shownKv xs) ≤ szK xs
  | [], _ => by simp [PyData.shownKv, szK, piled]
  | (k, v) :: xs, h => by
    simp only [PyData.showableKv, Bool.and_eq_true] at h
    have h1 := shown_sz k h.1.1
    have h2 := shown_sz v h.1.2
    have h3 := shownKv_sz xs h.2
    simp only [PyData.shownKv, szK, piled_cons]
    rw [strLen_append, strLen_append]
    have e1 : (((": " : String) : Str)).length = 2 := rfl
    omega
end
structure Rp (n m : Nat) (d : PyData) : Prop where
  s : d.showable = true
  h : d.hasDict = false
  dp : d.depth ≤ n
  z : sz d ≤ m
theorem Rp.mono {n m n' m' : Nat} {d : PyData} (r : Rp n m d) (h1 : n ≤ n') (h2 : m ≤ m') : Rp n' m' d := ⟨r.s, r.h, Nat.le_trans r.dp h1, Nat.le_trans r.z h2⟩
theorem Rp.ok {n m : Nat} {d : PyData} (r : Rp n m d) (hn : n ≤ 100) (hm : m ≤ 16777216) : reprOk d = true := by
  unfold reprOk
  simp only [Bool.and_eq_true, decide_eq_true_eq, Bool.or_eq_true, Bool.not_eq_true']
  exact ⟨⟨⟨r.s, Nat.le_trans r.dp hn⟩, .inl r.h⟩, Nat.le_trans (shown_sz d r.s) (Nat.le_trans r.z hm)⟩
theorem repr_eq {d : PyData} (h : reprOk d = true) : reprM d = pure (PyData.str d.shown) := by
  show ofO (if reprOk d then some (PyData.str d.shown) else none) = _
  rw [if_pos h]; rfl
theorem eq_str (x y : Str) : eqM (.str x) (.str y) = pure (decide (x = y)) := rfl
theorem ne_str (x y : Str) : neM (.str x) (.str y) = pure (!decide (x = y)) := rfl
theorem same_eq {d : PyData} (h : reprOk d = true) : L.law_same d d = pure (.bool true) := by
  unfold L.law_same
  simp only [repr_eq h, pure_bind', eq_str, decide_true, ofB_pure, fin_rt, frame_pure]
end V
set_option exponentiation.threshold 20000
namespace V
open PySem PySem.Spec ZL L2
@[simp] theorem lstK_0 : lstK [] = pure (.list []) := lstK_of [] (by simp)
@[simp] theorem lstN_0 : lstN [] = pure [] := lstN_of [] (by simp)
@[simp] theorem lstK_1 (a0 : PyData) : lstK [.d a0] = pure (.list [a0]) := lstK_of [a0] (by simp)
@[simp] theorem lstN_1 (a0 : PyData) : lstN [.d a0] = pure [a0] := lstN_of [a0] (by simp)
@[simp] theorem lstK_2 (a0 a1 : PyData) : lstK [.d a0, .d a1] = pure (.list [a0, a1]) := lstK_of [a0, a1] (by simp)
@[simp] theorem lstN_2 (a0 a1 : PyData) : lstN [.d a0, .d a1] = pure [a0, a1] := lstN_of [a0, a1] (by simp)
@[simp] theorem lstK_3 (a0 a1 a2 : PyData) : lstK [.d a0, .d a1, .d a2] = pure (.list [a0, a1, a2]) := lstK_of [a0, a1, a2] (by simp)
@[simp] theorem lstN_3 (a0 a1 a2 : PyData) : lstN [.d a0, .d a1, .d a2] = pure [a0, a1, a2] := lstN_of [a0, a1, a2] (by simp)
@[simp] theorem lstK_4 (a0 a1 a2 a3 : PyData) : lstK [.d a0, .d a1, .d a2, .d a3] = pure (.list [a0, a1, a2, a3]) := lstK_of [a0, a1, a2, a3] (by simp)
@[simp] theorem lstN_4 (a0 a1 a2 a3 : PyData) : lstN [.d a0, .d a1, .d a2, .d a3] = pure [a0, a1, a2, a3] := lstN_of [a0, a1, a2, a3] (by simp)
@[simp] theorem lstK_5 (a0 a1 a2 a3 a4 : PyData) : lstK [.d a0, .d a1, .d a2, .d a3, .d a4] = pure (.list [a0, a1, a2, a3, a4]) := lstK_of [a0, a1, a2, a3, a4] (by simp)
@[simp] theorem lstN_5 (a0 a1 a2 a3 a4 : PyData) : lstN [.d a0, .d a1, .d a2, .d a3, .d a4] = pure [a0, a1, a2, a3, a4] := lstN_of [a0, a1, a2, a3, a4] (by simp)
@[simp] theorem lstK_6 (a0 a1 a2 a3 a4 a5 : PyData) : lstK [.d a0, .d a1, .d a2, .d a3, .d a4, .d a5] = pure (.list [a0, a1, a2, a3, a4, a5]) := lstK_of [a0, a1, a2, a3, a4, a5] (by simp)
@[simp] theorem lstN_6 (a0 a1 a2 a3 a4 a5 : PyData) : lstN [.d a0, .d a1, .d a2, .d a3, .d a4, .d a5] = pure [a0, a1, a2, a3, a4, a5] := lstN_of [a0, a1, a2, a3, a4, a5] (by simp)
@[simp] theorem lstK_7 (a0 a1 a2 a3 a4 a5 a6 : PyData) : lstK [.d a0, .d a1, .d a2, .d a3, .d a4, .d a5, .d a6] = pure (.list [a0, a1, a2, a3, a4, a5, a6]) := lstK_of [a0, a1, a2, a3, a4, a5, a6] (by simp)
@[simp] theorem lstN_7 (a0 a1 a2 a3 a4 a5 a6 : PyData) : lstN [.d a0, .d a1, .d a2, .d a3, .d a4, .d a5, .d a6] = pure [a0, a1, a2, a3, a4, a5, a6] := lstN_of [a0, a1, a2, a3, a4, a5, a6] (by simp)
@[simp] theorem lstK_8 (a0 a1 a2 a3 a4 a5 a6 a7 : PyData) : lstK [.d a0, .d a1, .d a2, .d a3, .d a4, .d a5, .d a6, .d a7] = pure (.list [a0, a1, a2, a3, a4, a5, a6, a7]) := lstK_of [a0, a1, a2, a3, a4, a5, a6, a7] (by simp)
@[simp] theorem lstN_8 (a0 a1 a2 a3 a4 a5 a6 a7 : PyData) : lstN [.d a0, .d a1, .d a2, .d a3, .d a4, .d a5, .d a6, .d a7] = pure [a0, a1, a2, a3, a4, a5, a6, a7] := lstN_of [a0, a1, a2, a3, a4, a5, a6, a7] (by simp)
@[simp] theorem lstK_9 (a0 a1 a2 a3 a4 a5 a6 a7 a8 : PyData) : lstK [.d a0, .d a1, .d a2, .d a3, .d a4, .d a5, .d a6, .d a7, .d a8] = pure (.list [a0, a1, a2, a3, a4, a5, a6, a7, a8]) := lstK_of [a0, a1, a2, a3, a4, a5, a6, a7, a8] (by simp)
@[simp] theorem lstN_9 (a0 a1 a2 a3 a4 a5 a6 a7 a8 : PyData) : lstN [.d a0, .d a1, .d a2, .d a3, .d a4, .d a5, .d a6, .d a7, .d a8] = pure [a0, a1, a2, a3, a4, a5, a6, a7, a8] := lstN_of [a0, a1, a2, a3, a4, a5, a6, a7, a8] (by simp)
@[simp] theorem lstK_10 (a0 a1 a2 a3 a4 a5 a6 a7 a8 a9 : PyData) : lstK [.d a0, .d a1, .d a2, .d a3, .d a4, .d a5, .d a6, .d a7, .d a8, .d a9] = pure (.list [a0, a1, a2, a3, a4, a5, a6, a7, a8, a9]) := lstK_of [a0, a1, a2, a3, a4, a5, a6, a7, a8, a9] (by simp)
@[simp] theorem lstN_10 (a0 a1 a2 a3 a4 a5 a6 a7 a8 a9 : PyData) : lstN [.d a0, .d a1, .d a2, .d a3, .d a4, .d a5, .d a6, .d a7, .d a8, .d a9] = pure [a0, a1, a2, a3, a4, a5, a6, a7, a8, a9] := lstN_of [a0, a1, a2, a3, a4, a5, a6, a7, a8, a9] (by simp)
@[simp] theorem lstK_11 (a0 a1 a2 a3 a4 a5 a6 a7 a8 a9 a10 : PyData) : lstK [.d a0, .d a1, .d a2, .d a3, .d a4, .d a5, .d a6, .d a7, .d a8, .d a9, .d a10] = pure (.list [a0, a1, a2, a3, a4, a5, a6, a7, a8, a9, a10]) := lstK_of [a0, a1, a2, a3, a4, a5, a6, a7, a8, a9, a10] (by simp)
@[simp] theorem lstN_11 (a0 a1 a2 a3 a4 a5 a6 a7 a8 a9 a10 : PyData) : lstN [.d a0, .d a1, .d a2, .d a3, .d a4, .d a5, .d a6, .d a7, .d a8, .d a9, .d a10] = pure [a0, a1, a2, a3, a4, a5, a6, a7, a8, a9, a10] := lstN_of [a0, a1, a2, a3, a4, a5, a6, a7, a8, a9, a10] (by simp)
@[simp] theorem lstK_12 (a0 a1 a2 a3 a4 a5 a6 a7 a8 a9 a10 a11 : PyData) : lstK [.d a0, .d a1, .d a2, .d a3, .d a4, .d a5, .d a6, .d a7, .d a8, .d a9, .d a10, .d a11] = pure (.list [a0, a1, a2, a3, a4, a5, a6, a7, a8, a9, a10, a11]) := lstK_of [a0, a1, a2, a3, a4, a5, a6, a7, a8, a9, a10, a11] (by simp)
@[simp] theorem lstN_12 (a0 a1 a2 a3 a4 a5 a6 a7 a8 a9 a10 a11 : PyData) : lstN [.d a0, .d a1, .d a2, .d a3, .d a4, .d a5, .d a6, .d a7, .d a8, .d a9, .d a10, .d a11] = pure [a0, a1, a2, a3, a4, a5, a6, a7, a8, a9, a10, a11] := lstN_of [a0, a1, a2, a3, a4, a5, a6, a7, a8, a9, a10, a11] (by simp)
@[simp] theorem lstK_13 (a0 a1 a2 a3 a4 a5 a6 a7 a8 a9 a10 a11 a12 : PyData) : lstK [.d a0, .d a1, .d a2, .d a3, .d a4, .d a5, .d a6, .d a7, .d a8, .d a9, .d a10, .d a11, .d a12] = pure (.list [a0, a1, a2, a3, a4, a5, a6, a7, a8, a9, a10, a11, a12]) := lstK_of [a0, a1, a2, a3, a4, a5, a6, a7, a8, a9, a10, a11, a12] (by simp)
@[simp] theorem lstN_13 (a0 a1 a2 a3 a4 a5 a6 a7 a8 a9 a10 a11 a12 : PyData) : lstN [.d a0, .d a1, .d a2, .d a3, .d a4, .d a5, .d a6, .d a7, .d a8, .d a9, .d a10, .d a11, .d a12] = pure [a0, a1, a2, a3, a4, a5, a6, a7, a8, a9, a10, a11, a12] := lstN_of [a0, a1, a2, a3, a4, a5, a6, a7, a8, a9, a10, a11, a12] (by simp)
@[simp] theorem lstK_14 (a0 a1 a2 a3 a4 a5 a6 a7 a8 a9 a10 a11 a12 a13 : PyData) : lstK [.d a0, .d a1, .d a2, .d a3, .d a4, .d a5, .d a6, .d a7, .d a8, .d a9, .d a10, .d a11, .d a12, .d a13] = pure (.list [a0, a1, a2, a3, a4, a5, a6, a7, a8, a9, a10, a11, a12, a13]) := lstK_of [a0, a1, a2, a3, a4, a5, a6, a7, a8, a9, a10, a11, a12, a13] (by simp)
@[simp] theorem lstN_14 (a0 a1 a2 a3 a4 a5 a6 a7 a8 a9 a10 a11 a12 a13 : PyData) : lstN [.d a0, .d a1, .d a2, .d a3, .d a4, .d a5, .d a6, .d a7, .d a8, .d a9, .d a10, .d a11, .d a12, .d a13] = pure [a0, a1, a2, a3, a4, a5, a6, a7, a8, a9, a10, a11, a12, a13] := lstN_of [a0, a1, a2, a3, a4, a5, a6, a7, a8, a9, a10, a11, a12, a13] (by simp)
@[simp] theorem lstK_15 (a0 a1 a2 a3 a4 a5 a6 a7 a8 a9 a10 a11 a12 a13 a14 : PyData) : lstK [.d a0, .d a1, .d a2, .d a3, .d a4, .d a5, .d a6, .d a7, .d a8, .d a9, .d a10, .d a11, .d a12, .d a13, .d a14] = pure (.list [a0, a1, a2, a3, a4, a5, a6, a7, a8, a9, a10, a11, a12, a13, a14]) := lstK_of [a0, a1, a2, a3, a4, a5, a6, a7, a8, a9, a10, a11, a12, a13, a14] (by simp)
@[simp] theorem lstN_15 (a0 a1 a2 a3 a4 a5 a6 a7 a8 a9 a10 a11 a12 a13 a14 : PyData) : lstN [.d a0, .d a1, .d a2, .d a3, .d a4, .d a5, .d a6, .d a7, .d a8, .d a9, .d a10, .d a11, .d a12, .d a13, .d a14] = pure [a0, a1, a2, a3, a4, a5, a6, a7, a8, a9, a10, a11, a12, a13, a14] := lstN_of [a0, a1, a2, a3, a4, a5, a6, a7, a8, a9, a10, a11, a12, a13, a14] (by simp)
@[simp] theorem lstK_16 (a0 a1 a2 a3 a4 a5 a6 a7 a8 a9 a10 a11 a12 a13 a14 a15 : PyData) : lstK [.d a0, .d a1, .d a2, .d a3, .d a4, .d a5, .d a6, .d a7, .d a8, .d a9, .d a10, .d a11, .d a12, .d a13, .d a14, .d a15] = pure (.list [a0, a1, a2, a3, a4, a5, a6, a7, a8, a9, a10, a11, a12, a13, a14, a15]) := lstK_of [a0, a1, a2, a3, a4, a5, a6, a7, a8, a9, a10, a11, a12, a13, a14, a15] (by simp)
@[simp] theorem lstN_16 (a0 a1 a2 a3 a4 a5 a6 a7 a8 a9 a10 a11 a12 a13 a14 a15 : PyData) : lstN [.d a0, .d a1, .d a2, .d a3, .d a4, .d a5, .d a6, .d a7, .d a8, .d a9, .d a10, .d a11, .d a12, .d a13, .d a14, .d a15] = pure [a0, a1, a2, a3, a4, a5, a6, a7, a8, a9, a10, a11, a12, a13, a14, a15] := lstN_of [a0, a1, a2, a3, a4, a5, a6, a7, a8, a9, a10, a11, a12, a13, a14, a15] (by simp)
@[simp] theorem lstK_17 (a0 a1 a2 a3 a4 a5 a6 a7 a8 a9 a10 a11 a12 a13 a14 a15 a16 : PyData) : lstK [.d a0, .d a1, .d a2, .d a3, .d a4, .d a5, .d a6, .d a7, .d a8, .d a9, .d a10, .d a11, .d a12, .d a13, .d a14, .d a15, .d a16] = pure (.list [a0, a1, a2, a3, a4, a5, a6, a7, a8, a9, a10, a11, a12, a13, a14, a15, a16]) := lstK_of [a0, a1, a2, a3, a4, a5, a6, a7, a8, a9, a10, a11, a12, a13, a14, a15, a16] (by simp)
@[simp] theorem lstN_17 (a0 a1 a2 a3 a4 a5 a6 a7 a8 a9 a10 a11 a12 a13 a14 a15 a16 : PyData) : lstN [.d a0, .d a1, .d a2, .d a3, .d a4, .d a5, .d a6, .d a7, .d a8, .d a9, .d a10, .d a11, .d a12, .d a13, .d a14, .d a15, .d a16] = pure [a0, a1, a2, a3, a4, a5, a6, a7, a8, a9, a10, a11, a12, a13, a14, a15, a16] := lstN_of [a0, a1, a2, a3, a4, a5, a6, a7, a8, a9, a10, a11, a12, a13, a14, a15, a16] (by simp)
@[simp] theorem lstK_18 (a0 a1 a2 a3 a4 a5 a6 a7 a8 a9 a10 a11 a12 a13 a14 a15 a16 a17 : PyData) : lstK [.d a0, .d a1, .d a2, .d a3, .d a4, .d a5, .d a6, .d a7, .d a8, .d a9, .d a10, .d a11, .d a12, .d a13, .d a14, .d a15, .d a16, .d a17] = pure (.list [a0, a1, a2, a3, a4, a5, a6, a7, a8, a9, a10, a11, a12, a13, a14, a15, a16, a17]) := lstK_of [a0, a1, a2, a3, a4, a5, a6, a7, a8, a9, a10, a11, a12, a13, a14, a15, a16, a17] (by simp)
@[simp] theorem lstN_18 (a0 a1 a2 a3 a4 a5 a6 a7 a8 a9 a10 a11 a12 a13 a14 a15 a16 a17 : PyData) : lstN [.d a0, .d a1, .d a2, .d a3, .d a4, .d a5, .d a6, .d a7, .d a8, .d a9, .d a10, .d a11, .d a12, .d a13, .d a14, .d a15, .d a16, .d a17] = pure [a0, a1, a2, a3, a4, a5, a6, a7, a8, a9, a10, a11, a12, a13, a14, a15, a16, a17] := lstN_of [a0, a1, a2, a3, a4, a5, a6, a7, a8, a9, a10, a11, a12, a13, a14, a15, a16, a17] (by simp)
@[simp] theorem lstK_19 (a0 a1 a2 a3 a4 a5 a6 a7 a8 a9 a10 a11 a12 a13 a14 a15 a16 a17 a18 : PyData) : lstK [.d a0, .d a1, .d a2, .d a3, .d a4, .d a5, .d a6, .d a7, .d a8, .d a9, .d a10, .d a11, .d a12, .d a13, .d a14, .d a15, .d a16, .d a17, .d a18] = pure (.list [a0, a1, a2, a3, a4, a5, a6, a7, a8, a9, a10, a11, a12, a13, a14, a15, a16, a17, a18]) := lstK_of [a0, a1, a2, a3, a4, a5, a6, a7, a8, a9, a10, a11, a12, a13, a14, a15, a16, a17, a18] (by simp)
@[simp] theorem lstN_19 (a0 a1 a2 a3 a4 a5 a6 a7 a8 a9 a10 a11 a12 a13 a14 a15 a16 a17 a18 : PyData) : lstN [.d a0, .d a1, .d a2, .d a3, .d a4, .d a5, .d a6, .d a7, .d a8, .d a9, .d a10, .d a11, .d a12, .d a13, .d a14, .d a15, .d a16, .d a17, .d a18] = pure [a0, a1, a2, a3, a4, a5, a6, a7, a8, a9, a10, a11, a12, a13, a14, a15, a16, a17, a18] := lstN_of [a0, a1, a2, a3, a4, a5, a6, a7, a8, a9, a10, a11, a12, a13, a14, a15, a16, a17, a18] (by simp)
@[simp] theorem lstK_20 (a0 a1 a2 a3 a4 a5 a6 a7 a8 a9 a10 a11 a12 a13 a14 a15 a16 a17 a18 a19 : PyData) : lstK [.d a0, .d a1, .d a2, .d a3, .d a4, .d a5, .d a6, .d a7, .d a8, .d a9, .d a10, .d a11, .d a12, .d a13, .d a14, .d a15, .d a16, .d a17, .d a18, .d a19] = pure (.list [a0, a1, a2, a3, a4, a5, a6, a7, a8, a9, a10, a11, a12, a13, a14, a15, a16, a17, a18, a19]) := lstK_of [a0, a1, a2, a3, a4, a5, a6, a7, a8, a9, a10, a11, a12, a13, a14, a15, a16, a17, a18, a19] (by simp)
@[simp] theorem lstN_20 (a0 a1 a2 a3 a4 a5 a6 a7 a8 a9 a10 a11 a12 a13 a14 a15 a16 a17 a18 a19 : PyData) : lstN [.d a0, .d a1, .d a2, .d a3, .d a4, .d a5, .d a6, .d a7, .d a8, .d a9, .d a10, .d a11, .d a12, .d a13, .d a14, .d a15, .d a16, .d a17, .d a18, .d a19] = pure [a0, a1, a2, a3, a4, a5, a6, a7, a8, a9, a10, a11, a12, a13, a14, a15, a16, a17, a18, a19] := lstN_of [a0, a1, a2, a3, a4, a5, a6, a7, a8, a9, a10, a11, a12, a13, a14, a15, a16, a17, a18, a19] (by simp)
theorem ix_mem {xs : List PyData} {v : Int} (h : 0 ≤ v) (h2 : v < xs.length) : ∃ d, d ∈ xs ∧ ixM (.list xs) (.int v) = pure d :=
  ⟨xs[v.toNat]'(by omega), List.getElem_mem _, ix_list h (List.getElem?_eq_getElem (by omega))⟩
theorem add_list {a b : List PyData} (h : a.length + b.length ≤ 16777216) : addM (.list a) (.list b) = pure (.list (a ++ b)) := by
  show ofO (if a.length + b.length ≤ line then some (PyData.list (a ++ b)) else none) = _
  rw [if_pos (show a.length + b.length ≤ line from h)]; rfl
theorem add_tuple {a b : List PyData} (h : a.length + b.length ≤ 16777216) : addM (.tuple a) (.tuple b) = pure (.tuple (a ++ b)) := by
  show ofO (if a.length + b.length ≤ line then some (PyData.tuple (a ++ b)) else none) = _
  rw [if_pos (show a.length + b.length ≤ line from h)]; rfl
@[simp] theorem int_bool (b : Bool) : intM (.bool b) = pure (.int (if b then 1 else 0)) := rfl
theorem fr_int (z : Int) : (.tuple [.int z, .int 1] : PyData) = fr (z : Rat) := rfl
theorem bt_int {z : Int} {n : Nat} (h : z.natAbs < 2 ^ n) (hn : 1 ≤ n) : Bt n (z : Rat) := ⟨h, by
  show 1 < 2 ^ n
  exact Nat.one_lt_two_pow (by omega)⟩
def IsFr (n : Nat) (d : PyData) : Prop := ∃ q, d = fr q ∧ Bt n q
theorem fraction_gen : Gen1 L.law_fraction (IsFr 50) := by
  unfold L.law_fraction
  refine Gen.frame0 ?_
  simp only [fin_bind, bind_assoc', pure_bind', fin_cond]
  refine Gen.bind (choice (by decide) (by decide)) ?_
  rintro _ ⟨t, rfl, t0, t1⟩
  simp only [sub_int, pure_bind']
  refine Gen.bind (choice (by decide) (by decide)) ?_
  rintro _ ⟨w, rfl, w0, w1⟩
  simp only [lt_int, pure_bind']
  refine Gen.cond (fun hw => ?_) fun hw => ?_
  · have hw := of_decide_eq_true hw
    simp only [tupK_2, pure_bind', lstK_3]
    obtain ⟨d, hd, e⟩ := ix_mem (xs := [.tuple [.int 0, .int 1], .tuple [.int 1, .int 1], .tuple [.int (t - 9), .int 1]]) w0 (by simpa using hw)
    simp only [e, pure_bind', fin_rt]
    refine Gen.pure ?_
    simp only [List.mem_cons, List.not_mem_nil, or_false] at hd
    rcases hd with rfl | rfl | rfl
    · exact ⟨_, fr_int 0, bt_int (by decide) (by decide)⟩
    · exact ⟨_, fr_int 1, bt_int (by decide) (by decide)⟩
    · exact ⟨_, fr_int _, bt_int (by omega) (by decide)⟩
  · rw [pow_int (by decide)]
    simp only [pure_bind', add_int, lstK_2, ofB_bind, bind_assoc']
    refine Gen.bind (choice (by decide) (by decide)) ?_
    rintro _ ⟨u, rfl, u0, u1⟩
    simp only [eq_int, ofB_pure, pure_bind', int_bool, bind_pure']
    obtain ⟨d, hd, e⟩ := ix_mem (xs := [.int 1, .int (10 ^ Int.toNat 12 + 7)]) (v := if decide (u = 0) then 1 else 0) (by split <;> decide) (by split <;> decide)
    simp only [e, pure_bind']
    obtain ⟨z, rfl, z0, z1⟩ : ∃ z : Int, d = .int z ∧ 0 ≤ z ∧ z < 2 ^ 41 := by
      simp only [List.mem_cons, List.not_mem_nil, or_false] at hd
      rcases hd with rfl | rfl
      · exact ⟨_, rfl, by decide, by decide⟩
      · exact ⟨_, rfl, by decide, by decide⟩
    rw [mul_int (mulOk_of (a := 10) (b := 50) (by omega) (by omega) (by omega))]
    simp only [pure_bind']
    refine Gen.bind (choice (by decide) (by decide)) ?_
    rintro _ ⟨v, rfl, v0, v1⟩
    have hm : ((t - 9) * z).natAbs < 2 ^ 50 := by
      rw [Int.natAbs_mul]
      have h1 : (t - 9).natAbs ≤ 9 := by omega
      have h2 : z.natAbs < 2 ^ 41 := by omega
      have := Nat.mul_le_mul h1 (Nat.le_of_lt h2)
      omega
    have hp : (2 : Nat) ^ 50 ≤ 2 ^ 9000 := Nat.pow_le_pow_right (by decide) (by decide)
    simp only [add_int, pure_bind']
    rw [low_eq _ _ (by omega) (by omega) (by omega)]
    simp only [sub_pure, pure_bind', fin_rt]
    exact Gen.pure ⟨_, rfl, .divInt hm (by omega) (by omega)⟩
theorem fraction : Gen (V.sub [0] L.law_fraction) (IsFr 50) := fraction_gen.sub
end V
set_option exponentiation.threshold 20000
namespace V
open PySem PySem.Spec ZL L2
section
variable {α β : Type}
def At (r : Cells) : Cells → Prop := fun s => ∃ st, GoodSt st ∧ s = cS st :: r
def AtL (n : Nat) : Cells → Prop := fun s => ∃ r, r.length = n ∧ At r s
def Ln (n : Nat) : Cells → Prop := fun s => s.length = n
theorem At.gen {m : M α} {k : α → M β} {P : α → Prop} {Q : β → Cells → Prop} {r : Cells} (h : Gen m P) (hk : ∀ a, P a → Tr (At r) (k a) Q) : Tr (At r) (m >>= k) Q := by
  rintro s ⟨st, g, rfl⟩
  obtain ⟨a, st', g', p, e⟩ := h st r g
  obtain ⟨b, s2, e2, q⟩ := hk a p _ ⟨st', g', rfl⟩
  exact ⟨b, s2, by rw [bind_ok e]; exact e2, q⟩
theorem At.pure {r : Cells} {a : α} {Q : α → Cells → Prop} (h : ∀ s, At r s → Q a s) : Tr (At r) (pure a : M α) Q := Tr.pure h
theorem At.set1 {k : Unit → M β} {Q : β → Cells → Prop} {r : Cells} {c : Option Cell} {xs : List PyData} (hk : Tr (At (cS xs :: r)) (k ()) Q) : Tr (At (c :: r)) (setC 1 xs >>= k) Q := by
  rintro s ⟨st, g, rfl⟩
  obtain ⟨b, s2, e2, q⟩ := hk _ ⟨st, g, rfl⟩
  refine ⟨b, s2, ?_, q⟩
  rw [bind_ok (s' := cS st :: cS xs :: r) (a := ())]
  · exact e2
  · show (if 1 < (cS st :: c :: r).length then Res.ok () _ else _) = _
    rw [if_pos (by simp)]; rfl
theorem At.get1 {k : List PyData → M β} {Q : β → Cells → Prop} {r : Cells} {xs : List PyData} (hk : Tr (At (cS xs :: r)) (k xs) Q) : Tr (At (cS xs :: r)) (getC 1 >>= k) Q := by
  rintro s ⟨st, g, rfl⟩
  obtain ⟨b, s2, e2, q⟩ := hk _ ⟨st, g, rfl⟩
  exact ⟨b, s2, (bind_ok (m := getC 1) (s' := cS st :: cS xs :: r) (a := xs) rfl).trans e2, q⟩
theorem At.app1 {k : PyData → M β} {Q : β → Cells → Prop} {r : Cells} {xs : List PyData} {d : PyData} (hz : xs.length < 16777216) (hk : Tr (At (cS (xs ++ [d]) :: r)) (k .none) Q) : Tr (At (cS xs :: r)) (appC 1 d >>= k) Q := by
  rintro s ⟨st, g, rfl⟩
  obtain ⟨b, s2, e2, q⟩ := hk _ ⟨st, g, rfl⟩
  refine ⟨b, s2, ?_, q⟩
  rw [bind_ok (s' := cS st :: cS (xs ++ [d]) :: r) (a := .none)]
  · exact e2
  · show (if xs.length < line then Res.ok PyData.none _ else _) = _
    rw [if_pos (show xs.length < line from hz)]; rfl
theorem At.cond {r : Cells} {b : Bool} {x y : M α} {Q : α → Cells → Prop} (h1 : b = true → Tr (At r) x Q) (h2 : b = false → Tr (At r) y Q) : Tr (At r) (bif b then x else y) Q := Tr.cond h1 h2
theorem Gen1.ofTr {m : M PyData} {P : PyData → Prop} {nl : Nat} (h : Tr (At (List.replicate nl none)) m fun a s => P a ∧ ∃ st r, GoodSt st ∧ s = cS st :: r) : Gen1 (V.frame nl m) P := fun st g => by
  obtain ⟨a, s', e, p, st', r, g', rfl⟩ := h _ ⟨st, g, rfl⟩
  exact ⟨a, st', g', p, by rw [frame_run (s := [cS st]) e]; rfl⟩
theorem At.out {r : Cells} {s : Cells} (h : At r s) : ∃ st r, GoodSt st ∧ s = cS st :: r := let ⟨st, g, e⟩ := h; ⟨st, r, g, e⟩
theorem AtL.tr {n : Nat} {m : M α} {Q : α → Cells → Prop} (h : ∀ r, r.length = n → Tr (At r) m Q) : Tr (AtL n) m Q := fun s ⟨r, hr, p⟩ => h r hr s p
theorem AtL.one {m : M α} {Q : α → Cells → Prop} (h : ∀ c, Tr (At [c]) m Q) : Tr (AtL 1) m Q := AtL.tr fun r hr => by
  rcases r with _ | ⟨c, _ | ⟨d, r⟩⟩ <;> simp at hr
  exact h c
theorem AtL.zero {m : M α} {Q : α → Cells → Prop} (h : Tr (At []) m Q) : Tr (AtL 0) m Q := AtL.tr fun r hr => by
  rcases r with _ | ⟨c, r⟩ <;> simp at hr
  exact h
theorem At.l {r : Cells} {s : Cells} (h : At r s) : AtL r.length s := ⟨r, rfl, h⟩
theorem Ln.set0 {n : Nat} {st : List PyData} {k : Unit → M β} {Q : β → Cells → Prop} (g : GoodSt st) (hk : Tr (AtL n) (k ()) Q) : Tr (Ln (n + 1)) (setC 0 st >>= k) Q := by
  intro s hs
  rcases s with _ | ⟨c, r⟩
  · cases hs
  · obtain ⟨b, s2, e2, q⟩ := hk (cS st :: r) ⟨r, by simpa [Ln] using hs, st, g, rfl⟩
    refine ⟨b, s2, ?_, q⟩
    rw [bind_ok (s' := cS st :: r) (a := ())]
    · exact e2
    · show (if 0 < (c :: r).length then Res.ok () _ else _) = _
      rw [if_pos (by simp)]; rfl
theorem AtL.ln {n : Nat} {s : Cells} (h : AtL n s) : Ln (n + 1) s := by
  obtain ⟨r, hr, st, _, rfl⟩ := h
  simp [Ln, hr]
theorem Tr.for0 {L γ : Type} {pt : PyData → Option γ} {body : γ → Unit → M (Fl Unit Unit)} {Q : β → Cells → Prop} {k : Fl L Unit → M β} (I : Cells → Prop) {xs : List PyData} (h : ∀ x ∈ xs, ∃ u, pt x = some u ∧ Tr I (body u ()) fun f s => f = .nx () ∧ I s) (hk : Tr I (k (.nx ())) Q) : Tr I (V.forM pt body xs () >>= k) Q := by
  refine Tr.bind (R := fun f s => f = .nx () ∧ I s) ((Tr.forM (T := Unit) (fun _ => I) (fun x hx => ?_) fun _ s p => ⟨rfl, p⟩) : Tr ((fun _ : Unit => I) ()) _ _) fun f => ?_
  · obtain ⟨u, e, hb⟩ := h x hx
    refine ⟨u, e, fun _ => (hb).post fun f s ⟨ef, p⟩ => by subst ef; exact p⟩
  · rintro s ⟨rfl, p⟩
    exact hk s p
end
theorem law_end {nl : Nat} {m : M PyData} (h : Tr (Ln nl) m fun a _ => a = .bool true) : ∃ s', V.frame nl m [] = .ok (.bool true) s' := by
  obtain ⟨a, s', e, rfl⟩ := h (List.replicate nl none) (by simp [Ln])
  exact ⟨[], by rw [frame_run (s := []) (by simpa using e)]; rfl⟩
end V
set_option exponentiation.threshold 20000
namespace V
open PySem PySem.Spec ZL L2
mutual
def ib (b : Nat) : PyData → Prop
  | .int i => i.natAbs < 2 ^ b
  | .list xs => ibA b xs
  | .tuple xs => ibA b xs
  | .dict kvs => kvs = []
  | _ => True
def ibA (b : Nat) : List PyData → Prop
  | [] => True
  | x :: xs => ib b x ∧ ibA b xs
end
theorem ibA_iff {b : Nat} : ∀ {xs : List PyData}, ibA b xs ↔ ∀ x ∈ xs, ib b x
  | [] => by simp [ibA]
  | x :: xs => by simp [ibA, ibA_iff (xs := xs)]
mutual
theorem ib_mono {b c : Nat} (h : b ≤ c) : ∀ {d : PyData}, ib b d → ib c d
  | .int i, q => Nat.lt_of_lt_of_le q (Nat.pow_le_pow_right (by decide) h)
  | .list xs, q => by simp only [ib] at *; exact ibA_mono h q
  | .tuple xs, q => by simp only [ib] at *; exact ibA_mono h q
  | .dict kvs, q => q
  | .none, _ => by simp [ib]
  | .bool _, _ => by simp [ib]
  | .str _, _ => by simp [ib]
theorem ibA_mono {b c : Nat} (h : b ≤ c) : ∀ {ds : List PyData}, ibA b ds → ibA c ds
  | [], _ => by simp [ibA]
  | x :: xs, q => ⟨ib_mono h q.1, ibA_mono h q.2⟩
end
theorem szA_app (a b : List PyData) : szA (a ++ b) = szA a + szA b := by
  induction a with
  | nil => simp [szA]
  | cons x r ih => simp only [List.cons_append, szA, ih]; omega
theorem depthAll_app (a b : List PyData) : PyData.depthAll (a ++ b) = max (PyData.depthAll a) (PyData.depthAll b) := by
  induction a with
  | nil => simp [PyData.depthAll]
  | cons x r ih => simp only [List.cons_append, PyData.depthAll, ih]; omega
theorem hasDictAll_app (a b : List PyData) : PyData.hasDictAll (a ++ b) = (PyData.hasDictAll a || PyData.hasDictAll b) := by
  induction a with
  | nil => simp [PyData.hasDictAll]
  | cons x r ih => simp only [List.cons_append, PyData.hasDictAll, ih, Bool.or_assoc]
theorem lfreeAll_app (a b : List PyData) : lfreeAll (a ++ b) = (lfreeAll a && lfreeAll b) := by
  induction a with
  | nil => simp [lfreeAll]
  | cons x r ih => simp only [List.cons_append, lfreeAll, ih, Bool.and_assoc]
theorem ibA_app {n : Nat} {a b : List PyData} : ibA n (a ++ b) ↔ ibA n a ∧ ibA n b := by
  simp only [ibA_iff, List.mem_append]
  exact ⟨fun h => ⟨fun x hx => h x (.inl hx), fun x hx => h x (.inr hx)⟩, fun h x hx => hx.elim (h.1 x) (h.2 x)⟩
theorem szA_mem {x : PyData} : ∀ {xs : List PyData}, x ∈ xs → sz x + 2 ≤ szA xs
  | y :: r, h => by
    simp only [szA]
    rcases List.mem_cons.mp h with rfl | h
    · omega
    · have := szA_mem h; omega
theorem szA_take (n : Nat) (xs : List PyData) : szA (xs.take n) + szA (xs.drop n) = szA xs := by rw [← szA_app, List.take_append_drop]
theorem depthAll_mem {x : PyData} : ∀ {xs : List PyData}, x ∈ xs → x.depth ≤ PyData.depthAll xs
  | y :: r, h => by
    simp only [PyData.depthAll]
    rcases List.mem_cons.mp h with rfl | h
    · omega
    · have := depthAll_mem h; omega
theorem depthAll_sub {a b : List PyData} (h : ∀ x ∈ a, x ∈ b) : PyData.depthAll a ≤ PyData.depthAll b := by
  induction a with
  | nil => simp [PyData.depthAll]
  | cons x r ih =>
    simp only [PyData.depthAll]
    have := depthAll_mem (h x (by simp))
    have := ih fun y hy => h y (by simp [hy])
    omega
theorem hasDictAll_iff {xs : List PyData} : PyData.hasDictAll xs = false ↔ ∀ x ∈ xs, x.hasDict = false := by
  induction xs with
  | nil => simp [PyData.hasDictAll]
  | cons x r ih => simp [PyData.hasDictAll, ih]
theorem canLayAll_iff {xs : List PyData} : PyData.canLayAll0 xs = true ↔ ∀ x ∈ xs, x.canLay0 = true := by
  induction xs with
  | nil => simp [PyData.canLayAll0]
  | cons x r ih => simp [PyData.canLayAll0, ih]
theorem lfreeAll_iff {xs : List PyData} : lfreeAll xs = true ↔ ∀ x ∈ xs, lfree x = true := by
  induction xs with
  | nil => simp [lfreeAll]
  | cons x r ih => simp [lfreeAll, ih]
theorem length_szA (xs : List PyData) : 2 * xs.length ≤ szA xs := by
  induction xs with
  | nil => simp [szA]
  | cons x r ih => simp only [szA, List.length_cons]; omega
mutual
theorem ib_showable {b : Nat} (hb : b ≤ 1920) : ∀ {d : PyData}, ib b d → d.showable = true
  | .int i, q => by
    simp only [PyData.showable, decide_eq_true_eq]
    have q : i.natAbs < 2 ^ 1920 := Nat.lt_of_lt_of_le q (Nat.pow_le_pow_right (by decide) hb)
    by_cases e : i.natAbs = 0
    · rw [e]; decide
    · exact (Nat.log2_lt e).mpr q
  | .list xs, q => by simp only [ib] at q; simp only [PyData.showable]; exact ibA_showable hb q
  | .tuple xs, q => by simp only [ib] at q; simp only [PyData.showable]; exact ibA_showable hb q
  | .dict kvs, q => by simp only [ib] at q; subst q; rfl
  | .none, _ => rfl
  | .bool _, _ => rfl
  | .str _, _ => rfl
theorem ibA_showable {b : Nat} (hb : b ≤ 1920) : ∀ {ds : List PyData}, ibA b ds → PyData.showableAll ds = true
  | [], _ => rfl
  | x :: xs, q => by simp only [PyData.showableAll, ib_showable hb q.1, ibA_showable hb q.2]; rfl
end
structure Bq (b D Z : Nat) (d : PyData) : Prop where
  i : ib b d
  dp : d.depth ≤ D
  z : sz d ≤ Z
  o : d.hasDict = false ∨ lfree d = true
structure Tq (b D Z : Nat) (d : PyData) : Prop where
  i : ib b d
  dp : d.depth ≤ D
  z : sz d ≤ Z
  c : d.canLay0 = true
  l : lfree d = true
theorem Tq.h {b D Z : Nat} {d : PyData} (h : Tq b D Z d) : d.hasDict = false := PyData.hasDict_of_canLay d h.c
theorem Tq.q {b D Z : Nat} {d : PyData} (h : Tq b D Z d) : Bq b D Z d := ⟨h.i, h.dp, h.z, .inl h.h⟩
theorem Bq.mono {b D Z b' D' Z' : Nat} {d : PyData} (h : Bq b D Z d) (h1 : b ≤ b') (h2 : D ≤ D') (h3 : Z ≤ Z') : Bq b' D' Z' d := ⟨ib_mono h1 h.i, Nat.le_trans h.dp h2, Nat.le_trans h.z h3, h.o⟩
theorem Tq.mono {b D Z b' D' Z' : Nat} {d : PyData} (h : Tq b D Z d) (h1 : b ≤ b') (h2 : D ≤ D') (h3 : Z ≤ Z') : Tq b' D' Z' d := ⟨ib_mono h1 h.i, Nat.le_trans h.dp h2, Nat.le_trans h.z h3, h.c, h.l⟩
theorem Bq.ok {b D Z : Nat} {d : PyData} (h : Bq b D Z d) (hb : b ≤ 1920) (hD : D ≤ 100) (hZ : Z ≤ 16777216) : reprOk d = true := by
  have s := ib_showable hb h.i
  unfold reprOk
  simp only [Bool.and_eq_true, decide_eq_true_eq, Bool.or_eq_true, Bool.not_eq_true']
  exact ⟨⟨⟨s, Nat.le_trans h.dp hD⟩, h.o⟩, Nat.le_trans (shown_sz d s) (Nat.le_trans h.z hZ)⟩
theorem Bq.lenOk {b D Z : Nat} {d : PyData} (h : Bq b D Z d) (hZ : Z ≤ 16777216) : lenOk d := by
  cases d with
  | tuple xs =>
    have := h.z
    have := length_szA xs
    simp only [sz] at *
    simp only [V.lenOk]
    omega
  | _ => trivial
theorem Bq.sm2 {b D Z : Nat} {d : PyData} (h : Bq b D Z d) (hb : b ≤ 9000) : sm2 d := by
  unfold V.sm2
  split
  · have := h.i
    simp only [ib, ibA] at this
    have p : (2 : Nat) ^ b ≤ 2 ^ 9000 := Nat.pow_le_pow_right (by decide) hb
    omega
  · trivial
theorem tq_int {b : Nat} {z : Int} (h : z.natAbs < 2 ^ b) : Tq b 0 1921 (.int z) := ⟨h, by simp [PyData.depth], by simp [sz], rfl, rfl⟩
theorem tq_tuple {b D Z : Nat} {xs : List PyData} (h : ∀ x ∈ xs, Tq b D Z x) {l : Nat} (hl : xs.length ≤ l) : Tq b (D + 1) (l * (Z + 2) + 3) (.tuple xs) := by
  refine ⟨by simp only [ib]; exact ibA_iff.mpr fun x hx => (h x hx).i, ?_, ?_, by simp only [PyData.canLay0]; exact canLayAll_iff.mpr fun x hx => (h x hx).c, by simp only [lfree]; exact lfreeAll_iff.mpr fun x hx => (h x hx).l⟩
  · simp only [PyData.depth]
    have : PyData.depthAll xs ≤ D := by
      clear hl
      induction xs with
      | nil => simp [PyData.depthAll]
      | cons x r ih =>
        have := (h x (by simp)).dp
        have := ih fun y hy => h y (by simp [hy])
        simp only [PyData.depthAll]; omega
    omega
  · simp only [sz]
    have : szA xs ≤ xs.length * (Z + 2) := by
      clear hl
      induction xs with
      | nil => simp [szA]
      | cons x r ih =>
        have := (h x (by simp)).z
        have := ih fun y hy => h y (by simp [hy])
        simp only [szA, List.length_cons, Nat.succ_mul]; omega
    have := Nat.mul_le_mul_right (Z + 2) hl
    omega
theorem slH_tuple {xs : List PyData} {i : Int} (h : 0 ≤ i) : slH (.tuple xs) (.int i) = pure (.tuple (xs.take i.toNat)) := by
  show pure (PyData.tuple (cutD xs none (some i))) = (pure _ : M PyData)
  congr 1; congr 1
  unfold cutD
  simp only [HT.sIx, Nat.sub_zero, List.drop_zero]
  rw [if_neg (by omega)]
  by_cases q : i ≤ (xs.length : Int)
  · congr 1; omega
  · rw [List.take_of_length_le (by omega), List.take_of_length_le (by omega)]
theorem slL_tuple {xs : List PyData} {i : Int} (h : 0 ≤ i) : slL (.tuple xs) (.int i) = pure (.tuple (xs.drop i.toNat)) := by
  show pure (PyData.tuple (cutD xs (some i) none)) = (pure _ : M PyData)
  congr 1; congr 1
  unfold cutD
  simp only [HT.sIx]
  rw [if_neg (by omega)]
  by_cases q : i ≤ (xs.length : Int)
  · rw [show min i.toNat xs.length = i.toNat by omega, List.take_of_length_le (by rw [List.length_drop]; omega)]
  · rw [show min i.toNat xs.length = xs.length by omega, List.drop_of_length_le (Nat.le_refl _), List.drop_of_length_le (by omega)]; simp
theorem slH_neg {xs : List PyData} : slH (.tuple xs) (.int (-1)) = pure (.tuple (xs.take (xs.length - 1))) := by
  show pure (PyData.tuple (cutD xs none (some (-1)))) = (pure _ : M PyData)
  congr 1; congr 1
  unfold cutD
  simp only [HT.sIx, Nat.sub_zero, List.drop_zero]
  rw [if_pos (by decide)]
  congr 1; omega
theorem slL_neg {xs : List PyData} : slL (.tuple xs) (.int (-1)) = pure (.tuple (xs.drop (xs.length - 1))) := by
  show pure (PyData.tuple (cutD xs (some (-1)) none)) = (pure _ : M PyData)
  congr 1; congr 1
  unfold cutD
  simp only [HT.sIx]
  rw [if_pos (by decide), show ((-1 : Int) + (xs.length : Int)).toNat = xs.length - 1 by omega, List.take_of_length_le (by rw [List.length_drop]; omega)]
theorem rev_tuple (xs : List PyData) : revM (.tuple xs) = pure (.tuple xs.reverse) := rfl
theorem list_tuple (xs : List PyData) : listM (.tuple xs) = pure (.list xs) := rfl
theorem ne_empty (xs : List PyData) (h : SeqAt.shaped (.tuple xs) = true) : neM (.tuple xs) (.tuple []) = pure (!(xs.isEmpty)) := by
  show ofO (if SeqAt.shaped (.tuple xs) && SeqAt.shaped (.tuple []) then some (!PyData.eqv (.tuple xs) (.tuple [])) else none) = _
  rw [h, if_pos (by rfl)]
  cases xs <;> simp [PyData.eqv, PyData.eqvAll]
def bentT (odd : M PyData) : Nat → PyData → M PyData
  | 0, _ => bad
  | n + 1, a0 => V.frame 1 (fin ((tAnd ((pure (isO .tuple a0)) >>= toB) (tAnd ((tupK []) >>= fun x2 => (neM a0 x2)) ((sub [0] (L.law_choice (.int 5))) >>= fun x1 => (gtM x1 (.int 0))))) >>= fun b3 => bif b3 then (((lenM a0) >>= fun x5 => (sub [0] (L.law_choice x5))) >>= fun v4 => ((((slH a0 v4) >>= fun x6 => (((ixM a0 v4) >>= fun x7 => (sub [0] (bentT odd n x7))) >>= fun x8 => (tupK [.d x8])) >>= fun x9 => (addM x6 x9)) >>= fun x10 => ((addM v4 (.int 1)) >>= fun x11 => (slL a0 x11)) >>= fun x12 => (addM x10 x12)) >>= fun x13 => pure (.rt x13))) else ((sub [0] (L.law_choice (.int 9))) >>= fun v14 => ((tAnd ((pure (isO .tuple a0)) >>= toB) (ltM v14 (.int 7))) >>= fun b15 => bif b15 then (((((negM (.int 1)) >>= fun x16 => (slL a0 x16)) >>= fun x17 => (addM a0 x17)) >>= fun x18 => ((negM (.int 1)) >>= fun x19 => (slH a0 x19)) >>= fun x20 => (slL a0 (.int 1)) >>= fun x21 => (revM a0) >>= fun x22 => (listM a0) >>= fun x23 => ((tupK [.d (.int 0)]) >>= fun x24 => (addM a0 x24)) >>= fun x25 => (lstN [.d x18, .d x20, .d x21, .d x22, .d x23, .d x25])) >>= fun xs32 => setC 1 xs32 >>= fun _ => ((getC 1 >>= fun _ => ((tupK [.d a0]) >>= fun x26 => (addM a0 x26)) >>= fun x27 => appC 1 x27) >>= fun _u31 => ((getC 1 >>= fun xs29 => (ixM (.list xs29) v14)) >>= fun x30 => pure (.rt x30)))) else ((tAnd ((sub [] (L.law_whole a0)) >>= toB) (ltM v14 (.int 6))) >>= fun b33 => bif b33 then (((((negM (.int 1)) >>= fun x34 => (negM (.int 101)) >>= fun x35 => (lstK [.d (.int 1), .d x34, .d (.int 2), .d (.int 30), .d x35, .d (.int 5)])) >>= fun x36 => (ixM x36 v14)) >>= fun x37 => (addM a0 x37)) >>= fun x38 => pure (.rt x38)) else ((sub [0] (odd)) >>= fun x39 => pure (.rt x39)))))))
theorem shaped_tq {b D Z : Nat} {d : PyData} (h : Tq b D Z d) (hD : D ≤ 64) : SeqAt.shaped d = true := by
  unfold SeqAt.shaped
  rw [h.c, decide_eq_true (Nat.le_trans h.dp hD)]; rfl
theorem tq_mem {b D Z : Nat} {xs : List PyData} (h : Tq b D Z (.tuple xs)) : ∀ x ∈ xs, Tq b (D - 1) (sz x) x := by
  intro x hx
  have h1 := h.i; have h2 := h.dp; have h3 := h.c; have h4 := h.l
  simp only [ib] at h1
  simp only [PyData.depth] at h2
  simp only [PyData.canLay0] at h3
  simp only [lfree] at h4
  have := depthAll_mem hx
  exact ⟨ibA_iff.mp h1 x hx, by omega, Nat.le_refl _, canLayAll_iff.mp h3 x hx, lfreeAll_iff.mp h4 x hx⟩
theorem tq_some {b D Z : Nat} {xs ys : List PyData} (h : Tq b D Z (.tuple xs)) (hs : ∀ y ∈ ys, y ∈ xs) : ibA b ys ∧ PyData.depthAll ys + 1 ≤ D ∧ PyData.hasDictAll ys = false ∧ lfreeAll ys = true := by
  have h1 := h.i; have h2 := h.dp; have h3 := h.h; have h4 := h.l
  simp only [ib] at h1
  simp only [PyData.depth] at h2
  simp only [PyData.hasDict] at h3
  simp only [lfree] at h4
  have := depthAll_sub hs
  exact ⟨ibA_iff.mpr fun y hy => ibA_iff.mp h1 y (hs y hy), by omega, hasDictAll_iff.mpr fun y hy => hasDictAll_iff.mp h3 y (hs y hy), lfreeAll_iff.mpr fun y hy => lfreeAll_iff.mp h4 y (hs y hy)⟩
theorem szA_rev (xs : List PyData) : szA xs.reverse = szA xs := by
  induction xs with
  | nil => rfl
  | cons x r ih => rw [List.reverse_cons, szA_app, ih]; simp only [szA]; omega
theorem bent_gen {odd : M PyData} {b : Nat} {K : Nat} (hK : 4000 ≤ K) (hb : 8 ≤ b) (ho : Gen1 odd (Bq (b + 1) 3 K)) : ∀ (n D : Nat) (d : PyData) (Z : Nat), D < n → D ≤ 60 → Z ≤ 1000000 → Tq b D Z d → Gen1 (bentT odd n d) (Bq (b + 1) (D + 3) (2 * sz d + K)) := by
  intro n
  induction n with
  | zero => intro D d Z h; omega
  | succ n ih =>
    intro D d Z hD hD2 hZ h
    unfold bentT
    refine Gen1.ofTr ?_
    simp only [fin_bind, bind_assoc', pure_bind', fin_cond, fin_rt, toB_bool, isO, tAnd_pure, tupK_nil, tAnd_bind, neg_int, pure_bind']
    have odd' : ∀ r : Cells, Tr (At r) (V.sub [0] odd >>= fun x39 => (pure x39 : M PyData)) fun a s => Bq (b + 1) (D + 3) (2 * sz d + K) a ∧ ∃ st r, GoodSt st ∧ s = cS st :: r := fun r =>
      At.gen ho.sub fun a ha => At.pure fun s hs => ⟨ha.mono (Nat.le_refl _) (by omega) (by omega), hs.out⟩
    have low : Tr (At (List.replicate 1 none)) (V.sub [0] (L.law_choice (.int 9)) >>= fun v14 => (bif isD .tuple d then (ltM v14 (.int 7)) else pure false) >>= fun b15 => bif b15 then (slL d (.int (-1)) >>= fun x17 => addM d x17 >>= fun x18 => slH d (.int (-1)) >>= fun x20 => slL d (.int 1) >>= fun x21 => revM d >>= fun x22 => listM d >>= fun x23 => tupK [.d (.int 0)] >>= fun x24 => addM d x24 >>= fun x25 => lstN [.d x18, .d x20, .d x21, .d x22, .d x23, .d x25] >>= fun xs32 => setC 1 xs32 >>= fun _ => getC 1 >>= fun _ => tupK [.d d] >>= fun x26 => addM d x26 >>= fun x27 => appC 1 x27 >>= fun _ => getC 1 >>= fun xs29 => ixM (.list xs29) v14 >>= fun x30 => pure x30)
        else (V.sub [] (L.law_whole d) >>= fun a => tAnd (toB a) (ltM v14 (.int 6)) >>= fun b33 => bif b33 then (lstK [.d (.int 1), .d (.int (-1)), .d (.int 2), .d (.int 30), .d (.int (-101)), .d (.int 5)] >>= fun x36 => ixM x36 v14 >>= fun x37 => addM d x37 >>= fun x38 => pure x38) else (V.sub [0] odd >>= fun x39 => pure x39)))
        fun a s => Bq (b + 1) (D + 3) (2 * sz d + K) a ∧ ∃ st r, GoodSt st ∧ s = cS st :: r := by
      refine At.gen (choice (by decide) (by decide)) ?_
      rintro _ ⟨v, rfl, v0, v1⟩
      simp only [lt_int, law_whole_eq, sub_pure, pure_bind', toB_bool, tAnd_pure]
      cases d with
      | tuple xs =>
        simp only [isD, cond_true, pure_bind']
        refine At.cond (fun hv => ?_) fun hv => ?_
        · have hv := of_decide_eq_true hv
          have zz := h.z
          simp only [sz] at zz
          have ll := length_szA xs
          simp only [slL_neg, slH_neg, slL_tuple (show (0 : Int) ≤ 1 by decide), rev_tuple, list_tuple, tupK_1, pure_bind']
          rw [add_tuple (by rw [List.length_drop]; omega), pure_bind', add_tuple (by simp; omega), pure_bind', lstN_6, pure_bind']
          refine At.set1 ?_
          refine At.get1 ?_
          rw [add_tuple (by simp; omega), pure_bind']
          refine At.app1 (by simp) ?_
          refine At.get1 ?_
          obtain ⟨o, hmem, e⟩ := ix_mem (xs := [PyData.tuple (xs ++ List.drop (xs.length - 1) xs), PyData.tuple (List.take (xs.length - 1) xs), PyData.tuple (List.drop (Int.toNat 1) xs), PyData.tuple xs.reverse, PyData.list xs, PyData.tuple (xs ++ [PyData.int 0])] ++ [PyData.tuple (xs ++ [PyData.tuple xs])]) v0 (by simp; omega)
          rw [e, bind_pure']
          refine At.pure fun s hs => ⟨?_, hs.out⟩
          obtain ⟨a1, a2, a3, a4⟩ := tq_some h (ys := xs) fun _ h => h
          have drop_ok : ∀ k, ibA b (xs.drop k) ∧ PyData.depthAll (xs.drop k) + 1 ≤ D ∧ PyData.hasDictAll (xs.drop k) = false ∧ lfreeAll (xs.drop k) = true := fun k => tq_some h fun y hy => List.mem_of_mem_drop hy
          have take_ok : ∀ k, ibA b (xs.take k) ∧ PyData.depthAll (xs.take k) + 1 ≤ D ∧ PyData.hasDictAll (xs.take k) = false ∧ lfreeAll (xs.take k) = true := fun k => tq_some h fun y hy => List.mem_of_mem_take hy
          have rev_ok : ibA b xs.reverse ∧ PyData.depthAll xs.reverse + 1 ≤ D ∧ PyData.hasDictAll xs.reverse = false ∧ lfreeAll xs.reverse = true := tq_some h fun y hy => by simpa using hy
          have zd : ∀ k, szA (xs.drop k) ≤ szA xs := fun k => by have := szA_take k xs; omega
          have zt : ∀ k, szA (xs.take k) ≤ szA xs := fun k => by have := szA_take k xs; omega
          simp only [List.cons_append, List.nil_append, List.mem_cons, List.not_mem_nil, or_false] at hmem
          rcases hmem with rfl | rfl | rfl | rfl | rfl | rfl | rfl
          · obtain ⟨d1, d2, d3, d4⟩ := drop_ok (xs.length - 1)
            have := zd (xs.length - 1)
            exact ⟨by simp only [ib]; exact ibA_mono (by omega) (ibA_app.mpr ⟨a1, d1⟩), by simp only [PyData.depth, depthAll_app]; omega, by simp only [sz, szA_app]; omega, .inl (by simp only [PyData.hasDict, hasDictAll_app, a3, d3]; rfl)⟩
          · obtain ⟨d1, d2, d3, d4⟩ := take_ok (xs.length - 1)
            have := zt (xs.length - 1)
            exact ⟨by simp only [ib]; exact ibA_mono (by omega) d1, by simp only [PyData.depth]; omega, by simp only [sz]; omega, .inl (by simp only [PyData.hasDict, d3])⟩
          · obtain ⟨d1, d2, d3, d4⟩ := drop_ok (Int.toNat 1)
            have := zd (Int.toNat 1)
            exact ⟨by simp only [ib]; exact ibA_mono (by omega) d1, by simp only [PyData.depth]; omega, by simp only [sz]; omega, .inl (by simp only [PyData.hasDict, d3])⟩
          · obtain ⟨d1, d2, d3, d4⟩ := rev_ok
            exact ⟨by simp only [ib]; exact ibA_mono (by omega) d1, by simp only [PyData.depth]; omega, by simp only [sz, szA_rev]; omega, .inl (by simp only [PyData.hasDict, d3])⟩
          · exact ⟨by simp only [ib]; exact ibA_mono (by omega) a1, by simp only [PyData.depth]; omega, by simp only [sz]; omega, .inl (by simp only [PyData.hasDict, a3])⟩
          · refine ⟨by simp only [ib]; exact ibA_mono (by omega) (ibA_app.mpr ⟨a1, by simp [ibA, ib, Nat.two_pow_pos]⟩), by simp only [PyData.depth, depthAll_app, PyData.depthAll]; omega, by simp only [sz, szA_app, szA]; omega, .inl (by simp only [PyData.hasDict, hasDictAll_app, a3]; rfl)⟩
          · refine ⟨by simp only [ib]; exact ibA_mono (by omega) (ibA_app.mpr ⟨a1, by simp only [ibA, ib, and_true]; exact a1⟩), by simp only [PyData.depth, depthAll_app, PyData.depthAll]; omega, by simp only [sz, szA_app, szA]; omega, .inl (by simp only [PyData.hasDict, hasDictAll_app, PyData.hasDictAll, a3]; rfl)⟩
        · simp only [isW, cond_false, pure_bind']
          exact odd' _
      | int z =>
        simp only [isD, isW, cond_false, cond_true, pure_bind']
        refine At.cond (fun hv => ?_) fun hv => odd' _
        have hv := of_decide_eq_true hv
        rw [lstK_6, pure_bind']
        obtain ⟨o, hmem, e⟩ := ix_mem (xs := [PyData.int 1, PyData.int (-1), PyData.int 2, PyData.int 30, PyData.int (-101), PyData.int 5]) v0 (by simp; omega)
        rw [e, pure_bind']
        obtain ⟨w, rfl, hw⟩ : ∃ w : Int, o = .int w ∧ w.natAbs ≤ 101 := by
          simp only [List.mem_cons, List.not_mem_nil, or_false] at hmem
          rcases hmem with rfl | rfl | rfl | rfl | rfl | rfl <;> exact ⟨_, rfl, by decide⟩
        rw [add_int, pure_bind']
        refine At.pure fun s hs => ⟨⟨?_, by simp [PyData.depth], by simp [sz]; omega, .inl rfl⟩, hs.out⟩
        have := h.i
        simp only [ib] at *
        have : (2 : Nat) ^ 8 ≤ 2 ^ b := Nat.pow_le_pow_right (by decide) hb
        rw [Nat.pow_succ]
        omega
      | _ =>
        simp only [isD, isW, cond_false, pure_bind']
        exact odd' _
    cases d with
    | tuple xs =>
      have sh := shaped_tq h (by omega)
      simp only [isD, cond_true, ne_empty xs sh, pure_bind', tAnd_pure]
      by_cases hx : xs = []
      · subst hx
        simp only [List.isEmpty_nil, Bool.not_true, cond_false, pure_bind']
        simpa only [isD, cond_true, pure_bind', bind_assoc', tAnd_pure, tAnd_bind] using low
      · have hx' : xs.isEmpty = false := by cases xs <;> simp at hx ⊢
        simp only [hx', Bool.not_false, cond_true, bind_assoc']
        refine At.gen (choice (by decide) (by decide)) ?_
        rintro _ ⟨u, rfl, u0, u1⟩
        simp only [gt_int, pure_bind']
        refine At.cond (fun hu => ?_) fun hu => ?_
        · simp only [len_tuple, pure_bind']
          have hl : 0 < xs.length := List.length_pos_iff.mpr hx
          have zz := h.z
          simp only [sz] at zz
          have ll := length_szA xs
          refine At.gen (choice (by omega) (by omega)) ?_
          rintro _ ⟨v, rfl, v0, v1⟩
          have hi : v.toNat < xs.length := by omega
          have em : xs[v.toNat]? = some xs[v.toNat] := List.getElem?_eq_getElem hi
          rw [slH_tuple v0, pure_bind', ix_tuple v0 em, pure_bind']
          have hm := tq_mem h _ (List.getElem_mem hi)
          have hDp : 1 ≤ D := by have := h.dp; simp only [PyData.depth] at this; omega
          have hsz := szA_mem (List.getElem_mem hi)
          refine At.gen ((ih (D - 1) _ _ (by omega) (by omega) (by omega) hm).sub) fun o ho' => ?_
          rw [tupK_1, pure_bind', add_tuple (by simp; omega), pure_bind', add_int, pure_bind', slL_tuple (by omega), pure_bind', add_tuple (by simp; omega), pure_bind']
          refine At.pure fun s hs => ⟨?_, hs.out⟩
          obtain ⟨t1, t2, t3, t4⟩ := tq_some h (ys := xs.take v.toNat) fun y hy => List.mem_of_mem_take hy
          obtain ⟨r1, r2, r3, r4⟩ := tq_some h (ys := xs.drop (v + 1).toNat) fun y hy => List.mem_of_mem_drop hy
          have e1 : szA (xs.take v.toNat) + (sz xs[v.toNat] + 2) + szA (xs.drop (v + 1).toNat) = szA xs := by
            have := szA_take v.toNat xs
            rw [List.drop_eq_getElem_cons hi] at this
            simp only [szA] at this
            rw [show (v + 1).toNat = v.toNat + 1 by omega]
            omega
          have oz := ho'.z
          have od := ho'.dp
          refine ⟨?_, ?_, ?_, ?_⟩
          · simp only [ib]
            exact ibA_app.mpr ⟨ibA_app.mpr ⟨ibA_mono (by omega) t1, ⟨ho'.i, trivial⟩⟩, ibA_mono (by omega) r1⟩
          · simp only [PyData.depth, depthAll_app, PyData.depthAll]; omega
          · simp only [sz, szA_app, szA]; omega
          · rcases ho'.o with q | q
            · exact .inl (by simp only [PyData.hasDict, hasDictAll_app, PyData.hasDictAll, t3, r3, q]; rfl)
            · exact .inr (by simp only [lfree, lfreeAll_app, lfreeAll, t4, r4, q]; rfl)
        · simpa only [isD, cond_true, pure_bind', bind_assoc', tAnd_pure, tAnd_bind] using low
    | _ =>
      simp only [isD, cond_false, pure_bind']
      simpa only [isD, cond_false, pure_bind', bind_assoc', tAnd_pure, tAnd_bind] using low
theorem bent_same (n : Nat) : ∀ x, L.law_bent n x = bentT L.law_odd n x := by
  induction n with
  | zero => intro x; rfl
  | succ n ih => intro x; unfold L.law_bent bentT; simp only [ih]
end V
set_option exponentiation.threshold 20000
namespace V
open PySem PySem.Spec ZL L2
@[simp] theorem fr_0 (q : Rat) : ixM (fr q) (.int 0) = pure (.int q.num) := ix_tuple (by decide) rfl
@[simp] theorem fr_1 (q : Rat) : ixM (fr q) (.int 1) = pure (.int q.den) := ix_tuple (by decide) rfl
theorem add_divInt (p q : Rat) : Rat.divInt (p.num * q.den + q.num * p.den) (p.den * q.den) = p + q := by
  have hp : (p.den : Int) ≠ 0 := by have := p.den_pos; omega
  have hq : (q.den : Int) ≠ 0 := by have := q.den_pos; omega
  have := Rat.divInt_add_divInt p.num q.num hp hq
  rw [Rat.num_divInt_den, Rat.num_divInt_den] at this
  exact this.symm
theorem sub_divInt (p q : Rat) : Rat.divInt (p.num * q.den - q.num * p.den) (p.den * q.den) = p - q := by
  have hp : (p.den : Int) ≠ 0 := by have := p.den_pos; omega
  have hq : (q.den : Int) ≠ 0 := by have := q.den_pos; omega
  have := Rat.divInt_sub_divInt p.num q.num hp hq
  rw [Rat.num_divInt_den, Rat.num_divInt_den] at this
  exact this.symm
theorem mul_divInt (p q : Rat) : Rat.divInt (p.num * q.num) (p.den * q.den) = p * q := by
  have := Rat.divInt_mul_divInt p.num q.num (d₁ := (p.den : Int)) (d₂ := (q.den : Int))
  rw [Rat.num_divInt_den, Rat.num_divInt_den] at this
  exact this.symm
theorem div_divInt (p q : Rat) : Rat.divInt (p.num * q.den) (p.den * q.num) = p / q := by
  have h1 : p / q = p * q⁻¹ := Rat.div_def p q
  have h2 : q⁻¹ = Rat.divInt q.den q.num := by
    have := Rat.inv_divInt q.num q.den
    rw [Rat.num_divInt_den] at this
    exact this
  have h3 := Rat.divInt_mul_divInt p.num (q.den : Int) (d₁ := (p.den : Int)) (d₂ := q.num)
  rw [Rat.num_divInt_den, ← h2, ← h1] at h3
  exact h3.symm
theorem neg_num (q : Rat) : (-q).num = -q.num := rfl
theorem neg_den (q : Rat) : (-q).den = q.den := rfl
theorem mul_lt_pow {x y a b : Nat} (hx : x < 2 ^ a) (hy : y < 2 ^ b) : x * y < 2 ^ (a + b) := by
  rw [Nat.pow_add]
  exact Nat.mul_lt_mul'' hx hy
theorem den_ne (q : Rat) : (q.den : Int) ≠ 0 := by have := q.den_pos; omega
theorem Bt.one {n : Nat} {q : Rat} (h : Bt n q) : 1 ≤ n := by
  have := h.2; have := q.den_pos
  rcases Nat.eq_zero_or_pos n with e | e
  · subst e; simp at *; omega
  · exact e
section
variable {p q : Rat} {a b : Nat}
theorem add_num (hp : Bt a p) (hq : Bt b q) : (p.num * q.den + q.num * p.den).natAbs < 2 ^ (a + b + 1) := by
  have h1 := mul_lt_pow hp.1 hq.2
  have h2 := mul_lt_pow hq.1 hp.2
  rw [Nat.add_comm b a] at h2
  have e1 : (p.num * q.den).natAbs = p.num.natAbs * q.den := by rw [Int.natAbs_mul]; rfl
  have e2 : (q.num * p.den).natAbs = q.num.natAbs * p.den := by rw [Int.natAbs_mul]; rfl
  rw [Nat.pow_succ]
  omega
theorem sub_num (hp : Bt a p) (hq : Bt b q) : (p.num * q.den - q.num * p.den).natAbs < 2 ^ (a + b + 1) := by
  have h1 := mul_lt_pow hp.1 hq.2
  have h2 := mul_lt_pow hq.1 hp.2
  rw [Nat.add_comm b a] at h2
  have e1 : (p.num * q.den).natAbs = p.num.natAbs * q.den := by rw [Int.natAbs_mul]; rfl
  have e2 : (q.num * p.den).natAbs = q.num.natAbs * p.den := by rw [Int.natAbs_mul]; rfl
  rw [Nat.pow_succ]
  omega
theorem den_mul (hp : Bt a p) (hq : Bt b q) : ((p.den : Int) * q.den).natAbs < 2 ^ (a + b) := by
  rw [Int.natAbs_mul]
  exact mul_lt_pow hp.2 hq.2
theorem den_mul_ne (p q : Rat) : ((p.den : Int) * q.den) ≠ 0 := Int.mul_ne_zero (den_ne p) (den_ne q)
theorem num_mul (hp : Bt a p) (hq : Bt b q) : (p.num * q.num).natAbs < 2 ^ (a + b) := by
  rw [Int.natAbs_mul]; exact mul_lt_pow hp.1 hq.1
theorem nd_mul (hp : Bt a p) (hq : Bt b q) : (p.num * (q.den : Int)).natAbs < 2 ^ (a + b) := by
  rw [Int.natAbs_mul]; exact mul_lt_pow hp.1 hq.2
theorem dn_mul (hp : Bt a p) (hq : Bt b q) : ((p.den : Int) * q.num).natAbs < 2 ^ (a + b) := by
  rw [Int.natAbs_mul]; exact mul_lt_pow hp.2 hq.1
theorem Bt.add (hp : Bt a p) (hq : Bt b q) : Bt (a + b + 1) (p + q) := by
  rw [← add_divInt]
  exact .divInt (add_num hp hq) (Nat.lt_of_lt_of_le (den_mul hp hq) (Nat.pow_le_pow_right (by decide) (by omega))) (den_mul_ne p q)
theorem Bt.sub (hp : Bt a p) (hq : Bt b q) : Bt (a + b + 1) (p - q) := by
  rw [← sub_divInt]
  exact .divInt (sub_num hp hq) (Nat.lt_of_lt_of_le (den_mul hp hq) (Nat.pow_le_pow_right (by decide) (by omega))) (den_mul_ne p q)
theorem Bt.mul (hp : Bt a p) (hq : Bt b q) : Bt (a + b) (p * q) := by
  rw [← mul_divInt]
  exact .divInt (num_mul hp hq) (den_mul hp hq) (den_mul_ne p q)
theorem Bt.neg (hp : Bt a p) : Bt a (-p) := by
  unfold Bt
  rw [neg_num, neg_den, Int.natAbs_neg]
  exact hp
theorem big_le {x n : Nat} (h : x < 2 ^ n) (hn : n ≤ 9000) : x < 2 ^ 9000 := Nat.lt_of_lt_of_le h (Nat.pow_le_pow_right (by decide) hn)
theorem mulI {x y : Int} {m n : Nat} (hx : x.natAbs < 2 ^ m) (hy : y.natAbs < 2 ^ n) (h : m + n ≤ 9000) : mulM (.int x) (.int y) = pure (.int (x * y)) := mul_int (mulOk_of hx hy (by omega))
theorem den_abs {n : Nat} {q : Rat} (h : Bt n q) : ((q.den : Int)).natAbs < 2 ^ n := h.2
theorem plus_by_eq (hp : Bt a p) (hq : Bt b q) (h : a + b < 9000) : L.plus_by (fr p) (fr q) = pure (fr (p + q)) := by
  unfold L.plus_by
  simp only [fr_0, fr_1, pure_bind']
  rw [mulI hp.1 (den_abs hq) (by omega), pure_bind', mulI hq.1 (den_abs hp) (by omega), pure_bind', add_int, pure_bind', mulI (den_abs hp) (den_abs hq) (by omega), pure_bind',
    made_by_eq _ _ (big_le (add_num hp hq) (by omega)) (big_le (den_mul hp hq) (by omega)) (den_mul_ne p q), add_divInt]
  simp
theorem minus_by_eq (hp : Bt a p) (hq : Bt b q) (h : a + b < 9000) : L.minus_by (fr p) (fr q) = pure (fr (p - q)) := by
  unfold L.minus_by
  simp only [fr_0, fr_1, pure_bind']
  rw [mulI hp.1 (den_abs hq) (by omega), pure_bind', mulI hq.1 (den_abs hp) (by omega), pure_bind', sub_int, pure_bind', mulI (den_abs hp) (den_abs hq) (by omega), pure_bind',
    made_by_eq _ _ (big_le (sub_num hp hq) (by omega)) (big_le (den_mul hp hq) (by omega)) (den_mul_ne p q), sub_divInt]
  simp
theorem times_by_eq (hp : Bt a p) (hq : Bt b q) (h : a + b < 9000) : L.times_by (fr p) (fr q) = pure (fr (p * q)) := by
  unfold L.times_by
  simp only [fr_0, fr_1, pure_bind']
  rw [mulI hp.1 hq.1 (by omega), pure_bind', mulI (den_abs hp) (den_abs hq) (by omega), pure_bind',
    made_by_eq _ _ (big_le (num_mul hp hq) (by omega)) (big_le (den_mul hp hq) (by omega)) (den_mul_ne p q), mul_divInt]
  simp
theorem over_by_eq (hp : Bt a p) (hq : Bt b q) (h : a + b < 9000) (h0 : q ≠ 0) : L.over_by (fr p) (fr q) = pure (fr (p / q)) := by
  unfold L.over_by
  simp only [fr_0, fr_1, pure_bind']
  rw [mulI hp.1 (den_abs hq) (by omega), pure_bind', mulI (den_abs hp) hq.1 (by omega), pure_bind',
    made_by_eq _ _ (big_le (nd_mul hp hq) (by omega)) (big_le (dn_mul hp hq) (by omega)) (Int.mul_ne_zero (den_ne p) (mt Rat.num_eq_zero.mp h0)), div_divInt]
  simp
theorem lt_iff_cross (p q : Rat) : p.num * q.den < q.num * p.den ↔ p < q := (Rat.lt_iff p q).symm
theorem less_by_eq (hp : Bt a p) (hq : Bt b q) (h : a + b < 9000) : L.less_by (fr p) (fr q) = pure (.bool (decide (p < q))) := by
  unfold L.less_by
  simp only [fr_0, fr_1, pure_bind']
  rw [mulI hp.1 (den_abs hq) (by omega), pure_bind', mulI hq.1 (den_abs hp) (by omega), pure_bind', lt_int]
  simp only [ofB_pure, pure_bind', fin_rt, frame_pure]
  have e : decide (p.num * q.den < q.num * p.den) = decide (p < q) := by rw [decide_eq_decide]; exact lt_iff_cross p q
  rw [e]
theorem lenOk_fr (q : Rat) : lenOk (fr q) := by simp [lenOk, fr]
theorem sm2_fr (hp : Bt a p) (h : a ≤ 9000) : sm2 (fr p) := ⟨big_le hp.1 h, big_le (den_abs hp) h⟩
theorem is_fraction_fr (hp : Bt a p) (h : a ≤ 9000) : L.is_fraction (fr p) = pure (.bool true) := by rw [is_fraction_eq _ (lenOk_fr p) (sm2_fr hp h), isFr_fr]
theorem need_fraction_fr (hp : Bt a p) (h : a ≤ 9000) : L.need_fraction (fr p) = pure .none := by
  unfold L.need_fraction
  rw [is_fraction_fr hp h]; simp
theorem need_two_fr (hp : Bt a p) (hq : Bt b q) (h : a ≤ 9000) (h2 : b ≤ 9000) : L.need_two (fr p) (fr q) = pure .none := by
  unfold L.need_two
  rw [need_fraction_fr hp h, need_fraction_fr hq h2]; simp
theorem plus_eq (hp : Bt a p) (hq : Bt b q) (h : a + b < 9000) : L.plus (fr p) (fr q) = pure (fr (p + q)) := by
  unfold L.plus; rw [need_two_fr hp hq (by omega) (by omega), plus_by_eq hp hq h]; simp
theorem minus_eq (hp : Bt a p) (hq : Bt b q) (h : a + b < 9000) : L.minus (fr p) (fr q) = pure (fr (p - q)) := by
  unfold L.minus; rw [need_two_fr hp hq (by omega) (by omega), minus_by_eq hp hq h]; simp
theorem times_eq (hp : Bt a p) (hq : Bt b q) (h : a + b < 9000) : L.times (fr p) (fr q) = pure (fr (p * q)) := by
  unfold L.times; rw [need_two_fr hp hq (by omega) (by omega), times_by_eq hp hq h]; simp
theorem less_eq (hp : Bt a p) (hq : Bt b q) (h : a + b < 9000) : L.less (fr p) (fr q) = pure (.bool (decide (p < q))) := by
  unfold L.less; rw [need_two_fr hp hq (by omega) (by omega), less_by_eq hp hq h]; simp
theorem nought_fr : (.tuple [.int 0, .int 1] : PyData) = fr 0 := rfl
theorem eq_fr (p q : Rat) : eqM (fr p) (fr q) = pure (decide (p = q)) := by
  unfold fr
  rw [eq_pair]
  congr 1
  by_cases h : p = q
  · subst h; simp
  · rw [decide_eq_false h, Bool.and_eq_false_iff]
    by_cases h1 : p.num = q.num
    · right
      refine decide_eq_false fun h2 => h (Rat.ext h1 (by omega))
    · left; exact decide_eq_false h1
theorem over_eq (hp : Bt a p) (hq : Bt b q) (h : a + b < 9000) (h0 : q ≠ 0) : L.over (fr p) (fr q) = pure (fr (p / q)) := by
  unfold L.over; rw [need_two_fr hp hq (by omega) (by omega), nought_fr, eq_fr, decide_eq_false h0, over_by_eq hp hq h h0]; simp
end
end V
namespace V
open PySem PySem.Spec ZL L2
theorem law_cells {β : Type} {n : Nat} (ns : List Int) (h63 : ns.length ≤ 63) (most : Int) {body : List PyData → M (Fl Unit Unit)} {k : Fl Unit Unit → M β} {Q : β → Cells → Prop} (hb : ∀ (i : Nat) st, GoodSt st → Tr (AtL n) (body st) fun f s => f = .nx () ∧ Ln (n + 1) s) (hk : Tr (Ln (n + 1)) (k (.nx ())) Q) :
    Tr (Ln (n + 1)) (rangeM (.int 0) (.int (max 1 (min (ns.length : Int) most))) >>= fun xs => V.forM pN (fun u5 (_ : Unit) => callL (sub [] (L.law_state (.list (ns.map PyData.int)) u5)) >>= fun st => setC 0 st >>= fun _ => body st) xs () >>= k) Q := by
  obtain ⟨m, em⟩ : ∃ m : Int, m = max 1 (min (ns.length : Int) most) := ⟨_, rfl⟩
  have hm : m < 2 ^ 62 := by omega
  · have r1 : rangeM (.int 0) (.int m) = pure (rangeD 0 m.toNat) := by
      show ofO (if _ then _ else _) = _
      rw [if_pos (by simp; omega)]; simp
    rw [← em, r1, pure_bind']
    refine Tr.for0 (Ln (n + 1)) (fun x hx => ?_) hk
    obtain ⟨i, rfl⟩ : ∃ i : Nat, x = .int (i : Int) := by
      simp only [rangeD, List.mem_map] at hx
      obtain ⟨i, _, rfl⟩ := hx
      exact ⟨i, by simp⟩
    refine ⟨_, rfl, ?_⟩
    obtain ⟨st, g, es⟩ := state_eq ns i (by omega)
    rw [es, sub_pure, show callL (pure (PyData.list st)) = pure st from rfl, pure_bind']
    exact Ln.set0 g (hb i st g)
end V
set_option exponentiation.threshold 20000
namespace V
open PySem PySem.Spec ZL L2
abbrev Pt := Int × Int
abbrev Pc := Nat × Nat × Nat
def ePt (p : Pt) : PyData := .tuple [.int p.1, .int p.2]
def ePc (p : Pc) : PyData := .tuple [.int (p.1 : Int), .int (p.2.1 : Int), .int (p.2.2 : Int)]
structure Pl where
  cs : List Pt
  ps : List Pc
  th : List Int
  l : Int
  m : Int
def eCs (cs : List Pt) : PyData := .tuple (cs.map ePt)
def ePs (ps : List Pc) : PyData := .tuple (ps.map ePc)
def eTh (th : List Int) : PyData := .tuple (th.map PyData.int)
def eLm (P : Pl) : PyData := .tuple [.int P.l, .int P.m]
def ePl (P : Pl) : PyData := .tuple [eCs P.cs, ePs P.ps, eTh P.th, eLm P]
def xy (cs : List Pt) (i : Nat) : Pt := cs.getD i (0, 0)
def turn (p q r : Pt) : Int := (q.1 - p.1) * (r.2 - p.2) - (r.1 - p.1) * (q.2 - p.2)
def sgn (x : Int) : Int := (if 0 < x then 1 else 0) - (if x < 0 then 1 else 0)
def three (cs : List Pt) (p : Pc) (i : Nat) : List Int := [sgn (turn (xy cs p.1) (xy cs p.2.1) (xy cs i)), sgn (turn (xy cs p.2.1) (xy cs p.2.2) (xy cs i)), sgn (turn (xy cs p.2.2) (xy cs p.1) (xy cs i))]
def liesB (cs : List Pt) (p : Pc) (i : Nat) : Bool := !((three cs p i).contains (-1) && (three cs p i).contains 1)
def sidesOf (p : Pc) : List (Nat × Nat) := [(p.1, p.2.1), (p.1, p.2.2), (p.2.1, p.2.2)]
def crossB (cs : List Pt) (s t : Nat × Nat) : Bool := (sgn (turn (xy cs s.1) (xy cs s.2) (xy cs t.1)) * sgn (turn (xy cs s.1) (xy cs s.2) (xy cs t.2)) == -1) && (sgn (turn (xy cs t.1) (xy cs t.2) (xy cs s.1)) * sgn (turn (xy cs t.1) (xy cs t.2) (xy cs s.2)) == -1)
def ltPc (p q : Pc) : Bool := decide (p.1 < q.1) || (decide (p.1 = q.1) && (decide (p.2.1 < q.2.1) || (decide (p.2.1 = q.2.1) && decide (p.2.2 < q.2.2))))
def inb (p : Pt) : Prop := (-100 ≤ p.1 ∧ p.1 ≤ 100) ∧ -100 ≤ p.2 ∧ p.2 ≤ 100
structure PcOk (cs : List Pt) (p : Pc) : Prop where
  ab : p.1 < p.2.1
  bc : p.2.1 < p.2.2
  c : p.2.2 < cs.length
  t : turn (xy cs p.1) (xy cs p.2.1) (xy cs p.2.2) ≠ 0
structure PlOk (P : Pl) : Prop where
  n3 : 3 ≤ P.cs.length
  n30 : P.cs.length ≤ 30
  inb : ∀ p ∈ P.cs, inb p
  nd : P.cs.Nodup
  k1 : 1 ≤ P.ps.length
  k20 : P.ps.length ≤ 20
  pc : ∀ p ∈ P.ps, PcOk P.cs p
  ri : ∀ i (h : i + 1 < P.ps.length), ltPc P.ps[i] P.ps[i + 1] = true
  tl : P.th.length = P.ps.length
  th : ∀ t ∈ P.th, 1 ≤ t ∧ t ≤ 9
  l : 0 ≤ P.l ∧ P.l ≤ 9
  m : 1 ≤ P.m ∧ P.m ≤ 9
  us : ∀ i < P.cs.length, ∃ p ∈ P.ps, i = p.1 ∨ i = p.2.1 ∨ i = p.2.2
  ly : ∀ p ∈ P.ps, ∀ i < P.cs.length, i ≠ p.1 → i ≠ p.2.1 → i ≠ p.2.2 → liesB P.cs p i = false
  cr : ∀ p ∈ P.ps, ∀ q ∈ P.ps, ∀ s ∈ sidesOf p, ∀ t ∈ sidesOf q, crossB P.cs s t = false
@[simp] theorem pt_0 (p : Pt) : ixM (ePt p) (.int 0) = pure (.int p.1) := ix_tuple (by decide) rfl
@[simp] theorem pt_1 (p : Pt) : ixM (ePt p) (.int 1) = pure (.int p.2) := ix_tuple (by decide) rfl
theorem ix_natL {xs : List PyData} (i : Nat) {d : PyData} (e : xs[i]? = some d) : ixM (.list xs) (.int (i : Int)) = pure d := ix_list (by omega) (by simpa using e)
theorem xy_at {cs : List Pt} {i : Nat} (h : i < cs.length) : cs[i]? = some (xy cs i) := by
  unfold xy
  rw [List.getElem?_eq_getElem h, List.getD_eq_getElem?_getD, List.getElem?_eq_getElem h]; rfl
@[simp] theorem pl_0 (P : Pl) : ixM (ePl P) (.int 0) = pure (eCs P.cs) := ix_tuple (by decide) rfl
@[simp] theorem pl_1 (P : Pl) : ixM (ePl P) (.int 1) = pure (ePs P.ps) := ix_tuple (by decide) rfl
@[simp] theorem pl_2 (P : Pl) : ixM (ePl P) (.int 2) = pure (eTh P.th) := ix_tuple (by decide) rfl
@[simp] theorem pl_3 (P : Pl) : ixM (ePl P) (.int 3) = pure (eLm P) := ix_tuple (by decide) rfl
@[simp] theorem len_cs (cs : List Pt) : lenM (eCs cs) = pure (.int cs.length) := by unfold eCs; rw [len_tuple, List.length_map]
@[simp] theorem len_ps (ps : List Pc) : lenM (ePs ps) = pure (.int ps.length) := by unfold ePs; rw [len_tuple, List.length_map]
@[simp] theorem len_th (th : List Int) : lenM (eTh th) = pure (.int th.length) := by unfold eTh; rw [len_tuple, List.length_map]
theorem inb_xy {cs : List Pt} (h : ∀ p ∈ cs, inb p) {i : Nat} (hi : i < cs.length) : inb (xy cs i) := h _ (List.mem_of_getElem? (xy_at hi))
theorem mulS {x y : Int} (hx : -1000000 ≤ x ∧ x ≤ 1000000) (hy : -1000000 ≤ y ∧ y ≤ 1000000) : mulM (.int x) (.int y) = pure (.int (x * y)) := mul_int (mulOk_of (a := 20) (b := 20) (by omega) (by omega) (by omega))
theorem comp_of {f : PyData → M PyData} {α : Type} {xs : List α} {e g : α → PyData} (hl : xs.length ≤ 16777216) (h : ∀ x ∈ xs, f (e x) = pure (g x)) : comp pN yep f (xs.map e) = pure (xs.map g) := by
  unfold comp
  rw [if_pos (show (xs.map e).length ≤ line by rw [List.length_map]; exact hl)]
  have : ∀ {xs : List α}, (∀ x ∈ xs, f (e x) = pure (g x)) → compP pN yep f (xs.map e) = pure (xs.map g) := by
    intro xs
    induction xs with
    | nil => intro _; rfl
    | cons x r ih =>
      intro h
      rw [List.map_cons]
      unfold compP
      rw [ofO_some, pure_bind', pure_bind', cond_true, h x List.mem_cons_self, pure_bind', ih fun y hy => h y (List.mem_cons_of_mem _ hy), pure_bind']
      rfl
  rw [this h]
  rfl
@[simp] theorem one1_pure (d : PyData) : one1 (pure d) = pure [d] := rfl
end V
set_option exponentiation.threshold 20000
namespace V
open PySem PySem.Spec ZL L2
@[simp] theorem isO_tuple (xs : List PyData) : isO .tuple (.tuple xs) = .bool true := rfl
@[simp] theorem all2 : allM (.list [.bool true, .bool true]) = pure (.bool true) := rfl
@[simp] theorem all3 : allM (.list [.bool true, .bool true, .bool true]) = pure (.bool true) := rfl
theorem mem3 {a b c i : Nat} (h : i ∈ [a, b, c]) : i = a ∨ i = b ∨ i = c := by simpa using h
end V
set_option exponentiation.threshold 20000
namespace V
open PySem PySem.Spec ZL L2
section
variable {α β : Type}
@[simp] theorem setC_0 (xs : List PyData) (c : Option Cell) (r : Cells) : setC 0 xs (c :: r) = .ok () (cS xs :: r) := by
  show (if 0 < (c :: r).length then Res.ok () _ else _) = _
  rw [if_pos (by simp)]; rfl
@[simp] theorem setC_1 (xs : List PyData) (c d : Option Cell) (r : Cells) : setC 1 xs (c :: d :: r) = .ok () (c :: cS xs :: r) := by
  show (if 1 < (c :: d :: r).length then Res.ok () _ else _) = _
  rw [if_pos (by simp)]; rfl
@[simp] theorem setC_2 (xs : List PyData) (c d e : Option Cell) (r : Cells) : setC 2 xs (c :: d :: e :: r) = .ok () (c :: d :: cS xs :: r) := by
  show (if 2 < (c :: d :: e :: r).length then Res.ok () _ else _) = _
  rw [if_pos (by simp)]; rfl
@[simp] theorem getC_0 (xs : List PyData) (r : Cells) : getC 0 (cS xs :: r) = .ok xs (cS xs :: r) := rfl
@[simp] theorem getC_1 (xs : List PyData) (c : Option Cell) (r : Cells) : getC 1 (c :: cS xs :: r) = .ok xs (c :: cS xs :: r) := rfl
@[simp] theorem getC_2 (xs : List PyData) (c d : Option Cell) (r : Cells) : getC 2 (c :: d :: cS xs :: r) = .ok xs (c :: d :: cS xs :: r) := rfl
@[simp] theorem lockC_0 (xs : List PyData) (r : Cells) : lockC 0 (cS xs :: r) = .ok xs (none :: r) := rfl
@[simp] theorem lockC_1 (xs : List PyData) (c : Option Cell) (r : Cells) : lockC 1 (c :: cS xs :: r) = .ok xs (c :: none :: r) := rfl
@[simp] theorem lockC_2 (xs : List PyData) (c d : Option Cell) (r : Cells) : lockC 2 (c :: d :: cS xs :: r) = .ok xs (c :: d :: none :: r) := rfl
theorem appC_2 {xs : List PyData} {d : PyData} {c e : Option Cell} {r : Cells} (h : xs.length < 16777216) : appC 2 d (c :: e :: cS xs :: r) = .ok .none (c :: e :: cS (xs ++ [d]) :: r) := by
  show (if xs.length < line then Res.ok PyData.none _ else _) = _
  rw [if_pos (show xs.length < line from h)]; rfl
@[simp] theorem lstN2 (a b : PyData) : lstN [.d a, .d b] = pure [a, b] := lstN_of [a, b] (by simp)
@[simp] theorem lstN0 : lstN [] = pure [] := lstN_of [] (by simp)
theorem forM_nx {L γ : Type} {pt : PyData → Option γ} {body : γ → Unit → M (Fl Unit Unit)} : ∀ {xs : List PyData}, (∀ x ∈ xs, ∃ u, pt x = some u ∧ body u () = pure (.nx ())) → (V.forM pt body xs () : M (Fl L Unit)) = pure (.nx ())
  | [], _ => rfl
  | x :: r, h => by
    obtain ⟨u, e, eb⟩ := h x List.mem_cons_self
    unfold V.forM
    rw [e, ofO_some, pure_bind', eb, pure_bind']
    exact forM_nx fun y hy => h y (List.mem_cons_of_mem _ hy)
end
theorem canLay_ints (ns : List Int) : PyData.canLayAll0 (ns.map PyData.int) = true := by
  induction ns with
  | nil => rfl
  | cons n r ih => exact ih
theorem depth_ints (ns : List Int) : PyData.depthAll (ns.map PyData.int) = 0 := by
  induction ns with
  | nil => rfl
  | cons n r ih => show max 0 _ = 0; rw [ih]; rfl
theorem shaped_ints (ns : List Int) : SeqAt.shaped (.list (ns.map PyData.int)) = true := by
  unfold SeqAt.shaped
  rw [Bool.and_eq_true, decide_eq_true_eq]
  refine ⟨canLay_ints ns, ?_⟩
  show PyData.depthAll _ + 1 ≤ 64
  rw [depth_ints]; omega
theorem lenI (ns : List Nat) : (ns.map fun (i : Nat) => PyData.int (i : Int)) = (ns.map fun (i : Nat) => (i : Int)).map PyData.int := by rw [List.map_map]; rfl
theorem range_list {n : Nat} (h : n ≤ 1000) : rgL (.int 0) (.int (n : Int)) = pure (.list ((List.range n).map fun (i : Nat) => PyData.int (i : Int))) := by
  have ok : rgOk 0 (n : Int) = true := by
    unfold rgOk
    simp only [Bool.and_eq_true, decide_eq_true_eq]
    omega
  have e : rgO (.int 0) (.int (n : Int)) = some (rangeD 0 n) := by
    unfold rgO
    simp only [ok, if_true]
    simp
  unfold rgL
  rw [e, Option.map_some, ofO_some]
  unfold rangeD
  simp
def allSides (ps : List Pc) : List (Nat × Nat) := ps.flatMap sidesOf
end V
set_option exponentiation.threshold 20000
namespace V
open PySem PySem.Spec ZL L2
theorem range_nat {n : Nat} (h : n ≤ 1000) : rangeM (.int 0) (.int (n : Int)) = pure ((List.range n).map fun (i : Nat) => PyData.int (i : Int)) := by
  have e := range_list h
  have ok : rangeO (.int 0) (.int (n : Int)) = some (rangeD 0 n) := by
    unfold rangeO
    have : (decide (-(2 ^ 62) ≤ (0 : Int)) && decide ((0 : Int) < 2 ^ 62) && decide (-(2 ^ 62) ≤ (n : Int)) && decide ((n : Int) < 2 ^ 62)) = true := by
      simp only [Bool.and_eq_true, decide_eq_true_eq]; omega
    simp only [this, if_true]
    simp
  unfold rangeM
  rw [ok, ofO_some]
  unfold rangeD
  simp
end V
set_option exponentiation.threshold 20000
namespace V
open PySem PySem.Spec ZL L2
def aff (a b c d s t : Int) (p : Pt) : Pt := (a * p.1 + b * p.2 + s, c * p.1 + d * p.2 + t)
theorem turn_aff (a b c d s t : Int) (p q r : Pt) : turn (aff a b c d s t p) (aff a b c d s t q) (aff a b c d s t r) = (a * d - b * c) * turn p q r := by
  unfold turn aff
  dsimp only
  grind
theorem sgn_mul_pos {k x : Int} (h : 0 < k) : sgn (k * x) = sgn x := by
  unfold sgn
  have h1 : 0 < k * x ↔ 0 < x := by
    constructor
    · intro q
      rcases Int.lt_trichotomy x 0 with c | c | c
      · have := Int.mul_neg_of_pos_of_neg h c; omega
      · subst c; simp at q
      · exact c
    · exact fun q => Int.mul_pos h q
  have h2 : k * x < 0 ↔ x < 0 := by
    constructor
    · intro q
      rcases Int.lt_trichotomy x 0 with c | c | c
      · exact c
      · subst c; simp at q
      · have := h1.mpr c; omega
    · exact fun q => Int.mul_neg_of_pos_of_neg h q
  simp only [h1, h2]
theorem sgn_neg (x : Int) : sgn (-x) = - sgn x := by unfold sgn; split <;> split <;> split <;> split <;> omega
theorem sgn_mul_neg {k x : Int} (h : k < 0) : sgn (k * x) = - sgn x := by
  have : k * x = -((-k) * x) := by rw [Int.neg_mul, Int.neg_neg]
  rw [this, sgn_neg, sgn_mul_pos (by omega)]
structure Geo (cs : List Pt) (ps : List Pc) : Prop where
  nd : cs.Nodup
  pc : ∀ p ∈ ps, PcOk cs p
  ri : ∀ i (h : i + 1 < ps.length), ltPc ps[i] ps[i + 1] = true
  us : ∀ i < cs.length, ∃ p ∈ ps, i = p.1 ∨ i = p.2.1 ∨ i = p.2.2
  ly : ∀ p ∈ ps, ∀ i < cs.length, i ≠ p.1 → i ≠ p.2.1 → i ≠ p.2.2 → liesB cs p i = false
  cr : ∀ p ∈ ps, ∀ q ∈ ps, ∀ s ∈ sidesOf p, ∀ t ∈ sidesOf q, crossB cs s t = false
def chainB : List Pc → Bool
  | p :: q :: r => ltPc p q && chainB (q :: r)
  | _ => true
theorem chainB_inv : ∀ {ps : List Pc}, chainB ps = true → ∀ i (h : i + 1 < ps.length), ltPc ps[i] ps[i + 1] = true
  | p :: q :: r, h, 0, _ => by
    unfold chainB at h
    rw [Bool.and_eq_true] at h
    exact h.1
  | p :: q :: r, h, i + 1, hi => by
    unfold chainB at h
    rw [Bool.and_eq_true] at h
    exact chainB_inv h.2 i (by simpa using hi)
  | [], _, _, h => by simp at h
  | [_], _, _, h => by simp at h
def ptB (p q : Pt) : Bool := decide (p.1 = q.1) && decide (p.2 = q.2)
def ndB : List Pt → Bool
  | [] => true
  | p :: r => !(r.any (ptB p)) && ndB r
theorem ndB_inv : ∀ {cs : List Pt}, ndB cs = true → cs.Nodup
  | [], _ => List.nodup_nil
  | p :: r, h => by
    unfold ndB at h
    rw [Bool.and_eq_true] at h
    refine List.nodup_cons.mpr ⟨fun hp => ?_, ndB_inv h.2⟩
    have : r.any (ptB p) = true := List.any_eq_true.mpr ⟨p, hp, by unfold ptB; simp⟩
    rw [this] at h
    simp at h
theorem xy_map {cs : List Pt} {f : Pt → Pt} {i : Nat} (h : i < cs.length) : xy (cs.map f) i = f (xy cs i) := by
  have h1 := xy_at h
  have h2 := xy_at (cs := cs.map f) (i := i) (by rw [List.length_map]; exact h)
  rw [List.getElem?_map, h1] at h2
  exact (Option.some.inj h2).symm
theorem Geo.aff {cs : List Pt} {ps : List Pc} (g : Geo cs ps) {a b c d s t : Int} (hd : a * d - b * c ≠ 0) : Geo (cs.map (V.aff a b c d s t)) ps := by
  have tl : ∀ {i j k : Nat}, i < cs.length → j < cs.length → k < cs.length → turn (xy (cs.map (V.aff a b c d s t)) i) (xy (cs.map (V.aff a b c d s t)) j) (xy (cs.map (V.aff a b c d s t)) k) = (a * d - b * c) * turn (xy cs i) (xy cs j) (xy cs k) := fun {i j k} hi hj hk => by
    rw [xy_map hi, xy_map hj, xy_map hk, turn_aff]
  have hpc : ∀ p ∈ ps, p.1 < cs.length ∧ p.2.1 < cs.length ∧ p.2.2 < cs.length := fun p hp => by
    have k := g.pc p hp
    have := k.ab; have := k.bc; have := k.c
    exact ⟨by omega, by omega, by omega⟩
  have hsd : ∀ p ∈ ps, ∀ s ∈ sidesOf p, s.1 < cs.length ∧ s.2 < cs.length := fun p hp s hs => by
    obtain ⟨k1, k2, k3⟩ := hpc p hp
    simp only [sidesOf, List.mem_cons, List.not_mem_nil, or_false] at hs
    rcases hs with rfl | rfl | rfl <;> exact ⟨by assumption, by assumption⟩
  refine ⟨?_, fun p hp => ?_, g.ri, fun i hi => g.us i (by simpa using hi), fun p hp i hi n1 n2 n3 => ?_, fun p hp q hq s' hs t' ht => ?_⟩
  · rw [List.nodup_iff_pairwise_ne, List.pairwise_map]
    refine (List.nodup_iff_pairwise_ne.mp g.nd).imp fun {p q} hne e => hne ?_
    unfold V.aff at e
    simp only [Prod.mk.injEq] at e
    obtain ⟨e1, e2⟩ := e
    have f1 : (a * d - b * c) * (p.1 - q.1) = 0 := by grind
    have f2 : (a * d - b * c) * (p.2 - q.2) = 0 := by grind
    have g1 := (Int.mul_eq_zero.mp f1).resolve_left hd
    have g2 := (Int.mul_eq_zero.mp f2).resolve_left hd
    exact Prod.ext (by omega) (by omega)
  · obtain ⟨k1, k2, k3⟩ := hpc p hp
    have k := g.pc p hp
    refine ⟨k.ab, k.bc, by rw [List.length_map]; exact k.c, ?_⟩
    rw [tl k1 k2 k3]
    exact Int.mul_ne_zero hd k.t
  · obtain ⟨k1, k2, k3⟩ := hpc p hp
    rw [List.length_map] at hi
    have := g.ly p hp i hi n1 n2 n3
    unfold liesB three at this ⊢
    rw [tl k1 k2 hi, tl k2 k3 hi, tl k3 k1 hi]
    rcases Int.lt_or_gt_of_ne hd with h | h
    · rw [sgn_mul_neg h, sgn_mul_neg h, sgn_mul_neg h]
      revert this
      generalize sgn (turn (xy cs p.1) (xy cs p.2.1) (xy cs i)) = x
      generalize sgn (turn (xy cs p.2.1) (xy cs p.2.2) (xy cs i)) = y
      generalize sgn (turn (xy cs p.2.2) (xy cs p.1) (xy cs i)) = z
      simp only [List.contains_eq_mem, List.mem_cons, List.not_mem_nil, or_false, Bool.not_eq_false', Bool.and_eq_true, decide_eq_true_eq]
      omega
    · rw [sgn_mul_pos h, sgn_mul_pos h, sgn_mul_pos h]
      exact this
  · obtain ⟨k1, k2⟩ := hsd p hp s' hs
    obtain ⟨k3, k4⟩ := hsd q hq t' ht
    have := g.cr p hp q hq s' hs t' ht
    unfold crossB at this ⊢
    rw [tl k1 k2 k3, tl k1 k2 k4, tl k3 k4 k1, tl k3 k4 k2]
    rcases Int.lt_or_gt_of_ne hd with h | h
    · rw [sgn_mul_neg h, sgn_mul_neg h, sgn_mul_neg h, sgn_mul_neg h, Int.neg_mul_neg, Int.neg_mul_neg]
      exact this
    · rw [sgn_mul_pos h, sgn_mul_pos h, sgn_mul_pos h, sgn_mul_pos h]
      exact this
def shp : List (List Pt × List Pc) := [([(0, 0), (2, 0), (0, 3)], [(0, 1, 2)]), ([(0, 0), (3, 0), (3, 2), (0, 2)], [(0, 1, 2), (0, 2, 3)]), ([(0, 0), (2, 1), (2, -1), (-2, 1), (-3, -1)], [(0, 1, 2), (0, 3, 4)]), ([(0, 0), (2, 0), (0, 2), (4, 0), (6, 1), (4, 3)], [(0, 1, 2), (3, 4, 5)]),
  ([(0, 0), (6, 0), (0, 6), (2, 1)], [(0, 1, 3), (0, 2, 3), (1, 2, 3)]), ([(0, 0), (0, 2), (2, 0), (3, 2), (5, 0)], [(0, 1, 2), (1, 2, 3), (2, 3, 4)]), ([(0, 0), (1, 2), (2, 0), (3, 2), (4, 0), (5, 3)], [(0, 1, 2), (2, 3, 4), (3, 4, 5)]), ([(0, 0), (2, 0), (0, 3), (-2, 0), (0, -1)], [(0, 1, 2), (0, 2, 3), (0, 3, 4), (0, 1, 4)])]
def sort3 (a b c : Nat) : Pc := if a ≤ b then (if b ≤ c then (a, b, c) else if a ≤ c then (a, c, b) else (c, a, b)) else (if a ≤ c then (b, a, c) else if b ≤ c then (b, c, a) else (c, b, a))
def keyP (p : Pc) : Nat := p.1 * 1099511627776 + (p.2.1 * 1048576 + p.2.2)
def insP (p : Pc) : List Pc → List Pc
  | [] => [p]
  | q :: r => if keyP p ≤ keyP q then p :: q :: r else q :: insP p r
def isortP : List Pc → List Pc
  | [] => []
  | p :: r => insP p (isortP r)
def ledP (o : List Nat) (p : Pc) : Pc := sort3 (o.getD p.1 0) (o.getD p.2.1 0) (o.getD p.2.2 0)
def ledCs (o : List Nat) (pts : List Pt) : List Pt := (List.range pts.length).map fun j => xy pts (o.idxOf j)
def ledPs (o : List Nat) (pcs : List Pc) : List Pc := isortP (pcs.map (ledP o))
def drawn : Nat → List Nat → List (List Nat)
  | 0, _ => [[]]
  | n + 1, left => (List.range left.length).flatMap fun k => (drawn n (left.eraseIdx k)).map fun r => left.getD k 0 :: r
def setAll {α : Type} : List Nat → List α → List α → List α
  | i :: o, v :: vs, acc => setAll o vs (acc.set i v)
  | _, _, acc => acc
def eqN : List Nat → List Nat → Bool
  | [], [] => true
  | a :: r, b :: q => decide (a = b) && eqN r q
  | _, _ => false
theorem eqN_inv : ∀ {a b : List Nat}, eqN a b = true → a = b
  | [], [], _ => rfl
  | a :: r, b :: q, h => by
    unfold eqN at h
    simp only [Bool.and_eq_true, decide_eq_true_eq] at h
    rw [h.1, eqN_inv h.2]
  | [], _ :: _, h => by simp [eqN] at h
  | _ :: _, [], h => by simp [eqN] at h
theorem insP_mem {p q : Pc} : ∀ {l : List Pc}, q ∈ insP p l ↔ q = p ∨ q ∈ l
  | [] => by simp [insP]
  | r :: l => by
    unfold insP
    split
    · simp
    · rw [List.mem_cons, insP_mem, List.mem_cons]
      constructor
      · rintro (h | h | h)
        · exact .inr (.inl h)
        · exact .inl h
        · exact .inr (.inr h)
      · rintro (h | h | h)
        · exact .inr (.inl h)
        · exact .inl h
        · exact .inr (.inr h)
theorem isortP_mem {q : Pc} : ∀ {l : List Pc}, q ∈ isortP l ↔ q ∈ l
  | [] => Iff.rfl
  | p :: l => by
    show q ∈ insP p (isortP l) ↔ _
    rw [insP_mem, isortP_mem, List.mem_cons]
structure Ord (n : Nat) (o : List Nat) : Prop where
  len : o.length = n
  lt : ∀ i < n, o.getD i 0 < n
  ix : ∀ i < n, o.idxOf (o.getD i 0) = i
  xi : ∀ j < n, o.idxOf j < n ∧ o.getD (o.idxOf j) 0 = j
  set : setAll o (List.range n) (List.replicate n 999) = (List.range n).map fun j => o.idxOf j
def ordB (n : Nat) (o : List Nat) : Bool := Nat.beq o.length n && (List.range n).all (fun i => Nat.blt (o.getD i 0) n && Nat.beq (o.idxOf (o.getD i 0)) i && Nat.blt (o.idxOf i) n && Nat.beq (o.getD (o.idxOf i) 0) i) && eqN (setAll o (List.range n) (List.replicate n 999)) ((List.range n).map fun j => o.idxOf j)
theorem ordB_inv {n : Nat} {o : List Nat} (h : ordB n o = true) : Ord n o := by
  unfold ordB at h
  simp only [Bool.and_eq_true, List.all_eq_true, List.mem_range] at h
  obtain ⟨⟨h1, h2⟩, h3⟩ := h
  have e : ∀ {a b : Nat}, Nat.beq a b = true → a = b := fun h => Nat.eq_of_beq_eq_true h
  have l : ∀ {a b : Nat}, Nat.blt a b = true → a < b := fun h => Nat.blt_eq.mp h
  exact ⟨e h1, fun i hi => l (h2 i hi).1.1.1, fun i hi => e (h2 i hi).1.1.2, fun j hj => ⟨l (h2 j hj).1.2, e (h2 j hj).2⟩, eqN_inv h3⟩
structure GeoU (cs : List Pt) (ps : List Pc) : Prop where
  nd : cs.Nodup
  lt : ∀ p ∈ ps, p.1 < cs.length ∧ p.2.1 < cs.length ∧ p.2.2 < cs.length
  t : ∀ p ∈ ps, turn (xy cs p.1) (xy cs p.2.1) (xy cs p.2.2) ≠ 0
  ly : ∀ p ∈ ps, ∀ i < cs.length, i ≠ p.1 → i ≠ p.2.1 → i ≠ p.2.2 → liesB cs p i = false
  cr : ∀ p ∈ ps, ∀ q ∈ ps, ∀ s ∈ sidesOf p, ∀ t ∈ sidesOf q, crossB cs s t = false
theorem turn_swap (p q r : Pt) : turn q p r = - turn p q r := by unfold turn; grind
theorem turn_rot (p q r : Pt) : turn q r p = turn p q r := by unfold turn; grind
theorem turn_sw2 (p q r : Pt) : turn p r q = - turn p q r := by unfold turn; grind
theorem turn_sw3 (p q r : Pt) : turn r q p = - turn p q r := by unfold turn; grind
theorem turn_rot2 (p q r : Pt) : turn r p q = turn p q r := by unfold turn; grind
theorem sort3_cases (a b c : Nat) : sort3 a b c = (a, b, c) ∨ sort3 a b c = (a, c, b) ∨ sort3 a b c = (c, a, b) ∨ sort3 a b c = (b, a, c) ∨ sort3 a b c = (b, c, a) ∨ sort3 a b c = (c, b, a) := by
  unfold sort3
  split <;> split <;> (try split) <;> simp
theorem cross_sw1 (cs : List Pt) (i j : Nat) (t : Nat × Nat) : crossB cs (j, i) t = crossB cs (i, j) t := by
  unfold crossB
  dsimp only
  rw [turn_swap (xy cs i) (xy cs j) (xy cs t.1), turn_swap (xy cs i) (xy cs j) (xy cs t.2), sgn_neg, sgn_neg, Int.neg_mul_neg, Int.mul_comm (sgn (turn (xy cs t.1) (xy cs t.2) (xy cs j)))]
theorem cross_sw2 (cs : List Pt) (s : Nat × Nat) (i j : Nat) : crossB cs s (j, i) = crossB cs s (i, j) := by
  unfold crossB
  dsimp only
  rw [turn_swap (xy cs i) (xy cs j) (xy cs s.1), turn_swap (xy cs i) (xy cs j) (xy cs s.2), sgn_neg, sgn_neg, Int.neg_mul_neg, Int.mul_comm (sgn (turn (xy cs s.1) (xy cs s.2) (xy cs j)))]
theorem both_perm {x y z : Int} (h : (!((([x, y, z] : List Int).contains (-1)) && ([x, y, z] : List Int).contains 1)) = false) {u v w : Int} (hs : (∀ e, e ∈ ([u, v, w] : List Int) ↔ e ∈ ([x, y, z] : List Int)) ∨ ∀ e, e ∈ ([u, v, w] : List Int) ↔ -e ∈ ([x, y, z] : List Int)) :
    (!((([u, v, w] : List Int).contains (-1)) && ([u, v, w] : List Int).contains 1)) = false := by
  simp only [List.contains_eq_mem, Bool.not_eq_false', Bool.and_eq_true, decide_eq_true_eq] at h ⊢
  rcases hs with hs | hs
  · exact ⟨(hs _).mpr h.1, (hs _).mpr h.2⟩
  · exact ⟨(hs _).mpr (by rw [Int.neg_neg]; exact h.2), (hs _).mpr h.1⟩
theorem lies_led {cs cs' : List Pt} {p p' : Pc} {i i' : Nat} (h : liesB cs p i = false) (ei : xy cs' i' = xy cs i)
    (e : ((xy cs' p'.1 = xy cs p.1 ∧ xy cs' p'.2.1 = xy cs p.2.1 ∧ xy cs' p'.2.2 = xy cs p.2.2) ∨ (xy cs' p'.1 = xy cs p.1 ∧ xy cs' p'.2.1 = xy cs p.2.2 ∧ xy cs' p'.2.2 = xy cs p.2.1) ∨ (xy cs' p'.1 = xy cs p.2.2 ∧ xy cs' p'.2.1 = xy cs p.1 ∧ xy cs' p'.2.2 = xy cs p.2.1) ∨
      (xy cs' p'.1 = xy cs p.2.1 ∧ xy cs' p'.2.1 = xy cs p.1 ∧ xy cs' p'.2.2 = xy cs p.2.2) ∨ (xy cs' p'.1 = xy cs p.2.1 ∧ xy cs' p'.2.1 = xy cs p.2.2 ∧ xy cs' p'.2.2 = xy cs p.1) ∨ (xy cs' p'.1 = xy cs p.2.2 ∧ xy cs' p'.2.1 = xy cs p.2.1 ∧ xy cs' p'.2.2 = xy cs p.1))) : liesB cs' p' i' = false := by
  unfold liesB three at h ⊢
  have neg : ∀ x y z : Pt, sgn (turn y x z) = - sgn (turn x y z) := fun x y z => by rw [turn_swap, sgn_neg]
  refine both_perm h ?_
  rw [ei]
  rcases e with ⟨e1, e2, e3⟩ | ⟨e1, e2, e3⟩ | ⟨e1, e2, e3⟩ | ⟨e1, e2, e3⟩ | ⟨e1, e2, e3⟩ | ⟨e1, e2, e3⟩
  · rw [e1, e2, e3]; exact .inl fun e => Iff.rfl
  · rw [e1, e2, e3]
    refine .inr fun e => ?_
    rw [neg (xy cs p.2.2) (xy cs p.1), neg (xy cs p.2.1) (xy cs p.2.2), neg (xy cs p.1) (xy cs p.2.1)]
    simp only [List.mem_cons, List.not_mem_nil, or_false]
    omega
  · rw [e1, e2, e3]
    refine .inl fun e => ?_
    simp only [List.mem_cons, List.not_mem_nil, or_false]
    omega
  · rw [e1, e2, e3]
    refine .inr fun e => ?_
    rw [neg (xy cs p.2.2) (xy cs p.1), neg (xy cs p.2.1) (xy cs p.2.2), neg (xy cs p.1) (xy cs p.2.1)]
    simp only [List.mem_cons, List.not_mem_nil, or_false]
    omega
  · rw [e1, e2, e3]
    refine .inl fun e => ?_
    simp only [List.mem_cons, List.not_mem_nil, or_false]
    omega
  · rw [e1, e2, e3]
    refine .inr fun e => ?_
    rw [neg (xy cs p.2.2) (xy cs p.1), neg (xy cs p.2.1) (xy cs p.2.2), neg (xy cs p.1) (xy cs p.2.1)]
    simp only [List.mem_cons, List.not_mem_nil, or_false]
    omega
theorem xy_led {pts : List Pt} {o : List Nat} (ho : Ord pts.length o) {i : Nat} (hi : i < pts.length) : xy (ledCs o pts) (o.getD i 0) = xy pts i := by
  have h1 := ho.lt i hi
  have h2 := xy_at (cs := ledCs o pts) (i := o.getD i 0) (by unfold ledCs; rw [List.length_map, List.length_range]; exact h1)
  unfold ledCs at h2
  rw [List.getElem?_map, List.getElem?_range h1, Option.map_some, ho.ix i hi] at h2
  exact (Option.some.inj h2).symm
theorem side_led {o : List Nat} {p : Pc} {s' : Nat × Nat} (h : s' ∈ sidesOf (ledP o p)) : ∃ s ∈ sidesOf p, s' = (o.getD s.1 0, o.getD s.2 0) ∨ s' = (o.getD s.2 0, o.getD s.1 0) := by
  unfold ledP at h
  rcases sort3_cases (o.getD p.1 0) (o.getD p.2.1 0) (o.getD p.2.2 0) with e | e | e | e | e | e <;> rw [e] at h <;>
    simp only [sidesOf, List.mem_cons, List.not_mem_nil, or_false] at h ⊢ <;>
    (rcases h with rfl | rfl | rfl <;>
      first
      | exact ⟨_, .inl rfl, .inl rfl⟩
      | exact ⟨_, .inl rfl, .inr rfl⟩
      | exact ⟨_, .inr (.inl rfl), .inl rfl⟩
      | exact ⟨_, .inr (.inl rfl), .inr rfl⟩
      | exact ⟨_, .inr (.inr rfl), .inl rfl⟩
      | exact ⟨_, .inr (.inr rfl), .inr rfl⟩)
structure ComOk (n : Nat) (ps : List Pc) : Prop where
  pc : ∀ p ∈ ps, p.1 < p.2.1 ∧ p.2.1 < p.2.2 ∧ p.2.2 < n
  ri : ∀ i (h : i + 1 < ps.length), ltPc ps[i] ps[i + 1] = true
  us : ∀ i < n, ∃ p ∈ ps, i = p.1 ∨ i = p.2.1 ∨ i = p.2.2
def comB (n : Nat) (ps : List Pc) : Bool := ps.all (fun p => Nat.blt p.1 p.2.1 && Nat.blt p.2.1 p.2.2 && Nat.blt p.2.2 n) && chainB ps && (List.range n).all (fun i => ps.any fun p => Nat.beq i p.1 || Nat.beq i p.2.1 || Nat.beq i p.2.2)
theorem comB_inv {n : Nat} {ps : List Pc} (h : comB n ps = true) : ComOk n ps := by
  unfold comB at h
  simp only [Bool.and_eq_true, List.all_eq_true, Bool.or_eq_true, List.any_eq_true, List.mem_range] at h
  obtain ⟨⟨h1, h2⟩, h3⟩ := h
  have e : ∀ {a b : Nat}, Nat.beq a b = true → a = b := fun h => Nat.eq_of_beq_eq_true h
  have l : ∀ {a b : Nat}, Nat.blt a b = true → a < b := fun h => Nat.blt_eq.mp h
  refine ⟨fun p hp => ⟨l (h1 p hp).1.1, l (h1 p hp).1.2, l (h1 p hp).2⟩, chainB_inv h2, fun i hi => ?_⟩
  obtain ⟨p, hp, k⟩ := h3 i hi
  refine ⟨p, hp, ?_⟩
  rcases k with (k | k) | k
  · exact .inl (e k)
  · exact .inr (.inl (e k))
  · exact .inr (.inr (e k))
theorem ledCs_len (o : List Nat) (pts : List Pt) : (ledCs o pts).length = pts.length := by unfold ledCs; simp
theorem Geo.led {pts : List Pt} {pcs : List Pc} {o : List Nat} (g : GeoU pts pcs) (ho : Ord pts.length o) (hc : ComOk pts.length (ledPs o pcs)) : Geo (ledCs o pts) (ledPs o pcs) := by
  have back : ∀ p' ∈ ledPs o pcs, ∃ p ∈ pcs, p' = ledP o p := fun p' hp => by
    obtain ⟨p, h1, h2⟩ := List.mem_map.mp (isortP_mem.mp hp)
    exact ⟨p, h1, h2.symm⟩
  have xl : ∀ {i : Nat}, i < pts.length → xy (ledCs o pts) (o.getD i 0) = xy pts i := fun hi => xy_led ho hi
  have six : ∀ p ∈ pcs, ((xy (ledCs o pts) (ledP o p).1 = xy pts p.1 ∧ xy (ledCs o pts) (ledP o p).2.1 = xy pts p.2.1 ∧ xy (ledCs o pts) (ledP o p).2.2 = xy pts p.2.2) ∨ (xy (ledCs o pts) (ledP o p).1 = xy pts p.1 ∧ xy (ledCs o pts) (ledP o p).2.1 = xy pts p.2.2 ∧ xy (ledCs o pts) (ledP o p).2.2 = xy pts p.2.1) ∨
      (xy (ledCs o pts) (ledP o p).1 = xy pts p.2.2 ∧ xy (ledCs o pts) (ledP o p).2.1 = xy pts p.1 ∧ xy (ledCs o pts) (ledP o p).2.2 = xy pts p.2.1) ∨ (xy (ledCs o pts) (ledP o p).1 = xy pts p.2.1 ∧ xy (ledCs o pts) (ledP o p).2.1 = xy pts p.1 ∧ xy (ledCs o pts) (ledP o p).2.2 = xy pts p.2.2) ∨
      (xy (ledCs o pts) (ledP o p).1 = xy pts p.2.1 ∧ xy (ledCs o pts) (ledP o p).2.1 = xy pts p.2.2 ∧ xy (ledCs o pts) (ledP o p).2.2 = xy pts p.1) ∨ (xy (ledCs o pts) (ledP o p).1 = xy pts p.2.2 ∧ xy (ledCs o pts) (ledP o p).2.1 = xy pts p.2.1 ∧ xy (ledCs o pts) (ledP o p).2.2 = xy pts p.1)) := fun p hp => by
    obtain ⟨h1, h2, h3⟩ := g.lt p hp
    have x1 := xl h1; have x2 := xl h2; have x3 := xl h3
    unfold ledP
    rcases sort3_cases (o.getD p.1 0) (o.getD p.2.1 0) (o.getD p.2.2 0) with q | q | q | q | q | q <;> rw [q]
    · exact .inl ⟨x1, x2, x3⟩
    · exact .inr (.inl ⟨x1, x3, x2⟩)
    · exact .inr (.inr (.inl ⟨x3, x1, x2⟩))
    · exact .inr (.inr (.inr (.inl ⟨x2, x1, x3⟩)))
    · exact .inr (.inr (.inr (.inr (.inl ⟨x2, x3, x1⟩))))
    · exact .inr (.inr (.inr (.inr (.inr ⟨x3, x2, x1⟩))))
  have mem : ∀ p : Pc, ∀ i, (i = (ledP o p).1 ∨ i = (ledP o p).2.1 ∨ i = (ledP o p).2.2) ↔ (i = o.getD p.1 0 ∨ i = o.getD p.2.1 0 ∨ i = o.getD p.2.2 0) := fun p i => by
    unfold ledP
    rcases sort3_cases (o.getD p.1 0) (o.getD p.2.1 0) (o.getD p.2.2 0) with q | q | q | q | q | q <;> rw [q] <;> dsimp only <;> omega
  refine ⟨?_, fun p' hp => ?_, hc.ri, fun i hi => hc.us i (by rw [ledCs_len] at hi; exact hi), fun p' hp i hi n1 n2 n3 => ?_, fun p' hp q' hq s' hs t' ht => ?_⟩
  · unfold ledCs
    rw [List.nodup_iff_pairwise_ne, List.pairwise_map]
    refine List.Pairwise.imp_of_mem (fun {i j} hi hj hne e => hne ?_) (List.nodup_iff_pairwise_ne.mp List.nodup_range)
    have hi := ho.xi i (List.mem_range.mp hi)
    have hj := ho.xi j (List.mem_range.mp hj)
    have a1 := xy_at hi.1
    have a2 := xy_at hj.1
    rw [List.getElem?_eq_getElem hi.1] at a1
    rw [List.getElem?_eq_getElem hj.1] at a2
    have a3 : pts[o.idxOf i]'hi.1 = pts[o.idxOf j]'hj.1 := by rw [Option.some.inj a1, Option.some.inj a2, e]
    have this := List.pairwise_iff_getElem.mp (List.nodup_iff_pairwise_ne.mp g.nd)
    have k : o.idxOf i = o.idxOf j := by
      rcases Nat.lt_trichotomy (o.idxOf i) (o.idxOf j) with c | c | c
      · exact absurd a3 (this _ _ hi.1 hj.1 c)
      · exact c
      · exact absurd a3.symm (this _ _ hj.1 hi.1 c)
    rw [← hi.2, ← hj.2, k]
  · obtain ⟨p, h1, rfl⟩ := back p' hp
    obtain ⟨k1, k2, k3⟩ := hc.pc _ hp
    refine ⟨k1, k2, by rw [ledCs_len]; exact k3, ?_⟩
    have t0 := g.t p h1
    rcases six p h1 with ⟨e1, e2, e3⟩ | ⟨e1, e2, e3⟩ | ⟨e1, e2, e3⟩ | ⟨e1, e2, e3⟩ | ⟨e1, e2, e3⟩ | ⟨e1, e2, e3⟩ <;> rw [e1, e2, e3]
    · exact t0
    · rw [turn_sw2]; omega
    · rw [turn_rot2]; exact t0
    · rw [turn_swap]; omega
    · rw [turn_rot]; exact t0
    · rw [turn_sw3]; omega
  · obtain ⟨p, h1, rfl⟩ := back p' hp
    rw [ledCs_len] at hi
    obtain ⟨x1, x2⟩ := ho.xi i hi
    have ne : ∀ {a : Nat}, i ≠ o.getD a 0 → o.idxOf i ≠ a := fun h e => h (by rw [← e]; exact x2.symm)
    have m := mem p i
    have nn : ¬ (i = o.getD p.1 0 ∨ i = o.getD p.2.1 0 ∨ i = o.getD p.2.2 0) := fun z => by
      rcases m.mpr z with z | z | z
      · exact n1 z
      · exact n2 z
      · exact n3 z
    have := g.ly p h1 (o.idxOf i) x1 (ne fun z => nn (.inl z)) (ne fun z => nn (.inr (.inl z))) (ne fun z => nn (.inr (.inr z)))
    refine lies_led this ?_ (six p h1)
    rw [← xl x1, x2]
  · obtain ⟨p, h1, rfl⟩ := back p' hp
    obtain ⟨q, h2, rfl⟩ := back q' hq
    obtain ⟨s, hs1, hs2⟩ := side_led hs
    obtain ⟨t, ht1, ht2⟩ := side_led ht
    have sl : ∀ {p : Pc} {s : Nat × Nat}, p ∈ pcs → s ∈ sidesOf p → s.1 < pts.length ∧ s.2 < pts.length := fun {p s} hp hs => by
      obtain ⟨k1, k2, k3⟩ := g.lt p hp
      simp only [sidesOf, List.mem_cons, List.not_mem_nil, or_false] at hs
      rcases hs with rfl | rfl | rfl <;> exact ⟨by assumption, by assumption⟩
    have same : crossB (ledCs o pts) (o.getD s.1 0, o.getD s.2 0) (o.getD t.1 0, o.getD t.2 0) = crossB pts s t := by
      unfold crossB
      dsimp only
      rw [xl (sl h1 hs1).1, xl (sl h1 hs1).2, xl (sl h2 ht1).1, xl (sl h2 ht1).2]
    have c0 := g.cr p h1 q h2 s hs1 t ht1
    rcases hs2 with rfl | rfl <;> rcases ht2 with rfl | rfl
    · rw [same]; exact c0
    · rw [cross_sw2, same]; exact c0
    · rw [cross_sw1, same]; exact c0
    · rw [cross_sw1, cross_sw2, same]; exact c0
def geoU (cs : List Pt) (ps : List Pc) : Bool := ndB cs && ps.all (fun p => decide (p.1 < cs.length) && decide (p.2.1 < cs.length) && decide (p.2.2 < cs.length) && !decide (turn (xy cs p.1) (xy cs p.2.1) (xy cs p.2.2) = 0)) &&
  ps.all (fun p => (List.range cs.length).all fun i => decide (i = p.1) || decide (i = p.2.1) || decide (i = p.2.2) || !(liesB cs p i)) && (allSides ps).all (fun s => (allSides ps).all fun t => !(crossB cs s t))
theorem geoU_inv {cs : List Pt} {ps : List Pc} (h : geoU cs ps = true) : GeoU cs ps := by
  unfold geoU at h
  simp only [Bool.and_eq_true, List.all_eq_true, Bool.or_eq_true, decide_eq_true_eq, Bool.not_eq_true', decide_eq_false_iff_not, List.mem_range] at h
  obtain ⟨⟨⟨h1, h2⟩, h5⟩, h6⟩ := h
  refine ⟨ndB_inv h1, fun p hp => ⟨(h2 p hp).1.1.1, (h2 p hp).1.1.2, (h2 p hp).1.2⟩, fun p hp => (h2 p hp).2, fun p hp i hi n1 n2 n3 => ?_, fun p hp q hq s hs t ht => h6 s (List.mem_flatMap.mpr ⟨p, hp, hs⟩) t (List.mem_flatMap.mpr ⟨q, hq, ht⟩)⟩
  rcases h5 p hp i hi with ((k | k) | k) | k
  · exact absurd k n1
  · exact absurd k n2
  · exact absurd k n3
  · exact k
def shpB (sh : List Pt × List Pc) : Bool := decide (sh.1.length ≤ 6) && decide (3 ≤ sh.1.length) && decide (sh.2.length ≤ 4) && decide (1 ≤ sh.2.length) && sh.1.all (fun p => decide (-6 ≤ p.1) && decide (p.1 ≤ 6) && decide (-6 ≤ p.2) && decide (p.2 ≤ 6)) && geoU sh.1 sh.2
def ordsB (sh : List Pt × List Pc) : Bool := (drawn sh.1.length (List.range sh.1.length)).all fun o => comB sh.1.length (ledPs o sh.2)
theorem shp_ok : shp.all shpB = true := by decide +kernel
theorem shp_com : shp.all ordsB = true := by decide +kernel
theorem ord_3 : (drawn 3 (List.range 3)).all (ordB 3) = true := by decide +kernel
theorem ord_4 : (drawn 4 (List.range 4)).all (ordB 4) = true := by decide +kernel
theorem ord_5 : (drawn 5 (List.range 5)).all (ordB 5) = true := by decide +kernel
theorem ord_6 : (drawn 6 (List.range 6)).all (ordB 6) = true := by decide +kernel
end V
set_option exponentiation.threshold 20000
namespace V
open PySem PySem.Spec ZL L2
def eN (ns : List Nat) : List PyData := ns.map fun (i : Nat) => PyData.int (i : Int)
theorem eN_int (ns : List Nat) : eN ns = (ns.map fun (i : Nat) => (i : Int)).map PyData.int := lenI ns
theorem neL_nil (ns : List Nat) : neM (.list (eN ns)) (.list []) = pure (!ns.isEmpty) := by
  show ofO (if SeqAt.shaped _ && SeqAt.shaped _ then some (!(PyData.eqv _ _)) else none) = _
  rw [eN_int, shaped_ints]
  show ofO (some (!(PyData.eqvAll _ _))) = _
  cases ns <;> rfl
theorem popC_some {s : Cells} {k : Int} {ys : List PyData} {n : Nat} {d : PyData} (h : s[1]? = some (some (.lst ys))) (hp : popD ys k = some (n, d)) : popC 1 (.int k) s = .ok d (s.set 1 (some (.lst (ys.eraseIdx n)))) := by
  unfold popC
  simp only [h, hp]
theorem popC_run {xs : List PyData} {i : Nat} {d : PyData} {c : Option Cell} {r : Cells} (e : xs[i]? = some d) (h62 : i ≤ 100000) : popC 1 (.int (i : Int)) (c :: cS xs :: r) = .ok d (c :: cS (xs.eraseIdx i) :: r) := by
  have hi := (List.getElem?_eq_some_iff.mp e).1
  have hx : ixN xs.length (i : Int) = some i := by
    unfold ixN
    rw [if_pos (by omega), if_pos (by omega)]
    simp
  have c62 : -((2 : Int) ^ 62) ≤ (i : Int) ∧ (i : Int) < (2 : Int) ^ 62 := by
    have : (2 : Int) ^ 62 = 4611686018427387904 := by decide
    omega
  have hp : popD xs (i : Int) = some (i, d) := by
    have e1 : popD xs (i : Int) = (ixN xs.length (i : Int)).bind fun n => (xs[n]?).map fun d => (n, d) := if_pos c62
    rw [e1, hx, Option.bind_some, e]; rfl
  exact popC_some rfl hp
theorem map_eraseIdx {α β : Type} (f : α → β) : ∀ (l : List α) (i : Nat), (l.map f).eraseIdx i = (l.eraseIdx i).map f
  | [], _ => rfl
  | x :: l, 0 => rfl
  | x :: l, i + 1 => by
    show f x :: (l.map f).eraseIdx i = _
    rw [map_eraseIdx f l i]; rfl
theorem order_loop {D : List (List Nat)} {c : Unit → M Bool} {body : Unit → M (Fl Unit Unit)} {L : Type}
    (hc : ∀ left st r, c () (cS st :: cS (eN left) :: r) = .ok (!left.isEmpty) (cS st :: cS (eN left) :: r))
    (hb : ∀ left found st, GoodSt st → 0 < left.length → left.length ≤ 100 → found.length ≤ 100 → ∃ k st', k < left.length ∧ GoodSt st' ∧ body () [cS st, cS (eN left), cS (eN found)] = .ok (.nx ()) [cS st', cS (eN (left.eraseIdx k)), cS (eN (found ++ [left.getD k 0]))]) :
    ∀ (m : Nat) (left found : List Nat) (st : List PyData) (n : Nat), left.length = m → m ≤ 100 → found.length + m ≤ 100 → GoodSt st → m < n → (∀ r ∈ drawn m left, found ++ r ∈ D) → ∃ st' o, GoodSt st' ∧ o ∈ D ∧ (whileM c body n () : M (Fl L Unit)) [cS st, cS (eN left), cS (eN found)] = .ok (.nx ()) [cS st', cS [], cS (eN o)] := by
  intro m
  induction m with
  | zero =>
    intro left found st n hl hm hf g hn hD
    have : left = [] := List.length_eq_zero_iff.mp hl
    subst this
    obtain ⟨j, rfl⟩ : ∃ j, n = j + 1 := ⟨n - 1, by omega⟩
    refine ⟨st, found, g, by simpa using hD [] (by simp [drawn]), ?_⟩
    rw [whileM_succ]
    exact bindR (hc [] st _) rfl
  | succ m ih =>
    intro left found st n hl hm hf g hn hD
    obtain ⟨j, rfl⟩ : ∃ j, n = j + 1 := ⟨n - 1, by omega⟩
    obtain ⟨k, st', hk, g', e⟩ := hb left found st g (by omega) (by omega) (by omega)
    obtain ⟨st2, o, g2, ho, e2⟩ := ih (left.eraseIdx k) (found ++ [left.getD k 0]) st' j (by rw [List.length_eraseIdx_of_lt hk]; omega) (by omega) (by rw [List.length_append]; simp; omega) g' (by omega) fun r hr => by
      rw [List.append_assoc]
      refine hD _ ?_
      unfold drawn
      exact List.mem_flatMap.mpr ⟨k, List.mem_range.mpr hk, List.mem_map.mpr ⟨r, hr, rfl⟩⟩
    refine ⟨st2, o, g2, ho, ?_⟩
    rw [whileM_succ]
    refine bindR (hc left st _) ?_
    have : left.isEmpty = false := by cases left with
      | nil => simp at hl
      | cons a l => rfl
    rw [this]
    show (body () >>= _) _ = _
    exact bindR e e2
theorem order_gen {n : Nat} (h1 : 1 ≤ n) (h : n ≤ 90) : Gen1 (L.law_order (.int (n : Int))) fun d => ∃ o, d = .list (eN o) ∧ o ∈ drawn n (List.range n) := by
  intro st g
  unfold L.law_order
  have hr : rgN (.int 0) (.int (n : Int)) = pure (eN (List.range n)) := by
    have e := range_list (n := n) (by omega)
    have ok : rgOk 0 (n : Int) = true := by
      unfold rgOk
      simp only [Bool.and_eq_true, decide_eq_true_eq]
      omega
    have e2 : rgO (.int 0) (.int (n : Int)) = some (rangeD 0 n) := by
      unfold rgO
      simp only [ok, if_true]
      simp
    unfold rgN
    rw [e2, ofO_some]
    unfold rangeD eN
    simp
  have l := order_loop (L := Unit) (D := drawn n (List.range n)) (c := fun (t1 : Unit) => ((lstK []) >>= fun x2 => (getC 1 >>= fun xs3 => (bif true then neM (.list xs3) x2 else eqM (.list xs3) x2)))) (body := fun (t1 : Unit) => ((getC 2 >>= fun _ => (getC 1 >>= fun _ => ((getC 1 >>= fun xs4 => (lenM (.list xs4))) >>= fun x5 => (sub [0] (L.law_choice x5))) >>= fun x6 => popC 1 x6) >>= fun x7 => appC 2 x7) >>= fun _u9 => (pure (.nx ()))))
    (fun left st r => by
      simp only [lstK_0, pure_bind', cond_true]
      refine bindR (getC_1 _ _ _) ?_
      rw [neL_nil]; rfl)
    (fun left found st g h0 h1 h2 => by
      obtain ⟨a, st', g', ⟨r, rfl, r0, r1⟩, e⟩ := choice (n := (left.length : Int)) (by omega) (by omega) st [cS (eN left), cS (eN found)] g
      obtain ⟨k, rfl⟩ : ∃ k : Nat, r = k := ⟨r.toNat, by omega⟩
      have hk : k < left.length := by omega
      refine ⟨k, st', hk, g', ?_⟩
      simp only [bind_assoc']
      refine bindR (getC_2 _ _ _ _) (bindR (getC_1 _ _ _) (bindR (getC_1 _ _ _) ?_))
      rw [len_list, show (eN left).length = left.length from List.length_map .., pure_bind']
      refine bindR e (bindR (popC_run (d := .int ((left.getD k 0 : Nat) : Int)) ?_ (by omega)) (bindR (appC_2 (by unfold eN; rw [List.length_map]; omega)) ?_))
      · unfold eN
        rw [List.getElem?_map, List.getElem?_eq_getElem hk, List.getD_eq_getElem?_getD, List.getElem?_eq_getElem hk]; rfl
      · unfold eN
        rw [map_eraseIdx, List.map_append]; rfl)
  obtain ⟨st', o, g', ho, e⟩ := l n (List.range n) [] st fuel List.length_range (by omega) (by simp; omega) g (by unfold fuel; omega) (fun r hr => by simpa using hr)
  refine ⟨.list (eN o), st', g', ⟨o, rfl, ho⟩, ?_⟩
  refine (frame_run (s := [cS st]) (nl := 2) (s' := [cS st', cS [], none]) ?_).trans rfl
  rw [hr]
  simp only [pure_bind', lstN0, fin_bind]
  refine bindR (setC_1 _ _ _ _) (bindR (setC_2 _ _ _ _ _) ?_)
  refine bindR e ?_
  rw [flk_nx]
  simp only [fin_bind, bind_assoc', pure_bind', fin_rt]
  exact bindR (lockC_2 _ _ _ _) rfl
theorem order {n : Nat} (h1 : 1 ≤ n) (h : n ≤ 90) : Gen (V.sub [0] (L.law_order (.int (n : Int)))) fun d => ∃ o, d = .list (eN o) ∧ o ∈ drawn n (List.range n) := (order_gen h1 h).sub
theorem Gen.noex {α : Type} {m : M α} {P : α → Prop} (h : Gen m P) : Gen (V.noex m) P := fun st rest g => by
  obtain ⟨a, st', g', p, e⟩ := h st rest g
  refine ⟨a, st', g', p, ?_⟩
  show (match m _ with | .ok a s' => Res.ok a s' | _ => .bad) = _
  rw [e]
theorem Gen.comp {f : PyData → M PyData} {P : PyData → Prop} {xs : List PyData} (hl : xs.length ≤ 16777216) (h : ∀ x ∈ xs, Gen (f x) P) : Gen (V.comp pN yep f xs) fun ys => ys.length = xs.length ∧ ∀ y ∈ ys, P y := by
  unfold V.comp
  rw [if_pos (show xs.length ≤ line from hl)]
  refine Gen.noex ?_
  have : ∀ {xs : List PyData}, (∀ x ∈ xs, Gen (f x) P) → Gen (compP pN yep f xs) fun ys => ys.length = xs.length ∧ ∀ y ∈ ys, P y := by
    intro xs
    induction xs with
    | nil => intro _; exact Gen.pure ⟨rfl, fun y h => by cases h⟩
    | cons x r ih =>
      intro h
      unfold compP
      rw [ofO_some, pure_bind', pure_bind', cond_true]
      refine Gen.bind (h x List.mem_cons_self) fun y hy => ?_
      refine Gen.bind (ih fun z hz => h z (List.mem_cons_of_mem _ hz)) fun ys hys => ?_
      refine Gen.pure ⟨by simp [hys.1], fun z hz => ?_⟩
      rcases List.mem_cons.mp hz with rfl | hz
      · exact hy
      · exact hys.2 z hz
  exact this h
end V
set_option exponentiation.threshold 20000
namespace V
open PySem PySem.Spec ZL L2
@[simp] theorem tupK_5 (a b c d e : PyData) : tupK [.d a, .d b, .d c, .d d, .d e] = pure (.tuple [a, b, c, d, e]) := rfl
@[simp] theorem tupK_6 (a b c d e f : PyData) : tupK [.d a, .d b, .d c, .d d, .d e, .d f] = pure (.tuple [a, b, c, d, e, f]) := rfl
theorem shapes_eq : L.law_shapes = pure (.list (shp.map fun s => .tuple [eCs s.1, ePs s.2])) := by
  unfold L.law_shapes
  simp only [neg_int, tupK_1, tupK_2, tupK_3, tupK_4, tupK_5, tupK_6, lstK_8, pure_bind', fin_rt, frame_pure]
  rfl
theorem setAll_map {α β : Type} (F : α → β) : ∀ (o : List Nat) (l acc : List α), setAll o (l.map F) (acc.map F) = (setAll o l acc).map F
  | i :: o, v :: l, acc => by
    show setAll o (l.map F) ((acc.map F).set i (F v)) = _
    rw [← List.map_set]
    exact setAll_map F o l (acc.set i v)
  | [], _, _ => rfl
  | _ :: _, [], _ => rfl
theorem setAll_led {pts : List Pt} {o : List Nat} (ho : Ord pts.length o) (hn : pts.length ≤ 100) (f : Pt → PyData) (e0 : PyData) : setAll o (pts.map f) (List.replicate pts.length e0) = (ledCs o pts).map f := by
  have h1 : pts.map f = (List.range pts.length).map fun i => if i = 999 then e0 else f (xy pts i) := by
    apply List.ext_getElem?
    intro i
    rw [List.getElem?_map, List.getElem?_map]
    by_cases h : i < pts.length
    · rw [xy_at h, List.getElem?_range h]
      simp [show i ≠ 999 by omega]
    · rw [List.getElem?_eq_none (by omega), List.getElem?_eq_none (by rw [List.length_range]; omega)]; rfl
  have h2 : List.replicate pts.length e0 = (List.replicate pts.length 999).map fun i => if i = 999 then e0 else f (xy pts i) := by
    rw [List.map_replicate]; simp
  rw [h1, h2, setAll_map, ho.set]
  unfold ledCs
  rw [List.map_map, List.map_map]
  refine List.map_congr_left fun j hj => ?_
  have := (ho.xi j (List.mem_range.mp hj)).1
  simp [show o.idxOf j ≠ 999 by omega]
theorem putC_1 {xs : List PyData} {i : Nat} {v : PyData} {c : Option Cell} {r : Cells} (h : i < xs.length) : putC 1 (.int (i : Int)) v (c :: cS xs :: r) = .ok () (c :: cS (xs.set i v) :: r) := by
  have hx : ixN xs.length (i : Int) = some i := by
    unfold ixN
    rw [if_pos (by omega), if_pos (by omega)]
    simp
  unfold putC
  rw [show (c :: cS xs :: r)[1]? = some (some (.lst xs)) from rfl]
  simp only [hx]
  rfl
theorem put_loop {o : List Nat} {f : Pt → PyData} {L : Type} {body : PyData × PyData × PyData → Unit → M (Fl Unit Unit)} {ok : Pt → Prop}
    (hb : ∀ (i : Nat) (p : Pt) (acc : List PyData) (c : Option Cell) (r : Cells), i < o.length → o.getD i 0 < acc.length → ok p → body (.int (i : Int), .int p.1, .int p.2) () (c :: cS acc :: r) = .ok (.nx ()) (c :: cS (acc.set (o.getD i 0) (f p)) :: r)) :
    ∀ (ps : List Pt) (k : Nat) (acc : List PyData) (c : Option Cell) (r : Cells), k + ps.length ≤ o.length → (∀ i < o.length, o.getD i 0 < acc.length) → (∀ p ∈ ps, ok p) →
      (V.forM (pT2 pN (pT2 pN pN)) body (List.zipWith (fun (i : Nat) x => PyData.tuple [.int (i : Int), x]) (List.range' k ps.length) (ps.map ePt)) () : M (Fl L Unit)) (c :: cS acc :: r) = .ok (.nx ()) (c :: cS (setAll (o.drop k) (ps.map f) acc) :: r)
  | [], k, acc, c, r, _, _, _ => by
    cases o.drop k <;> rfl
  | p :: ps, k, acc, c, r, hk, ha, hp => by
    have hk' : k < o.length := by simp at hk; omega
    have e : o.drop k = o.getD k 0 :: o.drop (k + 1) := by
      rw [List.getD_eq_getElem?_getD, List.getElem?_eq_getElem hk']
      exact List.drop_eq_getElem_cons hk'
    rw [e]
    show (V.forM _ body (PyData.tuple [.int (k : Int), ePt p] :: _) () : M (Fl L Unit)) _ = _
    unfold V.forM
    rw [show pT2 pN (pT2 pN pN) (PyData.tuple [.int (k : Int), ePt p]) = some (.int (k : Int), .int p.1, .int p.2) from rfl, ofO_some, pure_bind']
    refine bindR (hb k p acc c r hk' (ha k hk') (hp p List.mem_cons_self)) ?_
    exact put_loop hb ps (k + 1) _ c r (by simp at hk ⊢; omega) (fun i hi => by rw [List.length_set]; exact ha i hi) fun q hq => hp q (List.mem_cons_of_mem _ hq)
theorem enum_range (ps : List Pt) : enumM (eCs ps) = pure (List.zipWith (fun (i : Nat) x => PyData.tuple [.int (i : Int), x]) (List.range' 0 ps.length) (ps.map ePt)) := by
  show ofO (some (enumD (ps.map ePt))) = _
  rw [ofO_some]
  unfold enumD
  rw [List.length_map, List.range_eq_range']
theorem sort3_sort (a b c : Nat) : sortI [(a : Int), (b : Int), (c : Int)] = [((sort3 a b c).1 : Int), ((sort3 a b c).2.1 : Int), ((sort3 a b c).2.2 : Int)] := by
  refine (sortI_uniq ?_ ?_).symm
  · unfold sort3
    split
    · split
      · exact .refl _
      · split
        · exact .cons _ (.swap _ _ _)
        · exact (List.Perm.swap (a : Int) (c : Int) [(b : Int)]).trans (.cons _ (.swap _ _ _))
    · split
      · exact .swap _ _ _
      · split
        · exact (List.Perm.cons (b : Int) (.swap (a : Int) (c : Int) [])).trans (.swap _ _ _)
        · exact ((List.Perm.swap (b : Int) (c : Int) [(a : Int)]).trans (.cons _ (.swap _ _ _))).trans (.swap _ _ _)
  · unfold sort3
    split
    · split
      · simp; omega
      · split <;> (simp; omega)
    · split
      · simp; omega
      · split <;> (simp; omega)
def pcI (p : Pc) : List Int := [(p.1 : Int), (p.2.1 : Int), (p.2.2 : Int)]
theorem code_pc (p : Pc) : TS.code bB (pcI p) = (keyP p : Nat) := by
  unfold pcI keyP
  simp only [TS.code, List.length_cons, List.length_nil]
  unfold bB
  omega
theorem insP_perm (p : Pc) : ∀ l : List Pc, (insP p l).Perm (p :: l)
  | [] => .refl _
  | q :: r => by
    unfold insP
    split
    · exact .refl _
    · exact (List.Perm.cons q (insP_perm p r)).trans (.swap _ _ _)
theorem isortP_perm : ∀ l : List Pc, (isortP l).Perm l
  | [] => .refl _
  | p :: l => (insP_perm p (isortP l)).trans (.cons p (isortP_perm l))
theorem insP_sorted (p : Pc) : ∀ {l : List Pc}, l.Pairwise (fun a b => keyP a ≤ keyP b) → (insP p l).Pairwise fun a b => keyP a ≤ keyP b
  | [], _ => List.pairwise_singleton _ _
  | q :: r, h => by
    obtain ⟨h1, h2⟩ := List.pairwise_cons.mp h
    unfold insP
    split
    · rename_i hk
      refine List.pairwise_cons.mpr ⟨fun x hx => ?_, h⟩
      rcases List.mem_cons.mp hx with rfl | hx
      · exact hk
      · exact Nat.le_trans hk (h1 x hx)
    · rename_i hk
      refine List.pairwise_cons.mpr ⟨fun x hx => ?_, insP_sorted p h2⟩
      rcases insP_mem.mp hx with rfl | hx
      · omega
      · exact h1 x hx
theorem isortP_sorted : ∀ l : List Pc, (isortP l).Pairwise fun a b => keyP a ≤ keyP b
  | [] => .nil
  | p :: l => insP_sorted p (isortP_sorted l)
theorem sorted_pcs {l : List Pc} (h1 : 1 ≤ l.length) (h2 : l.length < 64) (hb : ∀ p ∈ l, p.1 < 1000 ∧ p.2.1 < 1000 ∧ p.2.2 < 1000) : sortedM (.list (l.map ePc)) = pure (.list ((isortP l).map ePc)) := by
  have e1 : l.map ePc = (l.map pcI).map tupI := by rw [List.map_map]; rfl
  have e2 : sortT (l.map pcI) = (isortP l).map pcI := by
    refine (sortT_uniq (d := 3) (fun ns hns => ?_) ((isortP_perm l).map pcI) ?_).symm
    · obtain ⟨p, hp, rfl⟩ := List.mem_map.mp hns
      obtain ⟨k1, k2, k3⟩ := hb p hp
      unfold okT pcI bB
      simp
      omega
    · rw [List.pairwise_map]
      refine (isortP_sorted l).imp fun {a b} h => ?_
      rw [code_pc, code_pc]
      omega
  have e3 : sortD (l.map ePc) = some (((isortP l).map pcI).map tupI) := by
    unfold sortD
    rw [e1]
    obtain ⟨p0, r0, hl⟩ : ∃ p r, l = p :: r := by
      cases l with
      | nil => simp at h1
      | cons p r => exact ⟨p, r, rfl⟩
    have en : intsD ((l.map pcI).map tupI) = none := by rw [hl]; rfl
    rw [en, tupsD_of]
    simp only
    have hd : ((l.map pcI).headD []).length = 3 := by rw [hl]; rfl
    rw [hd, if_pos ⟨by rw [List.length_map]; exact h2, by omega, List.all_eq_true.mpr fun x hx => by
      obtain ⟨p, hp, rfl⟩ := List.mem_map.mp hx
      obtain ⟨k1, k2, k3⟩ := hb p hp
      unfold okT pcI bB
      simp
      omega⟩, e2]
  show ofO (Option.map PyData.list (sortD (l.map ePc))) = _
  rw [e3, Option.map_some, ofO_some, List.map_map]
  rfl
theorem led_piece {o : List Nat} {p : Pc} (h : p.1 < o.length ∧ p.2.1 < o.length ∧ p.2.2 < o.length) : ((((pure (ePc p) >>= rowM) >>= fun xs47 => comp pN yep (fun t46 => ixM (.list (eN o)) t46) xs47 >>= fun ys49 => pure (PyData.list ys49)) >>= fun x50 => sortedM x50) >>= fun x51 => tupleM x51) = pure (ePc (ledP o p)) := by
  have e1 : comp pN yep (fun t46 => ixM (.list (eN o)) t46) ([p.1, p.2.1, p.2.2].map fun (i : Nat) => PyData.int (i : Int)) = pure ([p.1, p.2.1, p.2.2].map fun i => PyData.int ((o.getD i 0 : Nat) : Int)) := comp_of (by simp) fun i hi => by
    have : i < o.length := by rcases mem3 hi with rfl | rfl | rfl <;> omega
    exact ix_natL i (by unfold eN; rw [List.getElem?_map, List.getElem?_eq_getElem this, List.getD_eq_getElem?_getD, List.getElem?_eq_getElem this]; rfl)
  rw [show (pure (ePc p) >>= rowM) = (pure ([p.1, p.2.1, p.2.2].map fun (i : Nat) => PyData.int (i : Int)) : M _) from rfl, pure_bind', e1, pure_bind', pure_bind']
  have e2 : sortedM (.list ([p.1, p.2.1, p.2.2].map fun i => PyData.int ((o.getD i 0 : Nat) : Int))) = pure (.list [.int ((ledP o p).1 : Int), .int ((ledP o p).2.1 : Int), .int ((ledP o p).2.2 : Int)]) := by
    show ofO (Option.map PyData.list (some ((sortI [((o.getD p.1 0 : Nat) : Int), ((o.getD p.2.1 0 : Nat) : Int), ((o.getD p.2.2 0 : Nat) : Int)]).map PyData.int))) = _
    rw [sort3_sort]; rfl
  rw [e2]; rfl
theorem At.run {α β : Type} {m : M α} {k : α → M β} {a : α} {r r' : Cells} {Q : β → Cells → Prop} (h : ∀ st, m (cS st :: r) = .ok a (cS st :: r')) (hk : Tr (At r') (k a) Q) : Tr (At r) (m >>= k) Q := by
  rintro s ⟨st, g, rfl⟩
  obtain ⟨b, s2, e2, q⟩ := hk _ ⟨st, g, rfl⟩
  exact ⟨b, s2, by rw [bind_ok (h st)]; exact e2, q⟩
theorem ints_of {P : Int → Prop} : ∀ {ys : List PyData}, (∀ y ∈ ys, ∃ t : Int, y = .int t ∧ P t) → ∃ ts : List Int, ys = ts.map PyData.int ∧ ∀ t ∈ ts, P t
  | [], _ => ⟨[], rfl, fun t h => by cases h⟩
  | y :: r, h => by
    obtain ⟨t, rfl, p⟩ := h y List.mem_cons_self
    obtain ⟨ts, rfl, q⟩ := ints_of fun z hz => h z (List.mem_cons_of_mem _ hz)
    refine ⟨t :: ts, rfl, fun u hu => ?_⟩
    rcases List.mem_cons.mp hu with rfl | hu
    · exact p
    · exact q u hu
theorem ord_of {n : Nat} (h3 : 3 ≤ n) (h6 : n ≤ 6) {o : List Nat} (ho : o ∈ drawn n (List.range n)) : Ord n o := by
  have : n = 3 ∨ n = 4 ∨ n = 5 ∨ n = 6 := by omega
  rcases this with rfl | rfl | rfl | rfl
  · exact ordB_inv (List.all_eq_true.mp ord_3 o ho)
  · exact ordB_inv (List.all_eq_true.mp ord_4 o ho)
  · exact ordB_inv (List.all_eq_true.mp ord_5 o ho)
  · exact ordB_inv (List.all_eq_true.mp ord_6 o ho)
theorem rep_pt {n : Nat} (h : n ≤ 1000) (x : PyData) : repN (.list [x]) (.int (n : Int)) = pure (List.replicate n x) := by
  have ok : repOk (n : Int) 1 = true := by
    unfold repOk line
    simp only [Bool.and_eq_true, decide_eq_true_eq]
    omega
  have e : repO (.list [x]) (.int (n : Int)) = some (repD n [x]) := by
    unfold repO
    simp only [List.length_cons, List.length_nil, Nat.zero_add, ok, if_true]
    simp
  have e3 : ∀ m : Nat, repD m [x] = List.replicate m x := by
    intro m
    induction m with
    | zero => rfl
    | succ m ih =>
      show [x] ++ repD m [x] = _
      rw [ih]; rfl
  rw [e3] at e
  exact congrArg ofO e
structure Drawn (P : Pl) : Prop where
  ok : PlOk P
  n6 : P.cs.length ≤ 6
  k4 : P.ps.length ≤ 4
def Made (most : Int) (P : Pl) : Prop := ∃ (k : Nat) (sh : List Pt × List Pc) (o : List Nat) (A B C D s t : Int), (k : Int) < most ∧ shp[k]? = some sh ∧ o ∈ drawn sh.1.length (List.range sh.1.length) ∧ (1 ≤ A ∧ A ≤ 3) ∧ (-2 ≤ B ∧ B ≤ 2) ∧ (-2 ≤ C ∧ C ≤ 2) ∧ (-3 ≤ D ∧ D ≤ 3) ∧ A * D - B * C ≠ 0 ∧
  (-20 ≤ s ∧ s ≤ 20) ∧ (-4 ≤ t ∧ t ≤ 4) ∧ P.cs = (ledCs o sh.1).map (aff A B C D s t) ∧ P.ps = ledPs o sh.2
theorem plate_made {most : Int} (h1 : 1 ≤ most) (h8 : most ≤ 8) : Gen1 (L.law_plate (.int most)) fun d => ∃ P, d = ePl P ∧ Drawn P ∧ (most ≤ 6 → P.ps.length ≤ 3) ∧ Made most P := by
  unfold L.law_plate
  refine Gen1.ofTr ?_
  rw [shapes_eq]
  simp only [sub_pure, pure_bind', bind_assoc', fin_bind]
  refine At.gen (choice (by omega) (by omega)) ?_
  rintro _ ⟨w, rfl, w0, w1⟩
  obtain ⟨⟨pts, pcs⟩, hs, k3, ⟨kk, kl, ks⟩, ed⟩ : ∃ s : List Pt × List Pc, s ∈ shp ∧ (most ≤ 6 → s.2.length ≤ 3) ∧ (∃ k : Nat, (k : Int) < most ∧ shp[k]? = some s) ∧ ixM (.list (shp.map fun s => PyData.tuple [eCs s.1, ePs s.2])) (.int w) = (pure (PyData.tuple [eCs s.1, ePs s.2]) : M PyData) := by
    have : w = 0 ∨ w = 1 ∨ w = 2 ∨ w = 3 ∨ w = 4 ∨ w = 5 ∨ w = 6 ∨ w = 7 := by omega
    rcases this with rfl | rfl | rfl | rfl | rfl | rfl | rfl | rfl
    · exact ⟨shp[0]'(by decide), List.getElem_mem _, fun _ => by decide, ⟨0, w1, rfl⟩, ix_natL 0 rfl⟩
    · exact ⟨shp[1]'(by decide), List.getElem_mem _, fun _ => by decide, ⟨1, w1, rfl⟩, ix_natL 1 rfl⟩
    · exact ⟨shp[2]'(by decide), List.getElem_mem _, fun _ => by decide, ⟨2, w1, rfl⟩, ix_natL 2 rfl⟩
    · exact ⟨shp[3]'(by decide), List.getElem_mem _, fun _ => by decide, ⟨3, w1, rfl⟩, ix_natL 3 rfl⟩
    · exact ⟨shp[4]'(by decide), List.getElem_mem _, fun _ => by decide, ⟨4, w1, rfl⟩, ix_natL 4 rfl⟩
    · exact ⟨shp[5]'(by decide), List.getElem_mem _, fun _ => by decide, ⟨5, w1, rfl⟩, ix_natL 5 rfl⟩
    · exact ⟨shp[6]'(by decide), List.getElem_mem _, fun h => absurd h (by omega), ⟨6, w1, rfl⟩, ix_natL 6 rfl⟩
    · exact ⟨shp[7]'(by decide), List.getElem_mem _, fun h => absurd h (by omega), ⟨7, w1, rfl⟩, ix_natL 7 rfl⟩
  have hB := List.all_eq_true.mp shp_ok _ hs
  have hC := List.all_eq_true.mp shp_com _ hs
  unfold shpB at hB
  simp only [Bool.and_eq_true, decide_eq_true_eq, List.all_eq_true] at hB
  obtain ⟨⟨⟨⟨⟨n6, n3⟩, k4⟩, k1⟩, small⟩, hG⟩ := hB
  have G := geoU_inv hG
  rw [ed]
  simp only [pure_bind', show pQ2 pN pN (PyData.tuple [eCs pts, ePs pcs]) = some (eCs pts, ePs pcs) from rfl, ofO_some]
  refine At.gen (choice (by decide) (by decide)) ?_
  rintro _ ⟨a, rfl, a0, a1⟩
  simp only [add_int, pure_bind']
  refine At.gen (choice (by decide) (by decide)) ?_
  rintro _ ⟨b, rfl, b0, b1⟩
  simp only [sub_int, pure_bind']
  refine At.gen (choice (by decide) (by decide)) ?_
  rintro _ ⟨c, rfl, c0, c1⟩
  simp only [sub_int, pure_bind']
  refine At.gen (choice (by decide) (by decide)) ?_
  rintro _ ⟨d, rfl, d0, d1⟩
  simp only [sub_int, pure_bind']
  refine At.gen (choice (by decide) (by decide)) ?_
  rintro _ ⟨s, rfl, s0, s1⟩
  simp only [sub_int, pure_bind']
  refine At.gen (choice (by decide) (by decide)) ?_
  rintro _ ⟨t, rfl, t0, t1⟩
  simp only [sub_int, pure_bind']
  rw [mulS ⟨by omega, by omega⟩ ⟨by omega, by omega⟩, mulS ⟨by omega, by omega⟩ ⟨by omega, by omega⟩]
  simp only [pure_bind', eq_int]
  obtain ⟨A, B, C, D, hA0, hB0, hC0, hD, hdet, em⟩ : ∃ A B C D : Int, (1 ≤ A ∧ A ≤ 3) ∧ (-2 ≤ B ∧ B ≤ 2) ∧ (-2 ≤ C ∧ C ≤ 2) ∧ (-3 ≤ D ∧ D ≤ 3) ∧ A * D - B * C ≠ 0 ∧
      (bif decide ((1 + a) * (d - 3) = (b - 2) * (c - 2)) then (tupK [.d (.int 1), .d (.int (b - 2)), .d (.int 0), .d (.int 1)] >>= fun v24 => ofO (pQ4 pN pN pN pN v24) >>= fun u23 => (pure (.nx (u23.1, u23.2.1, u23.2.2.1, u23.2.2.2)) : M (Fl Unit (PyData × PyData × PyData × PyData)))) else (pure (.nx (.int (1 + a), .int (b - 2), .int (c - 2), .int (d - 3))))) = pure (.nx (.int A, .int B, .int C, .int D)) := by
    by_cases h : (1 + a) * (d - 3) = (b - 2) * (c - 2)
    · refine ⟨1, b - 2, 0, 1, by omega, by omega, by omega, by omega, by omega, ?_⟩
      rw [decide_eq_true h]
      rfl
    · refine ⟨1 + a, b - 2, c - 2, d - 3, by omega, by omega, by omega, by omega, by omega, ?_⟩
      rw [decide_eq_false h]
      rfl
  have hA : -3 ≤ A ∧ A ≤ 3 := by omega
  have hB' : -3 ≤ B ∧ B ≤ 3 := by omega
  have hC' : -3 ≤ C ∧ C ≤ 3 := by omega
  rw [em]
  rw [pure_bind', flk_nx]
  simp only [fin_bind]
  rw [len_cs, pure_bind']
  refine At.gen (order (n := pts.length) (by omega) (by omega)) ?_
  rintro _ ⟨o, rfl, ho⟩
  have O := ord_of n3 n6 ho
  have cm := comB_inv (List.all_eq_true.mp hC o ho)
  have GG := Geo.led G O cm
  rw [tupK_2, pure_bind', lstK_1, pure_bind', pure_bind', rep_pt (by omega), pure_bind']
  refine At.run (r' := [cS (List.replicate pts.length (.tuple [.int 0, .int 0]))]) (fun st => setC_1 _ _ _ _) ?_
  rw [enum_range, pure_bind']
  have sm : ∀ p ∈ pts, ((-6 ≤ p.1 ∧ p.1 ≤ 6) ∧ -6 ≤ p.2) ∧ p.2 ≤ 6 := fun p hp => by
    have := small p hp
    omega
  have prod : ∀ {x y : Int}, -3 ≤ x ∧ x ≤ 3 → -6 ≤ y ∧ y ≤ 6 → -18 ≤ x * y ∧ x * y ≤ 18 := fun {x y} hx hy => by
    have : x = -3 ∨ x = -2 ∨ x = -1 ∨ x = 0 ∨ x = 1 ∨ x = 2 ∨ x = 3 := by omega
    rcases this with rfl | rfl | rfl | rfl | rfl | rfl | rfl <;> omega
  refine At.run (r' := [cS (setAll (o.drop 0) (pts.map fun p => ePt (aff A B C D (s - 20) (t - 4) p)) (List.replicate pts.length (.tuple [.int 0, .int 0])))]) (a := .nx ()) (fun st => ?_) ?_
  · refine put_loop (o := o) (f := fun p => ePt (aff A B C D (s - 20) (t - 4) p)) (ok := fun p => ((-6 ≤ p.1 ∧ p.1 ≤ 6) ∧ -6 ≤ p.2) ∧ p.2 ≤ 6) (fun i p acc c r hi ha hp => ?_) pts 0 _ _ _ (by rw [O.len]; omega) (fun i hi => by rw [List.length_replicate]; exact O.lt i (by rw [← O.len]; exact hi)) sm
    have q1 := prod hA hp.1.1
    have q2 := prod hB' (⟨hp.1.2, hp.2⟩ : -6 ≤ p.2 ∧ p.2 ≤ 6)
    have q3 := prod hC' hp.1.1
    have q4 := prod hD (⟨hp.1.2, hp.2⟩ : -6 ≤ p.2 ∧ p.2 ≤ 6)
    dsimp only
    rw [mulS ⟨by omega, by omega⟩ ⟨by omega, by omega⟩, mulS ⟨by omega, by omega⟩ ⟨by omega, by omega⟩, mulS ⟨by omega, by omega⟩ ⟨by omega, by omega⟩, mulS ⟨by omega, by omega⟩ ⟨by omega, by omega⟩]
    simp only [pure_bind', add_int, tupK_2]
    rw [ix_natL (xs := eN o) i (d := .int ((o.getD i 0 : Nat) : Int)) (by unfold eN; rw [List.getElem?_map, List.getElem?_eq_getElem hi, List.getD_eq_getElem?_getD, List.getElem?_eq_getElem hi]; rfl), pure_bind']
    exact bindR (putC_1 ha) rfl
  simp only [flk_nx, fin_bind, pure_bind', List.drop_zero]
  rw [setAll_led O (by omega) (fun p => ePt (aff A B C D (s - 20) (t - 4) p))]
  have e1 := comp_of (f := fun t44 => (((rowM t44 >>= fun xs47 => comp pN yep (fun t46 => ixM (.list (eN o)) t46) xs47 >>= fun ys49 => pure (PyData.list ys49)) >>= fun x50 => sortedM x50) >>= fun x51 => tupleM x51)) (xs := pcs) (e := ePc) (g := fun p => ePc (ledP o p)) (by omega) (fun p hp => by
    have := led_piece (o := o) (p := p) (by rw [O.len]; exact G.lt p hp)
    simpa only [pure_bind'] using this)
  simp only [bind_assoc', pure_bind'] at e1
  rw [show rowM (ePs pcs) = pure (pcs.map ePc) from rfl, pure_bind', e1, pure_bind']
  have hled : ∀ p ∈ pcs.map (ledP o), p.1 < 1000 ∧ p.2.1 < 1000 ∧ p.2.2 < 1000 := fun q hq => by
    obtain ⟨k1, k2, k3⟩ := cm.pc q (isortP_mem.mpr hq)
    have k3 : q.2.2 < pts.length := k3
    omega
  have es := sorted_pcs (l := pcs.map (ledP o)) (by rw [List.length_map]; omega) (by rw [List.length_map]; omega) hled
  rw [List.map_map] at es
  rw [show (pcs.map fun p => ePc (ledP o p)) = pcs.map (ePc ∘ ledP o) from rfl, es, pure_bind', rowM_list, pure_bind']
  have hpl : (ledPs o pcs).length = pcs.length := by unfold ledPs; rw [(isortP_perm _).length_eq, List.length_map]
  refine At.gen (Gen.comp (P := fun y => ∃ t : Int, y = .int t ∧ 1 ≤ t ∧ t ≤ 9) (by rw [List.length_map]; show (ledPs o pcs).length ≤ _; omega) fun x hx => ?_) ?_
  · simp only [lstK_2, pure_bind']
    refine Gen.bind (choice (by decide) (by decide)) ?_
    rintro _ ⟨r, rfl, r0, r1⟩
    obtain ⟨d, hd, ed⟩ := ix_mem (xs := [.int 9, .int 2]) r0 (by simpa using r1)
    rw [ed, pure_bind']
    obtain ⟨z, rfl, z0, z1⟩ : ∃ z : Int, d = .int z ∧ 1 ≤ z ∧ z ≤ 9 := by
      simp only [List.mem_cons, List.not_mem_nil, or_false] at hd
      rcases hd with rfl | rfl
      · exact ⟨_, rfl, by decide, by decide⟩
      · exact ⟨_, rfl, by decide, by decide⟩
    refine Gen.bind (choice (by omega) (by omega)) ?_
    rintro _ ⟨u, rfl, u0, u1⟩
    rw [add_int]
    exact Gen.pure ⟨_, rfl, by omega, by omega⟩
  · rintro ys ⟨hl, hy⟩
    obtain ⟨th, rfl, hth⟩ := ints_of hy
    rw [List.length_map, List.length_map] at hl
    have hl : th.length = (ledPs o pcs).length := hl
    rw [show tupleM (.list (th.map PyData.int)) = pure (eTh th) from rfl, pure_bind']
    refine At.run (r' := [cS ((ledCs o pts).map fun p => ePt (aff A B C D (s - 20) (t - 4) p))]) (fun st => getC_1 _ _ _) ?_
    rw [show ∀ xs : List PyData, tupleM (.list xs) = pure (.tuple xs) from fun _ => rfl, pure_bind', show tupleM (.list ((isortP (pcs.map (ledP o))).map ePc)) = pure (ePs (ledPs o pcs)) from rfl, pure_bind']
    refine At.gen (choice (by decide) (by decide)) ?_
    rintro _ ⟨l, rfl, l0, l1⟩
    refine At.gen (choice (by decide) (by decide)) ?_
    rintro _ ⟨m, rfl, m0, m1⟩
    simp only [add_int, pure_bind', tupK_2, tupK_4, fin_rt]
    refine At.pure fun s' hs' => ⟨⟨⟨(ledCs o pts).map (aff A B C D (s - 20) (t - 4)), ledPs o pcs, th, l, 1 + m⟩, ?_, ⟨?_, ?_, ?_⟩, ?_, ⟨kk, (pts, pcs), o, A, B, C, D, s - 20, t - 4, kl, ks, ho, hA0, hB0, hC0, hD, hdet, ⟨by omega, by omega⟩, ⟨by omega, by omega⟩, rfl, rfl⟩⟩, ?_⟩
    · show _ = PyData.tuple [eCs _, ePs _, eTh _, eLm _]
      unfold eCs eLm
      rw [List.map_map]
      rfl
    · have A1 := GG.aff (s := s - 20) (t := t - 4) hdet
      refine ⟨?_, ?_, ?_, A1.nd, by rw [hpl]; exact k1, by rw [hpl]; omega, A1.pc, A1.ri, hl, hth, ⟨l0, by show l ≤ 9; omega⟩, ⟨by show 1 ≤ 1 + m; omega, by show 1 + m ≤ 9; omega⟩, A1.us, A1.ly, A1.cr⟩
      · show 3 ≤ (List.map _ _).length
        rw [List.length_map, ledCs_len]; exact n3
      · show (List.map _ _).length ≤ 30
        rw [List.length_map, ledCs_len]; omega
      · intro q hq
        obtain ⟨p, hp, rfl⟩ := List.mem_map.mp hq
        unfold ledCs at hp
        obtain ⟨j, hj, rfl⟩ := List.mem_map.mp hp
        have hx := sm _ (List.mem_of_getElem? (xy_at (O.xi j (List.mem_range.mp hj)).1))
        have q1 := prod hA hx.1.1
        have q2 := prod hB' (⟨hx.1.2, hx.2⟩ : -6 ≤ (xy pts (o.idxOf j)).2 ∧ (xy pts (o.idxOf j)).2 ≤ 6)
        have q3 := prod hC' hx.1.1
        have q4 := prod hD (⟨hx.1.2, hx.2⟩ : -6 ≤ (xy pts (o.idxOf j)).2 ∧ (xy pts (o.idxOf j)).2 ≤ 6)
        unfold inb aff
        dsimp only
        omega
    · show (List.map _ _).length ≤ 6
      rw [List.length_map, ledCs_len]; exact n6
    · show (ledPs o pcs).length ≤ 4
      rw [hpl]; exact k4
    · intro h
      show (ledPs o pcs).length ≤ 3
      rw [hpl]; exact k3 h
    · obtain ⟨st, g, rfl⟩ := hs'
      exact ⟨st, _, g, rfl⟩
theorem plate_gen3 {most : Int} (h1 : 1 ≤ most) (h8 : most ≤ 8) : Gen1 (L.law_plate (.int most)) fun d => ∃ P, d = ePl P ∧ Drawn P ∧ (most ≤ 6 → P.ps.length ≤ 3) := fun st g => by
  obtain ⟨d, st', g', ⟨P, e, h, k, _⟩, r⟩ := plate_made h1 h8 st g
  exact ⟨d, st', g', ⟨P, e, h, k⟩, r⟩
theorem plate_gen {most : Int} (h1 : 1 ≤ most) (h8 : most ≤ 8) : Gen1 (L.law_plate (.int most)) fun d => ∃ P, d = ePl P ∧ Drawn P := fun st g => by
  obtain ⟨d, st', g', ⟨P, e, h, _⟩, r⟩ := plate_gen3 h1 h8 st g
  exact ⟨d, st', g', ⟨P, e, h⟩, r⟩
theorem plate {most : Int} (h1 : 1 ≤ most) (h8 : most ≤ 8) : Gen (V.sub [0] (L.law_plate (.int most))) fun d => ∃ P, d = ePl P ∧ Drawn P := (plate_gen h1 h8).sub
end V
set_option exponentiation.threshold 20000
namespace V
open PySem PySem.Spec ZL L2
def Fx (D n : Nat) (q : Rat) : Prop := ∃ k : Int, q * (D : Rat) = (k : Rat) ∧ k.natAbs < 2 ^ n
theorem pow_mono {x a b : Nat} (h : x < 2 ^ a) (hab : a ≤ b) : x < 2 ^ b := Nat.lt_of_lt_of_le h (Nat.pow_le_pow_right (by decide) hab)
theorem Fx.mono {D n m : Nat} {q : Rat} (h : Fx D n q) (hm : n ≤ m) : Fx D m q := let ⟨k, e, b⟩ := h; ⟨k, e, pow_mono b hm⟩
theorem castD (D : Nat) : (D : Rat) = ((D : Int) : Rat) := rfl
theorem Fx.eq {D n : Nat} {q : Rat} (hD : D ≠ 0) (h : Fx D n q) : ∃ k : Int, q = Rat.divInt k D ∧ k.natAbs < 2 ^ n := by
  obtain ⟨k, e, b⟩ := h
  refine ⟨k, ?_, b⟩
  have hd : (D : Rat) ≠ 0 := by
    intro z
    apply hD
    have : ((D : Int) : Rat) = ((0 : Int) : Rat) := z
    exact_mod_cast this
  rw [Rat.divInt_eq_div, ← castD, ← e, Rat.div_def, Rat.mul_assoc, Rat.mul_inv_cancel _ hd, Rat.mul_one]
theorem Fx.bt {D n b : Nat} {q : Rat} (hD : D ≠ 0) (hd : D < 2 ^ b) (hn : n ≤ b) (h : Fx D n q) : Bt b q := by
  obtain ⟨k, rfl, hk⟩ := h.eq hD
  exact .divInt (pow_mono hk hn) (by simpa using hd) (by omega)
theorem Fx.zero (D n : Nat) : Fx D n 0 := ⟨0, by rw [Rat.zero_mul]; rfl, by simpa using Nat.two_pow_pos n⟩
theorem Fx.add {D n m : Nat} {p q : Rat} (h : Fx D n p) (h2 : Fx D m q) : Fx D (max n m + 1) (p + q) := by
  obtain ⟨k, e, b⟩ := h
  obtain ⟨l, e2, b2⟩ := h2
  refine ⟨k + l, by rw [Rat.add_mul, e, e2, Rat.intCast_add], ?_⟩
  have h1 := pow_mono b (Nat.le_max_left n m)
  have h2 := pow_mono b2 (Nat.le_max_right n m)
  rw [Nat.pow_succ]
  omega
theorem Fx.addS {D n : Nat} {p q : Rat} (h : Fx D n p) (h2 : Fx D n q) : Fx D (n + 1) (p + q) := by
  have := h.add h2
  rwa [Nat.max_self] at this
theorem Fx.neg {D n : Nat} {p : Rat} (h : Fx D n p) : Fx D n (-p) := by
  obtain ⟨k, e, b⟩ := h
  exact ⟨-k, by rw [Rat.neg_mul, e, Rat.intCast_neg], by rw [Int.natAbs_neg]; exact b⟩
theorem Fx.sub {D n m : Nat} {p q : Rat} (h : Fx D n p) (h2 : Fx D m q) : Fx D (max n m + 1) (p - q) := by
  rw [Rat.sub_eq_add_neg]
  exact h.add h2.neg
theorem Fx.mul {D E n m : Nat} {p q : Rat} (h : Fx D n p) (h2 : Fx E m q) : Fx (D * E) (n + m) (p * q) := by
  obtain ⟨k, e, b⟩ := h
  obtain ⟨l, e2, b2⟩ := h2
  refine ⟨k * l, ?_, ?_⟩
  · rw [Rat.intCast_mul, ← e, ← e2, Rat.natCast_mul]
    grind
  · rw [Int.natAbs_mul]
    exact mul_lt_pow b b2
theorem Fx.up {D n e c : Nat} {q : Rat} (h : Fx D n q) (hc : c < 2 ^ e) : Fx (D * c) (n + e) q := by
  have := h.mul (E := c) (m := e) (q := 1) ⟨c, by rw [Rat.one_mul]; rfl, by simpa using hc⟩
  rwa [Rat.mul_one] at this
theorem Fx.int {z : Int} {n : Nat} (h : z.natAbs < 2 ^ n) : Fx 1 n (z : Rat) := ⟨z, by rw [show ((1 : Nat) : Rat) = 1 from rfl, Rat.mul_one], h⟩
theorem Fx.divInt {z b : Int} {n : Nat} (hb : b ≠ 0) (hz : z.natAbs < 2 ^ n) : Fx b.natAbs n (Rat.divInt z b) := by
  refine ⟨if 0 ≤ b then z else -z, ?_, by split <;> simpa using hz⟩
  have hbr : (b : Rat) ≠ 0 := fun h => hb (by exact_mod_cast h)
  rw [Rat.divInt_eq_div, castD]
  split
  · rw [show ((b.natAbs : Nat) : Int) = b by omega, Rat.div_mul_cancel hbr]
  · rw [show ((b.natAbs : Nat) : Int) = -b by omega, Rat.intCast_neg, Rat.intCast_neg, Rat.mul_neg, Rat.div_mul_cancel hbr]
abbrev Fr6 (q : Rat) : Prop := Fx 60 56 q
def IsF (d : PyData) : Prop := ∃ q, d = fr q ∧ Fr6 q
theorem fx60 {z : Int} {b : Int} (hb : 1 ≤ b ∧ b ≤ 6) (hz : z.natAbs < 2 ^ 50) : Fr6 (Rat.divInt z b) := by
  have : b = 1 ∨ b = 2 ∨ b = 3 ∨ b = 4 ∨ b = 5 ∨ b = 6 := by omega
  rw [Rat.divInt_eq_div]
  have k : ∀ c : Int, 1 ≤ c ∧ c ≤ 60 → (z * c).natAbs < 2 ^ 56 := fun c hc => by
    rw [Int.natAbs_mul]
    have := Nat.mul_le_mul (Nat.le_of_lt hz) (show c.natAbs ≤ 60 by omega)
    exact Nat.lt_of_le_of_lt this (by decide)
  rcases this with rfl | rfl | rfl | rfl | rfl | rfl
  · exact ⟨z * 60, by rw [Rat.intCast_mul]; grind, k 60 (by omega)⟩
  · exact ⟨z * 30, by rw [Rat.intCast_mul]; grind, k 30 (by omega)⟩
  · exact ⟨z * 20, by rw [Rat.intCast_mul]; grind, k 20 (by omega)⟩
  · exact ⟨z * 15, by rw [Rat.intCast_mul]; grind, k 15 (by omega)⟩
  · exact ⟨z * 12, by rw [Rat.intCast_mul]; grind, k 12 (by omega)⟩
  · exact ⟨z * 10, by rw [Rat.intCast_mul]; grind, k 10 (by omega)⟩
theorem fx60i {z : Int} (hz : z.natAbs < 2 ^ 50) : Fr6 (z : Rat) := by
  have := fx60 (z := z) (b := 1) (by omega) hz
  rwa [show Rat.divInt z 1 = (z : Rat) from by rw [Rat.divInt_eq_div]; grind] at this
theorem fractionF_gen : Gen1 L.law_fraction IsF := by
  unfold L.law_fraction
  refine Gen.frame0 ?_
  simp only [fin_bind, bind_assoc', pure_bind', fin_cond]
  refine Gen.bind (choice (by decide) (by decide)) ?_
  rintro _ ⟨t, rfl, t0, t1⟩
  simp only [sub_int, pure_bind']
  refine Gen.bind (choice (by decide) (by decide)) ?_
  rintro _ ⟨w, rfl, w0, w1⟩
  simp only [lt_int, pure_bind']
  refine Gen.cond (fun hw => ?_) fun hw => ?_
  · have hw := of_decide_eq_true hw
    simp only [tupK_2, pure_bind', lstK_3]
    obtain ⟨d, hd, e⟩ := ix_mem (xs := [.tuple [.int 0, .int 1], .tuple [.int 1, .int 1], .tuple [.int (t - 9), .int 1]]) w0 (by simpa using hw)
    simp only [e, pure_bind', fin_rt]
    refine Gen.pure ?_
    simp only [List.mem_cons, List.not_mem_nil, or_false] at hd
    rcases hd with rfl | rfl | rfl
    · exact ⟨_, fr_int 0, fx60i (by decide)⟩
    · exact ⟨_, fr_int 1, fx60i (by decide)⟩
    · exact ⟨_, fr_int _, fx60i (by omega)⟩
  · rw [pow_int (by decide)]
    simp only [pure_bind', add_int, lstK_2, ofB_bind, bind_assoc']
    refine Gen.bind (choice (by decide) (by decide)) ?_
    rintro _ ⟨u, rfl, u0, u1⟩
    simp only [eq_int, ofB_pure, pure_bind', int_bool, bind_pure']
    obtain ⟨d, hd, e⟩ := ix_mem (xs := [.int 1, .int (10 ^ Int.toNat 12 + 7)]) (v := if decide (u = 0) then 1 else 0) (by split <;> decide) (by split <;> decide)
    simp only [e, pure_bind']
    obtain ⟨z, rfl, z0, z1⟩ : ∃ z : Int, d = .int z ∧ 0 ≤ z ∧ z < 2 ^ 41 := by
      simp only [List.mem_cons, List.not_mem_nil, or_false] at hd
      rcases hd with rfl | rfl
      · exact ⟨_, rfl, by decide, by decide⟩
      · exact ⟨_, rfl, by decide, by decide⟩
    rw [mul_int (mulOk_of (a := 10) (b := 50) (by omega) (by omega) (by omega))]
    simp only [pure_bind']
    refine Gen.bind (choice (by decide) (by decide)) ?_
    rintro _ ⟨v, rfl, v0, v1⟩
    have hm : ((t - 9) * z).natAbs < 2 ^ 50 := by
      rw [Int.natAbs_mul]
      have h1 : (t - 9).natAbs ≤ 9 := by omega
      have h2 : z.natAbs < 2 ^ 41 := by omega
      have := Nat.mul_le_mul h1 (Nat.le_of_lt h2)
      omega
    have hp : (2 : Nat) ^ 50 ≤ 2 ^ 9000 := Nat.pow_le_pow_right (by decide) (by decide)
    simp only [add_int, pure_bind']
    rw [low_eq _ _ (by omega) (by omega) (by omega)]
    simp only [sub_pure, pure_bind', fin_rt]
    exact Gen.pure ⟨_, rfl, fx60 (by omega) hm⟩
theorem fractionF : Gen (V.sub [0] L.law_fraction) IsF := fractionF_gen.sub
def eR (ms : List Rat) : PyData := .tuple (ms.map fr)
theorem frs_of {P : Rat → Prop} : ∀ {ys : List PyData}, (∀ y ∈ ys, ∃ q, y = fr q ∧ P q) → ∃ ts : List Rat, ys = ts.map fr ∧ ∀ t ∈ ts, P t
  | [], _ => ⟨[], rfl, fun t h => by cases h⟩
  | y :: r, h => by
    obtain ⟨t, rfl, p⟩ := h y List.mem_cons_self
    obtain ⟨ts, rfl, q⟩ := frs_of fun z hz => h z (List.mem_cons_of_mem _ hz)
    refine ⟨t :: ts, rfl, fun u hu => ?_⟩
    rcases List.mem_cons.mp hu with rfl | hu
    · exact p
    · exact q u hu
theorem row_gen {n : Nat} (hn : n ≤ 1000) : Gen1 (L.law_row (.int (n : Int))) fun d => ∃ ms : List Rat, d = eR ms ∧ ms.length = n ∧ ∀ q ∈ ms, Fr6 q := by
  unfold L.law_row
  refine Gen.frame0 ?_
  rw [range_nat hn]
  simp only [fin_bind, bind_assoc', pure_bind']
  refine Gen.bind (Gen.comp (P := IsF) (by simp; omega) fun x hx => fractionF) ?_
  rintro ys ⟨hl, hy⟩
  obtain ⟨ms, rfl, hm⟩ := frs_of hy
  rw [show tupleM (.list (ms.map fr)) = pure (eR ms) from rfl, pure_bind', fin_rt]
  exact Gen.pure ⟨ms, rfl, by simpa using hl, hm⟩
theorem row {n : Nat} (hn : n ≤ 1000) : Gen (V.sub [0] (L.law_row (.int (n : Int)))) fun d => ∃ ms : List Rat, d = eR ms ∧ ms.length = n ∧ ∀ q ∈ ms, Fr6 q := (row_gen hn).sub
theorem getD_mem {ms : List Rat} {i : Nat} (h : i < ms.length) : ms.getD i 0 ∈ ms := by
  rw [List.getD_eq_getElem?_getD, List.getElem?_eq_getElem h]
  exact List.getElem_mem h
end V
set_option exponentiation.threshold 20000
namespace V
open PySem PySem.Spec ZL L2
def dbl (cs : List Pt) (p : Pc) : Int := turn (xy cs p.1) (xy cs p.2.1) (xy cs p.2.2)
def slo (cs : List Pt) (p : Pc) (j k : Nat) : Rat × Rat := (Rat.divInt ((xy cs j).2 - (xy cs k).2) (dbl cs p), Rat.divInt ((xy cs k).1 - (xy cs j).1) (dbl cs p))
theorem turn_small {a b c : Pt} (ha : inb a) (hb : inb b) (hc : inb c) : (turn a b c).natAbs ≤ 80000 := by
  obtain ⟨⟨_, _⟩, _, _⟩ := ha; obtain ⟨⟨_, _⟩, _, _⟩ := hb; obtain ⟨⟨_, _⟩, _, _⟩ := hc
  unfold turn
  have m : ∀ x y : Int, x.natAbs ≤ 200 → y.natAbs ≤ 200 → (x * y).natAbs ≤ 40000 := fun x y h1 h2 => by
    rw [Int.natAbs_mul]
    exact Nat.mul_le_mul h1 h2
  have := m (b.1 - a.1) (c.2 - a.2) (by omega) (by omega)
  have := m (c.1 - a.1) (b.2 - a.2) (by omega) (by omega)
  omega
section
variable {P : Pl} {i : Nat}
theorem pc_lt (h : PlOk P) (hi : i < P.ps.length) : (P.ps[i]).1 < P.cs.length ∧ (P.ps[i]).2.1 < P.cs.length ∧ (P.ps[i]).2.2 < P.cs.length := by
  have k := h.pc _ (List.getElem_mem hi)
  have h1 := k.ab; have h2 := k.bc; have h3 := k.c
  omega
theorem dbl_small (h : PlOk P) (hi : i < P.ps.length) : (dbl P.cs P.ps[i]).natAbs ≤ 80000 := by
  obtain ⟨h1, h2, h3⟩ := pc_lt h hi
  exact turn_small (inb_xy h.inb h1) (inb_xy h.inb h2) (inb_xy h.inb h3)
theorem dbl_ne (h : PlOk P) (hi : i < P.ps.length) : dbl P.cs P.ps[i] ≠ 0 := (h.pc _ (List.getElem_mem hi)).t
end
end V
set_option exponentiation.threshold 20000
namespace V
open PySem PySem.Spec ZL L2
def uu (ms : List Rat) (i : Nat) : Rat := ms.getD (2 * i) 0
def vv (ms : List Rat) (i : Nat) : Rat := ms.getD (2 * i + 1) 0
abbrev R3 := Rat × Rat × Rat
def eR3 (s : R3) : PyData := .tuple [fr s.1, fr s.2.1, fr s.2.2]
def part (ms : List Rat) (t : R3) (i : Nat) (s : Rat × Rat) : R3 := (t.1 + s.1 * uu ms i, t.2.1 + s.2 * vv ms i, t.2.2 + (s.2 * uu ms i + s.1 * vv ms i))
def strn (cs : List Pt) (p : Pc) (ms : List Rat) : R3 := part ms (part ms (part ms (0, 0, 0) p.1 (slo cs p p.2.1 p.2.2)) p.2.1 (slo cs p p.2.2 p.1)) p.2.2 (slo cs p p.1 p.2.1)
def stre (P : Pl) (s : R3) : R3 := ((P.l : Rat) * (s.1 + s.2.1) + ((2 * P.m : Int) : Rat) * s.1, (P.l : Rat) * (s.1 + s.2.1) + ((2 * P.m : Int) : Rat) * s.2.1, (P.m : Rat) * s.2.2)
structure Sz (E d n : Nat) : Prop where
  e0 : E ≠ 0
  d0 : d ≠ 0
  e : E < 2 ^ n
  d : d < 2 ^ 17
  n : n ≤ 4000
theorem Sz.bt {E d n k : Nat} (h : Sz E d n) {q : Rat} (hq : Fx (d * E) k q) (hk : k ≤ n + 17) : Bt (n + 17) q := hq.bt (Nat.mul_ne_zero h.d0 h.e0) (by rw [Nat.add_comm]; exact mul_lt_pow h.d h.e) hk
theorem Sz.b1 {E d n k : Nat} (h : Sz E d n) {q : Rat} (hq : Fx E k q) (hk : k ≤ n) : Bt n q := hq.bt h.e0 h.e hk
theorem slo_fx {cs : List Pt} {p : Pc} (hb : ∀ p ∈ cs, inb p) (h0 : dbl cs p ≠ 0) {j k : Nat} (hj : j < cs.length) (hk : k < cs.length) : Fx (dbl cs p).natAbs 8 (slo cs p j k).1 ∧ Fx (dbl cs p).natAbs 8 (slo cs p j k).2 := by
  obtain ⟨⟨_, _⟩, _, _⟩ := inb_xy hb hj; obtain ⟨⟨_, _⟩, _, _⟩ := inb_xy hb hk
  exact ⟨Fx.divInt h0 (by omega), Fx.divInt h0 (by omega)⟩
def Fx3 (D n : Nat) (t : R3) : Prop := Fx D n t.1 ∧ Fx D n t.2.1 ∧ Fx D n t.2.2
section
variable {P : Pl} {i : Nat} {ms : List Rat} {E n : Nat}
end
end V
set_option exponentiation.threshold 20000
namespace V
open PySem PySem.Spec ZL L2
section
variable {P : Pl} {i : Nat} {ms : List Rat} {E n : Nat}
end
end V
set_option exponentiation.threshold 20000
namespace V
open PySem PySem.Spec ZL L2
def Bt3 (b : Nat) (s : R3) : Prop := Bt b s.1 ∧ Bt b s.2.1 ∧ Bt b s.2.2
section
variable {P : Pl} {i : Nat} {ms : List Rat} {E n b : Nat} {s : R3}
structure Mo (P : Pl) (ms : List Rat) (E n : Nat) : Prop where
  ok : PlOk P
  l : ms.length = 2 * P.cs.length
  fx : ∀ q ∈ ms, Fx E n q
  e0 : E ≠ 0
  e : E < 2 ^ n
  n : n ≤ 400
theorem Mo.bt (h : Mo P ms E n) : ∀ q ∈ ms, Bt n q := fun q hq => (h.fx q hq).bt h.e0 h.e (by omega)
theorem tq_fr {q : Rat} (h : Bt b q) : Tq b 1 3849 (fr q) := (tq_tuple (l := 2) (xs := [.int q.num, .int (q.den : Int)]) (fun x hx => by
    simp only [List.mem_cons, List.not_mem_nil, or_false] at hx
    rcases hx with rfl | rfl
    · exact tq_int h.1
    · exact tq_int h.2) (by simp)).mono (Nat.le_refl _) (Nat.le_refl _) (by decide)
theorem tq_row (h : ∀ q ∈ ms, Bt b q) (hl : ms.length ≤ 60) : Tq b 2 231063 (eR ms) := (tq_tuple (l := 60) (xs := ms.map fr) (fun x hx => by
    obtain ⟨q, hq, rfl⟩ := List.mem_map.mp hx
    exact tq_fr (h q hq)) (by simpa using hl)).mono (Nat.le_refl _) (Nat.le_refl _) (by decide)
end
end V
set_option exponentiation.threshold 20000
namespace V
open PySem PySem.Spec ZL L2
theorem said_raise {XS : List Str} {post : PyData → M PyData} {W : Str → M PyData} {n : Str} {d : PyData} {s2 : Cells} (hx : XS.contains n = true) (hw : W n [] = .ok d s2) : saidM XS post W (raise n) = pure d := by
  funext s
  show (bif true && XS.contains n then (match W n [] with | .ok d' _ => Res.ok d' s | _ => .bad) else .bad) = _
  rw [hx, hw]
  rfl
section
variable {c p t s : PyData}
end
end V
set_option exponentiation.threshold 20000
namespace V
open PySem PySem.Spec ZL L2
def oddL : List PyData := [PyData.none, PyData.bool true, PyData.bool false, PyData.int 0, PyData.int 1, PyData.int (-1), PyData.int (10 ^ Int.toNat 29), PyData.str "", PyData.str "a", PyData.tuple [], PyData.list [], PyData.dict [], PyData.tuple [PyData.int 0, PyData.int 1], PyData.tuple [PyData.int 1, PyData.int 1], PyData.list [PyData.int 0, PyData.int 1]] ++ [PyData.tuple [PyData.tuple [PyData.int 0, PyData.int 1]], PyData.tuple [PyData.int 2, PyData.int 4], PyData.tuple [PyData.int 1, PyData.int 0], PyData.tuple [PyData.int 0, PyData.int 2], PyData.tuple [PyData.bool true, PyData.int 1]]
theorem odd_in : Gen1 L.law_odd fun d => d ∈ oddL := by
  unfold L.law_odd
  refine Gen.frame0 ?_
  simp only [fin_bind, bind_assoc', pure_bind', neg_int]
  rw [pow_int (by decide)]
  simp only [pure_bind', tupK_nil, lstK_0, tupK_1, tupK_2, lstK_2, lstK_15, lstK_5]
  rw [add_list (by simp), pure_bind']
  refine Gen.bind (choice (by decide) (by decide)) ?_
  rintro _ ⟨w, rfl, w0, w1⟩
  obtain ⟨d, hd, e⟩ := ix_mem (xs := oddL) w0 (by simpa [oddL] using w1)
  unfold oddL at e
  rw [e, pure_bind', fin_rt]
  exact Gen.pure hd
section
variable {P : Pl}
end
end V
set_option exponentiation.threshold 20000
namespace V
open PySem PySem.Spec ZL L2
theorem bqOf {b D Z : Nat} {d : PyData} (h1 : ib b d) (h2 : d.depth ≤ D) (h3 : sz d ≤ Z) (h4 : d.hasDict = false ∨ lfree d = true) : Bq b D Z d := ⟨h1, h2, h3, h4⟩
theorem odd_bq {d : PyData} (hd : d ∈ oddL) : Bq 101 3 5000 d := by
  simp only [oddL, List.cons_append, List.nil_append, List.mem_cons, List.not_mem_nil, or_false] at hd
  have z1 : (reprText "").length ≤ 5000 := by decide +kernel
  have z2 : (reprText "a").length ≤ 5000 := by decide +kernel
  rcases hd with rfl | rfl | rfl | rfl | rfl | rfl | rfl | rfl | rfl | rfl | rfl | rfl | rfl | rfl | rfl | rfl | rfl | rfl | rfl | rfl
  all_goals refine bqOf ?_ ?_ ?_ ?_
  all_goals first
    | (simp [ib, ibA]; done)
    | (simp [PyData.depth, PyData.depthAll, PyData.depthKv]; done)
    | (simp [sz, szA, szK]; done)
    | (simp only [sz]; assumption)
    | exact .inl rfl
    | exact .inr rfl
section
variable {P : Pl}
end
end V
set_option exponentiation.threshold 20000
namespace Dt
def sumN : Nat → (Nat → Rat) → Rat
  | 0, _ => 0
  | n + 1, f => sumN n f + f n
theorem sumN_congr {n : Nat} {f g : Nat → Rat} (h : ∀ i, i < n → f i = g i) : sumN n f = sumN n g := by
  induction n with
  | zero => rfl
  | succ n ih => rw [sumN, sumN, ih fun i hi => h i (by omega), h n (by omega)]
theorem sumN_add (n : Nat) (f g : Nat → Rat) : sumN n (fun i => f i + g i) = sumN n f + sumN n g := by
  induction n with
  | zero => simp [sumN]; grind
  | succ n ih => rw [sumN, sumN, sumN, ih]; grind
theorem sumN_mul (n : Nat) (c : Rat) (f : Nat → Rat) : sumN n (fun i => c * f i) = c * sumN n f := by
  induction n with
  | zero => simp [sumN]
  | succ n ih => rw [sumN, sumN, ih]; grind
theorem sumN_zero (n : Nat) : sumN n (fun _ => 0) = 0 := by
  induction n with
  | zero => rfl
  | succ n ih => rw [sumN, ih]; grind
abbrev Mx := Nat → Nat → Rat
def sg (j : Nat) : Rat := if j % 2 = 0 then 1 else -1
def sk (j k : Nat) : Nat := if k < j then k else k + 1
def mn (M : Mx) (j : Nat) : Mx := fun i k => M (i + 1) (sk j k)
def det : Nat → Mx → Rat
  | 0, _ => 1
  | n + 1, M => sumN (n + 1) fun j => sg j * M 0 j * det n (mn M j)
def rw' (M : Mx) (p : Nat) (r : Nat → Rat) : Mx := fun i k => if i = p then r k else M i k
theorem mn_rw_succ (M : Mx) (p : Nat) (r : Nat → Rat) (j : Nat) : mn (rw' M (p + 1) r) j = rw' (mn M j) p (fun k => r (sk j k)) := by
  funext i k
  unfold mn rw'
  simp
theorem mn_rw_zero (M : Mx) (r : Nat → Rat) (j : Nat) : mn (rw' M 0 r) j = mn M j := by
  funext i k
  unfold mn rw'
  simp
theorem det_row {n : Nat} : ∀ (M : Mx) {p : Nat} (_ : p < n) (r s : Nat → Rat) (c : Rat), det n (rw' M p (fun k => r k + c * s k)) = det n (rw' M p r) + c * det n (rw' M p s) := by
  induction n with
  | zero => intro M p h; omega
  | succ n ih =>
    intro M p hp r s c
    unfold det
    rw [← sumN_mul, ← sumN_add]
    refine sumN_congr fun j hj => ?_
    cases p with
    | zero => simp only [mn_rw_zero, rw', if_true]; grind
    | succ p =>
      simp only [mn_rw_succ]
      rw [ih (mn M j) (by omega) (fun k => r (sk j k)) (fun k => s (sk j k)) c]
      have e : ∀ t : Nat → Rat, rw' M (p + 1) t 0 j = M 0 j := fun t => by simp [rw']
      rw [e, e, e]
      grind
theorem pairs_zero (F : Nat → Nat → Rat) : ∀ n : Nat, (∀ j k, j ≤ k → k < n → F j k + F (k + 1) j = 0) → sumN (n + 1) (fun j => sumN n fun k => F j k) = 0
  | 0, _ => by simp [sumN]; try grind
  | n + 1, h => by
    have e1 : sumN (n + 2) (fun j => sumN (n + 1) fun k => F j k) = sumN (n + 1) (fun j => sumN n fun k => F j k) + sumN (n + 1) (fun j => F j n + F (n + 1) j) := by
      rw [sumN_add]
      show sumN (n + 1) (fun j => sumN n (fun k => F j k) + F j n) + sumN (n + 1) (fun k => F (n + 1) k) = _
      rw [sumN_add]
      grind
    have e2 : sumN (n + 1) (fun j => F j n + F (n + 1) j) = 0 := by
      rw [sumN_congr (g := fun _ => 0) fun j hj => h j n (by omega) (by omega), sumN_zero]
    rw [e1, e2, pairs_zero F n fun j k a b => h j k a (by omega)]
    grind
theorem sg_succ (k : Nat) : sg (k + 1) = - sg k := by
  unfold sg
  by_cases h : k % 2 = 0
  · rw [if_pos h, if_neg (by omega)]
  · rw [if_neg h, if_pos (by omega)]; grind
theorem det_01 {n : Nat} {M : Mx} (h : ∀ k, k < n + 2 → M 0 k = M 1 k) : det (n + 2) M = 0 := by
  have e : det (n + 2) M = sumN (n + 2) fun j => sumN (n + 1) fun k => sg j * M 0 j * (sg k * M 1 (sk j k) * det n (mn (mn M j) k)) := by
    show sumN (n + 2) (fun j => sg j * M 0 j * sumN (n + 1) fun k => sg k * M 1 (sk j k) * det n (mn (mn M j) k)) = _
    exact sumN_congr fun j _ => (sumN_mul _ _ _).symm
  rw [e]
  refine pairs_zero _ (n + 1) fun j k hjk hk => ?_
  have d : mn (mn M j) k = mn (mn M (k + 1)) j := by
    funext i l
    unfold mn sk
    congr 1
    repeat' split
    all_goals omega
  have s1 : sk j k = k + 1 := by unfold sk; rw [if_neg (by omega)]
  have s2 : sk (k + 1) j = j := by unfold sk; rw [if_pos (by omega)]
  rw [s1, s2, d, sg_succ, h j (by omega), h (k + 1) (by omega)]
  grind
theorem det_adj : ∀ {n p : Nat} {M : Mx}, p + 1 < n → (∀ k, k < n → M p k = M (p + 1) k) → det n M = 0
  | 0, _, _, h, _ => by omega
  | 1, _, _, h, _ => by omega
  | n + 2, 0, M, _, e => det_01 e
  | n + 2, p + 1, M, h, e => by
    show sumN (n + 2) (fun j => sg j * M 0 j * det (n + 1) (mn M j)) = 0
    rw [sumN_congr (g := fun _ => 0) fun j hj => ?_, sumN_zero]
    rw [det_adj (n := n + 1) (p := p) (M := mn M j) (by omega) fun k hk => e (sk j k) (by unfold sk; split <;> omega)]
    grind
theorem rw_self (M : Mx) (p : Nat) : rw' M p (M p) = M := by
  funext i k
  unfold rw'
  split
  · rename_i h; rw [h]
  · rfl
theorem rw_comm (M : Mx) {p q : Nat} (h : p ≠ q) (r s : Nat → Rat) : rw' (rw' M p r) q s = rw' (rw' M q s) p r := by
  funext i k
  unfold rw'
  by_cases h1 : i = q
  · subst h1; simp [Ne.symm h]
  · simp [h1]
theorem det_swap {n p : Nat} (M : Mx) (hp : p + 1 < n) (r s : Nat → Rat) : det n (rw' (rw' M p r) (p + 1) s) = - det n (rw' (rw' M p s) (p + 1) r) := by
  have two : ∀ a : Nat → Rat, det n (rw' (rw' M p a) (p + 1) a) = 0 := fun a => det_adj hp fun k _ => by simp [rw']
  have e := two fun k => r k + 1 * s k
  rw [det_row _ (by omega), rw_comm _ (by omega), rw_comm _ (p := p) (q := p + 1) (by omega), det_row _ (by omega), det_row _ (by omega)] at e
  rw [← rw_comm M (p := p) (q := p + 1) (by omega), ← rw_comm M (p := p) (q := p + 1) (by omega), ← rw_comm M (p := p) (q := p + 1) (by omega), ← rw_comm M (p := p) (q := p + 1) (by omega), two, two] at e
  grind
theorem det_eq : ∀ (d : Nat) {n p : Nat} {M : Mx}, p + 1 + d < n → (∀ k, k < n → M p k = M (p + 1 + d) k) → det n M = 0
  | 0, n, p, M, h, e => det_adj h e
  | d + 1, n, p, M, h, e => by
    have hs := det_swap (p := p + 1 + d) M (by omega) (M (p + 1 + d)) (M (p + 1 + d + 1))
    rw [rw_self, rw_self] at hs
    rw [hs, det_eq d (p := p) (by omega) fun k hk => ?_]
    · grind
    · have := e k hk
      simp only [rw']
      rw [if_neg (by omega), if_neg (by omega), if_neg (by omega)]
      simp only [if_true]
      exact this
theorem det_two {n p q : Nat} {M : Mx} (hp : p < n) (hq : q < n) (hpq : p ≠ q) (e : ∀ k, k < n → M p k = M q k) : det n M = 0 := by
  rcases Nat.lt_or_gt_of_ne hpq with h | h
  · obtain ⟨d, rfl⟩ : ∃ d, q = p + 1 + d := ⟨q - p - 1, by omega⟩
    exact det_eq d (by omega) e
  · obtain ⟨d, rfl⟩ : ∃ d, p = q + 1 + d := ⟨p - q - 1, by omega⟩
    exact det_eq d (by omega) fun k hk => (e k hk).symm
theorem det_more {n p q : Nat} (M : Mx) (c : Rat) (hp : p < n) (hq : q < n) (hpq : p ≠ q) : det n (rw' M p fun k => M p k + c * M q k) = det n M := by
  rw [det_row M hp, rw_self, det_two (M := rw' M p (M q)) hp hq hpq fun k _ => by simp [rw', Ne.symm hpq]]
  grind
theorem det_nought {n p : Nat} (M : Mx) (hp : p < n) : det n (rw' M p fun _ => 0) = 0 := by
  have e := det_row M hp (fun _ => 0) (fun _ => 0) 1
  have e2 : (fun k : Nat => (fun _ : Nat => (0 : Rat)) k + 1 * (fun _ : Nat => (0 : Rat)) k) = fun _ => 0 := by funext k; grind
  rw [e2] at e
  grind
theorem det_times {n p : Nat} (M : Mx) (c : Rat) (hp : p < n) : det n (rw' M p fun k => c * M p k) = c * det n M := by
  have e := det_row M hp (fun _ => 0) (M p) c
  have e2 : (fun k : Nat => (fun _ : Nat => (0 : Rat)) k + c * M p k) = fun k => c * M p k := by funext k; grind
  rw [e2, det_nought M hp, rw_self] at e
  grind
theorem det_col0 : ∀ {n : Nat} {M : Mx}, (∀ i, i < n + 1 → M i 0 = 0) → det (n + 1) M = 0
  | n, M, h => by
    show sumN (n + 1) (fun j => sg j * M 0 j * det n (mn M j)) = 0
    rw [sumN_congr (g := fun _ => 0) fun j hj => ?_, sumN_zero]
    cases j with
    | zero => rw [h 0 (by omega)]; grind
    | succ j =>
      cases n with
      | zero => omega
      | succ n =>
        rw [det_col0 (n := n) (M := mn M (j + 1)) fun i hi => ?_]
        · grind
        · show M (i + 1) (sk (j + 1) 0) = 0
          rw [show sk (j + 1) 0 = 0 by simp [sk]]
          exact h (i + 1) (by omega)
theorem det_tri : ∀ {n : Nat} {M : Mx}, (∀ i k, k < i → i < n + 1 → M i k = 0) → (∀ i, i < n → M i i = 1) → det (n + 1) M = M n n
  | n, M, h, d => by
    have first : ∀ m : Nat, sumN (m + 1) (fun j => if j = 0 then M 0 0 * det n (mn M 0) else 0) = M 0 0 * det n (mn M 0) := by
      intro m
      induction m with
      | zero => simp [sumN]; try grind
      | succ m ih => rw [sumN, ih, if_neg (by omega)]; grind
    have e : det (n + 1) M = M 0 0 * det n (mn M 0) := by
      show sumN (n + 1) (fun j => sg j * M 0 j * det n (mn M j)) = _
      rw [← first n]
      refine sumN_congr fun j hj => ?_
      cases j with
      | zero => simp [sg]; try grind
      | succ j =>
        cases n with
        | zero => omega
        | succ n =>
          rw [if_neg (by omega), det_col0 (n := n) (M := mn M (j + 1)) fun i hi => ?_]
          · grind
          · show M (i + 1) (sk (j + 1) 0) = 0
            rw [show sk (j + 1) 0 = 0 by simp [sk]]
            exact h (i + 1) 0 (by omega) (by omega)
    rw [e]
    cases n with
    | zero => show M 0 0 * 1 = M 0 0; grind
    | succ n =>
      have sk0 : ∀ k, sk 0 k = k + 1 := fun k => by simp [sk]
      rw [det_tri (n := n) (M := mn M 0) (fun i k hk hi => by unfold mn; rw [sk0]; exact h _ _ (by omega) (by omega)) (fun i hi => by unfold mn; rw [sk0]; exact d _ (by omega)), d 0 (by omega)]
      unfold mn
      rw [sk0]
      grind
def Wh (B : Nat) (q : Rat) : Prop := ∃ z : Int, q = (z : Rat) ∧ z.natAbs ≤ B
theorem Wh.add {a b : Nat} {x y : Rat} (h : Wh a x) (k : Wh b y) : Wh (a + b) (x + y) := by
  obtain ⟨z, rfl, hz⟩ := h
  obtain ⟨w, rfl, hw⟩ := k
  exact ⟨z + w, by rw [Rat.intCast_add], by omega⟩
theorem Wh.mul {a b : Nat} {x y : Rat} (h : Wh a x) (k : Wh b y) : Wh (a * b) (x * y) := by
  obtain ⟨z, rfl, hz⟩ := h
  obtain ⟨w, rfl, hw⟩ := k
  exact ⟨z * w, by rw [Rat.intCast_mul], by rw [Int.natAbs_mul]; exact Nat.mul_le_mul hz hw⟩
theorem Wh.zero : Wh 0 0 := ⟨0, rfl, by decide⟩
def prodN : Nat → (Nat → Nat) → Nat
  | 0, _ => 1
  | n + 1, f => f 0 * prodN n fun i => f (i + 1)
def fact : Nat → Nat
  | 0 => 1
  | n + 1 => (n + 1) * fact n
end Dt
set_option exponentiation.threshold 20000
namespace Dt
theorem rw_rw (M : Mx) (p : Nat) (r s : Nat → Rat) : rw' (rw' M p r) p s = rw' M p s := by
  funext i k
  unfold rw'
  split <;> rfl
theorem det_comb {n p : Nat} (M : Mx) (co : Nat → Rat) (hp : p < n) : ∀ r : Nat, r ≤ p → det n (rw' M p fun k => M p k + sumN r fun t => co t * M t k) = det n M
  | 0, _ => by
    have e : (fun k => M p k + sumN 0 fun t => co t * M t k) = M p := by funext k; show M p k + 0 = M p k; grind
    rw [e, rw_self]
  | r + 1, h => by
    have ih := det_comb M co hp r (by omega)
    have m := det_more (p := p) (q := r) (rw' M p fun k => M p k + sumN r fun t => co t * M t k) (co r) hp (by omega) (by omega)
    rw [rw_rw, ih] at m
    rw [← m]
    congr 1
    congr 1
    funext k
    have e1 : rw' M p (fun k => M p k + sumN r fun t => co t * M t k) p k = M p k + sumN r fun t => co t * M t k := by simp [rw']
    have e2 : rw' M p (fun k => M p k + sumN r fun t => co t * M t k) r k = M r k := by unfold rw'; rw [if_neg (by omega)]
    rw [e1, e2]
    show M p k + (sumN r (fun t => co t * M t k) + co r * M r k) = _
    grind
theorem det_each {n p : Nat} (M : Mx) (co : Nat → Rat) (hp : p < n) : ∀ r : Nat, r ≤ p → det n (fun i k => if i < r then M i k + co i * M p k else M i k) = det n M
  | 0, _ => by
    congr 1
  | r + 1, h => by
    have ih := det_each M co hp r (by omega)
    have m := det_more (p := r) (q := p) (fun i k => if i < r then M i k + co i * M p k else M i k) (co r) (by omega) hp (by omega)
    rw [ih] at m
    rw [← m]
    congr 1
    funext i k
    unfold rw'
    by_cases e : i = r
    · subst e; simp [show ¬ p < i by omega]
    · by_cases e2 : i < r
      · rw [if_pos (by omega), if_neg e]; dsimp only; rw [if_pos e2]
      · rw [if_neg (by omega), if_neg e]; dsimp only; rw [if_neg e2]
theorem sumN_neg (n : Nat) (f : Nat → Rat) : sumN n (fun t => - f t) = - sumN n f := by
  have := sumN_mul n (-1) f
  rw [show (fun i => -1 * f i) = fun i => - f i by funext i; grind] at this
  grind
theorem sumN_sub (n : Nat) (f g : Nat → Rat) : sumN n (fun i => f i - g i) = sumN n f - sumN n g := by
  have := sumN_add n f (fun i => - g i)
  rw [sumN_neg] at this
  rw [show (fun i => f i - g i) = fun i => f i + - g i by funext i; grind, this]
  grind
theorem sumN_mulr (n : Nat) (c : Rat) (f : Nat → Rat) : sumN n (fun i => f i * c) = sumN n f * c := by
  have := sumN_mul n c f
  rw [show (fun i => f i * c) = fun i => c * f i by funext i; grind, this]
  grind
def top (r : Nat) (T Z : Mx) (f : Nat → Nat) : Mx := fun i k => if i < r then T i (f k) else Z i (f k)
structure Red (m : Nat) (A T : Mx) (r : Nat) (c : Nat → Nat) (D : Rat) : Prop where
  le : r ≤ m
  ne : D ≠ 0
  dt : ∀ (n : Nat) (Z : Mx) (f : Nat → Nat), r ≤ n → det n (top r T Z f) * D = det n (top r A Z f)
  lo : ∀ i k, i < m → A i k = (sumN r fun t => A i (c t) * T t k) + if i < r then 0 else T i k
  pv : ∀ s t, s < r → t < r → T s (c t) = if s = t then 1 else 0
  nt : ∀ i t, r ≤ i → i < m → t < r → T i (c t) = 0
theorem Red.zero (m : Nat) (A : Mx) (c : Nat → Nat) : Red m A A 0 c 1 where
  le := Nat.zero_le _
  ne := by decide
  dt := fun n Z f _ => by
    have e : top 0 A Z f = top 0 A Z f := rfl
    grind
  lo := fun i k _ => by show A i k = 0 + _; rw [if_neg (by omega)]; grind
  pv := fun s t h => by omega
  nt := fun i t _ _ h => by omega
theorem Red.det {m r : Nat} {A T : Mx} {c : Nat → Nat} {D : Rat} (h : Red m A T r c D) : D = Dt.det r (top r A A c) := by
  cases r with
  | zero =>
    have e := h.dt 0 A c (Nat.le_refl _)
    have e1 : ∀ M : Mx, Dt.det 0 M = 1 := fun _ => rfl
    rw [e1, e1] at e
    rw [e1]
    grind
  | succ r =>
    have e := h.dt (r + 1) A c (Nat.le_refl _)
    rw [det_tri (n := r) (M := top (r + 1) T A c) (fun i k hk hi => ?_) (fun i hi => ?_)] at e
    · have e2 : top (r + 1) T A c r r = 1 := by unfold top; rw [if_pos (by omega), h.pv r r (by omega) (by omega), if_pos rfl]
      rw [e2] at e
      grind
    · unfold top; rw [if_pos (by omega), h.pv i k (by omega) (by omega), if_neg (by omega)]
    · unfold top; rw [if_pos (by omega), h.pv i i (by omega) (by omega), if_pos rfl]
def at' (c : Nat → Nat) (r j : Nat) : Nat → Nat := fun k => if k < r then c k else j
theorem Red.entry {m r : Nat} {A T : Mx} {c : Nat → Nat} {D : Rat} (h : Red m A T r c D) {i j : Nat} (hi : r ≤ i) (hm : i < m) : T i j * D = Dt.det (r + 1) (top r A (fun _ => A i) (at' c r j)) := by
  rw [← h.dt (r + 1) (fun _ => A i) (at' c r j) (by omega)]
  congr 1
  have e := det_comb (n := r + 1) (p := r) (top r T (fun _ => A i) (at' c r j)) (fun t => - A i (c t)) (by omega) r (Nat.le_refl _)
  rw [← e]
  have e2 : (fun k => top r T (fun _ => A i) (at' c r j) r k + sumN r fun t => - A i (c t) * top r T (fun _ => A i) (at' c r j) t k) = fun k => T i (at' c r j k) := by
    funext k
    have a1 : top r T (fun _ => A i) (at' c r j) r k = A i (at' c r j k) := by unfold top; rw [if_neg (by omega)]
    have a2 : sumN r (fun t => - A i (c t) * top r T (fun _ => A i) (at' c r j) t k) = sumN r fun t => - (A i (c t) * T t (at' c r j k)) := sumN_congr fun t ht => by
      unfold top; rw [if_pos ht]; grind
    have lo := h.lo i (at' c r j k) hm
    rw [if_neg (by omega)] at lo
    rw [a1, a2, sumN_neg]
    grind
  rw [e2, det_tri (n := r) (fun a k hk ha => ?_) (fun a ha => ?_)]
  · unfold rw' at'; simp
  · unfold rw'
    by_cases q : a = r
    · rw [if_pos q]; show T i (at' c r j k) = 0; unfold at'; rw [if_pos (by omega)]; exact h.nt i k hi hm (by omega)
    · rw [if_neg q]; unfold top at'; rw [if_pos (by omega), if_pos (by omega), h.pv a k (by omega) (by omega), if_neg (by omega)]
  · unfold rw'
    rw [if_neg (by omega)]; unfold top at'; rw [if_pos (by omega), if_pos (by omega), h.pv a a (by omega) (by omega), if_pos rfl]
theorem Red.inj {m r : Nat} {A T : Mx} {c : Nat → Nat} {D : Rat} (h : Red m A T r c D) {s t : Nat} (hs : s < r) (ht : t < r) (e : c s = c t) : s = t := by
  have h1 := h.pv s t hs ht
  rw [← e, h.pv s s hs hs, if_pos rfl] at h1
  by_cases q : s = t
  · exact q
  · rw [if_neg q] at h1; grind
theorem Red.entryP {m r : Nat} {A T : Mx} {c : Nat → Nat} {D : Rat} (h : Red m A T r c D) {s j : Nat} (hs : s < r) (hj : j ≠ c s) : - T s j * D = Dt.det (r + 1) (top r A (fun _ x => if x = c s then 1 else 0) (at' c r j)) := by
  rw [← h.dt (r + 1) (fun _ x => if x = c s then 1 else 0) (at' c r j) (by omega)]
  congr 1
  have m := det_more (n := r + 1) (p := r) (q := s) (top r T (fun _ x => if x = c s then 1 else 0) (at' c r j)) (-1) (by omega) (by omega) (by omega)
  rw [← m]
  have lt : ∀ k, k < r → at' c r j k = c k := fun k hk => by unfold at'; rw [if_pos hk]
  have er : at' c r j r = j := by unfold at'; rw [if_neg (by omega)]
  have row : ∀ k, k < r → top r T (fun _ x => if x = c s then 1 else 0) (at' c r j) r k + -1 * top r T (fun _ x => if x = c s then 1 else 0) (at' c r j) s k = 0 := fun k hk => by
    unfold top
    rw [if_neg (by omega), if_pos hs, lt k hk, h.pv s k hs hk]
    dsimp only
    by_cases e : s = k
    · subst e; rw [if_pos rfl, if_pos rfl]; grind
    · rw [if_neg (fun q => e (h.inj hk hs q).symm), if_neg e]; grind
  have last : top r T (fun _ x => if x = c s then 1 else 0) (at' c r j) r r + -1 * top r T (fun _ x => if x = c s then 1 else 0) (at' c r j) s r = - T s j := by
    unfold top
    rw [if_neg (by omega), if_pos hs, er]
    dsimp only
    rw [if_neg hj]; grind
  rw [det_tri (n := r) (fun a k hk ha => ?_) (fun a ha => ?_)]
  · unfold rw'
    rw [if_pos rfl]
    exact last.symm
  · unfold rw'
    by_cases q : a = r
    · subst q; rw [if_pos rfl]; exact row k hk
    · rw [if_neg q]; unfold top; rw [if_pos (by omega), lt k (by omega), h.pv a k (by omega) (by omega), if_neg (by omega)]
  · unfold rw'
    rw [if_neg (by omega)]; unfold top; rw [if_pos (by omega), lt a ha, h.pv a a (by omega) (by omega), if_pos rfl]
def swp (r k : Nat) (M : Mx) : Mx := fun i => if i = r then M k else if i = k then M r else M i
theorem swp_lt {r k i : Nat} {M : Mx} (hi : i < r) (hk : r ≤ k) : swp r k M i = M i := by unfold swp; rw [if_neg (by omega), if_neg (by omega)]
def swi (r k i : Nat) : Nat := if i = r then k else if i = k then r else i
theorem swp_swi (r k : Nat) (M : Mx) (i : Nat) : swp r k M i = M (swi r k i) := by unfold swp swi; split <;> (try split) <;> rfl
theorem swi_ge {r k i m : Nat} (hk : r ≤ k) (hm : k < m) (hi : r ≤ i) (him : i < m) : r ≤ swi r k i ∧ swi r k i < m := by unfold swi; split <;> (try split) <;> omega
theorem Red.swap {m r : Nat} {A T : Mx} {c : Nat → Nat} {D : Rat} (h : Red m A T r c D) {k : Nat} (hk : r ≤ k) (hm : k < m) : Red m (swp r k A) (swp r k T) r c D where
  le := h.le
  ne := h.ne
  dt := fun n Z f hn => by
    have e : ∀ X : Mx, top r (swp r k X) Z f = top r X Z f := fun X => by
      funext i x
      unfold top
      split
      · rename_i q; rw [swp_lt q hk]
      · rfl
    rw [e, e]
    exact h.dt n Z f hn
  lo := fun i x hi => by
    rw [sumN_congr (g := fun t => swp r k A i (c t) * T t x) fun t ht => by rw [swp_lt (M := T) ht hk], swp_swi r k A, swp_swi r k T]
    by_cases q : i < r
    · rw [show swi r k i = i by unfold swi; rw [if_neg (by omega), if_neg (by omega)]]
      exact h.lo i x hi
    · have g := swi_ge hk hm (by omega) hi
      have := h.lo (swi r k i) x g.2
      rw [if_neg (by omega)] at this
      rw [if_neg q]
      exact this
  pv := fun s t hs ht => by rw [swp_lt hs hk]; exact h.pv s t hs ht
  nt := fun i t hi him ht => by
    have g := swi_ge hk hm hi him
    rw [swp_swi]
    exact h.nt _ t g.1 g.2 ht
def stp (r j : Nat) (S : Mx) : Mx := fun i x => if i = r then S r x / S r j else S i x - S i j * (S r x / S r j)
def cup (c : Nat → Nat) (r j : Nat) : Nat → Nat := fun t => if t = r then j else c t
theorem cup_lt {c : Nat → Nat} {r j t : Nat} (h : t < r) : cup c r j t = c t := by unfold cup; rw [if_neg (by omega)]
theorem cup_at {c : Nat → Nat} {r j : Nat} : cup c r j r = j := by unfold cup; rw [if_pos rfl]
theorem stp_at (r j : Nat) (S : Mx) (x : Nat) : stp r j S r x = S r x / S r j := by unfold stp; rw [if_pos rfl]
theorem stp_ne {r j i : Nat} (S : Mx) (x : Nat) (h : i ≠ r) : stp r j S i x = S i x - S i j * stp r j S r x := by rw [stp_at]; unfold stp; rw [if_neg h]
theorem Red.step {m r : Nat} {A S : Mx} {c : Nat → Nat} {D : Rat} (h : Red m A S r c D) {j : Nat} (hr : r < m) (hx : S r j ≠ 0) : Red m A (stp r j S) (r + 1) (cup c r j) (D * S r j) where
  le := hr
  ne := fun e => (Rat.mul_eq_zero.mp e).elim h.ne hx
  dt := fun n Z f hn => by
    have e1 := det_each (n := n) (p := r) (fun i k => if i < r then S i (f k) else if i = r then stp r j S r (f k) else Z i (f k)) (fun i => - S i j) (by omega) r (Nat.le_refl _)
    have e2 : (fun i k => if i < r then (fun i k => if i < r then S i (f k) else if i = r then stp r j S r (f k) else Z i (f k)) i k + (fun i => - S i j) i * (fun i k => if i < r then S i (f k) else if i = r then stp r j S r (f k) else Z i (f k)) r k else (fun i k => if i < r then S i (f k) else if i = r then stp r j S r (f k) else Z i (f k)) i k) = top (r + 1) (stp r j S) Z f := by
      funext i k
      unfold top
      by_cases q : i < r
      · simp only [if_pos q, if_neg (Nat.lt_irrefl r), if_true, if_pos (show i < r + 1 by omega)]
        rw [stp_ne (i := i) S (f k) (by omega)]; grind
      · simp only [if_neg q]
        by_cases q2 : i = r
        · subst q2; simp
        · rw [if_neg q2, if_neg (by omega)]
    rw [e2] at e1
    rw [e1]
    have e3 := det_times (n := n) (p := r) (fun i k => if i < r then S i (f k) else if i = r then stp r j S r (f k) else Z i (f k)) (S r j) (by omega)
    have e4 : rw' (fun i k => if i < r then S i (f k) else if i = r then stp r j S r (f k) else Z i (f k)) r (fun k => S r j * (fun i k => if i < r then S i (f k) else if i = r then stp r j S r (f k) else Z i (f k)) r k) = fun i k => if i < r then S i (f k) else if i = r then S r (f k) else Z i (f k) := by
      funext i k
      unfold rw'
      by_cases q : i = r
      · subst q
        simp only [if_true, if_neg (Nat.lt_irrefl i)]
        rw [stp_at, Rat.div_def]
        have := Rat.mul_inv_cancel _ hx
        grind
      · simp only [if_neg q]
    rw [e4] at e3
    have e5 := det_comb (n := n) (p := r) (fun i k => if i < r then S i (f k) else if i = r then S r (f k) else Z i (f k)) (fun t => A r (c t)) (by omega) r (Nat.le_refl _)
    have e6 : rw' (fun i k => if i < r then S i (f k) else if i = r then S r (f k) else Z i (f k)) r (fun k => (fun i k => if i < r then S i (f k) else if i = r then S r (f k) else Z i (f k)) r k + sumN r fun t => (fun t => A r (c t)) t * (fun i k => if i < r then S i (f k) else if i = r then S r (f k) else Z i (f k)) t k) = top r S (fun i x => if i = r then A r x else Z i x) f := by
      funext i k
      unfold rw' top
      by_cases q : i = r
      · subst q
        simp only [if_true, if_neg (Nat.lt_irrefl i)]
        rw [sumN_congr (g := fun t => A i (c t) * S t (f k)) fun t ht => by rw [if_pos ht]]
        have := h.lo i (f k) hr
        rw [if_neg (Nat.lt_irrefl i)] at this
        grind
      · simp only [if_neg q]
    rw [e6] at e5
    have e7 := h.dt n (fun i x => if i = r then A r x else Z i x) f (by omega)
    have e8 : top r A (fun i x => if i = r then A r x else Z i x) f = top (r + 1) A Z f := by
      funext i k
      unfold top
      by_cases q : i < r
      · rw [if_pos q, if_pos (by omega)]
      · rw [if_neg q]
        by_cases q2 : i = r
        · subst q2; simp
        · simp only [if_neg q2]; rw [if_neg (by omega)]
    rw [e8] at e7
    rw [← e7, e5, e3]
    grind
  lo := fun i x hi => by
    rw [sumN, cup_at]
    rw [sumN_congr (g := fun t => A i (c t) * S t x - A i (c t) * S t j * stp r j S r x) fun t ht => by rw [cup_lt ht, stp_ne S x (by omega)]; grind]
    rw [sumN_sub, sumN_mulr]
    have h1 := h.lo i x hi
    have h2 := h.lo i j hi
    have hx' : S r x = S r j * stp r j S r x := by
      rw [stp_at, Rat.div_def]
      have := Rat.mul_inv_cancel _ hx
      grind
    by_cases q : i < r
    · rw [if_pos q] at h1 h2
      rw [if_pos (by omega)]
      grind
    · rw [if_neg q] at h1 h2
      by_cases q2 : i = r
      · subst q2
        rw [if_pos (by omega)]
        grind
      · rw [if_neg (by omega), stp_ne S x q2]
        grind
  pv := fun s t hs ht => by
    have one : stp r j S r j = 1 := by rw [stp_at, Rat.div_def, Rat.mul_inv_cancel _ hx]
    by_cases q : t = r
    · subst q
      rw [cup_at]
      by_cases q2 : s = t
      · subst q2; rw [if_pos rfl, one]
      · rw [if_neg q2, stp_ne S _ q2, one]; grind
    · rw [cup_lt (by omega)]
      have z : stp r j S r (c t) = 0 := by rw [stp_at, h.nt r t (Nat.le_refl _) hr (by omega), Rat.div_def]; grind
      by_cases q2 : s = r
      · subst q2; rw [z, if_neg (fun e => q e.symm)]
      · rw [stp_ne S _ q2, z, h.pv s t (by omega) (by omega)]; grind
  nt := fun i t hi him ht => by
    have one : stp r j S r j = 1 := by rw [stp_at, Rat.div_def, Rat.mul_inv_cancel _ hx]
    by_cases q : t = r
    · subst q
      rw [cup_at, stp_ne S _ (by omega), one]; grind
    · rw [cup_lt (by omega)]
      have z : stp r j S r (c t) = 0 := by rw [stp_at, h.nt r t (Nat.le_refl _) hr (by omega), Rat.div_def]; grind
      rw [stp_ne S _ (by omega), z, h.nt i t (by omega) him (by omega)]; grind
end Dt
set_option exponentiation.threshold 20000
namespace Dt
def Wx (d b : Nat) (q : Rat) : Prop := ∃ z : Int, q * (d : Rat) = (z : Rat) ∧ z.natAbs ≤ b
theorem Wx.add {d a b : Nat} {x y : Rat} (h : Wx d a x) (k : Wx d b y) : Wx d (a + b) (x + y) := by
  obtain ⟨z, e, hz⟩ := h
  obtain ⟨w, f, hw⟩ := k
  exact ⟨z + w, by rw [Rat.intCast_add, ← e, ← f]; grind, by omega⟩
theorem Wx.mul {d e a b : Nat} {x y : Rat} (h : Wx d a x) (k : Wx e b y) : Wx (d * e) (a * b) (x * y) := by
  obtain ⟨z, p, hz⟩ := h
  obtain ⟨w, q, hw⟩ := k
  exact ⟨z * w, by rw [Rat.intCast_mul, ← p, ← q, Rat.natCast_mul]; grind, by rw [Int.natAbs_mul]; exact Nat.mul_le_mul hz hw⟩
theorem Wx.zero (d : Nat) : Wx d 0 0 := ⟨0, by rw [Rat.zero_mul]; rfl, by decide⟩
theorem Wx.mono {d a b : Nat} {x : Rat} (h : Wx d a x) (hb : a ≤ b) : Wx d b x := let ⟨z, e, hz⟩ := h; ⟨z, e, Nat.le_trans hz hb⟩
theorem Wx.whole {z : Int} {b : Nat} (h : z.natAbs ≤ b) : Wx 1 b (z : Rat) := ⟨z, by rw [show ((1 : Nat) : Rat) = 1 from rfl, Rat.mul_one], h⟩
theorem wx_sg (j : Nat) : Wx 1 1 (sg j) := by
  unfold sg
  split
  · exact Wx.whole (z := 1) (by decide)
  · exact Wx.whole (z := -1) (by decide)
theorem wx_sum {d b : Nat} {f : Nat → Rat} : ∀ {n : Nat}, (∀ i, i < n → Wx d b (f i)) → Wx d (n * b) (sumN n f)
  | 0, _ => by rw [Nat.zero_mul]; exact .zero d
  | n + 1, h => by
    rw [Nat.succ_mul]
    exact (wx_sum fun i hi => h i (by omega)).add (h n (by omega))
theorem wx_det : ∀ {n : Nat} {M : Mx} {d b : Nat → Nat}, (∀ i k, i < n → k < n → Wx (d i) (b i) (M i k)) → Wx (prodN n d) (fact n * prodN n b) (det n M)
  | 0, _, _, _, _ => show Wx 1 (1 * 1) ((1 : Int) : Rat) from Wx.whole (by decide)
  | n + 1, M, d, b, h => by
    have e : fact (n + 1) * prodN (n + 1) b = (n + 1) * (1 * b 0 * (fact n * prodN n fun i => b (i + 1))) := by
      show (n + 1) * fact n * (b 0 * prodN n fun i => b (i + 1)) = _
      generalize (prodN n fun i => b (i + 1)) = P
      generalize fact n = F
      rw [Nat.one_mul, Nat.mul_assoc, Nat.mul_left_comm F (b 0) P]
    have e2 : prodN (n + 1) d = 1 * d 0 * prodN n fun i => d (i + 1) := by rw [Nat.one_mul]; rfl
    rw [e, e2]
    refine wx_sum fun j hj => ((wx_sg j).mul (h 0 j (by omega) hj)).mul (wx_det fun i k hi hk => h (i + 1) (sk j k) (by omega) (by unfold sk; split <;> omega))
theorem prodN_congr : ∀ {n : Nat} {f g : Nat → Nat}, (∀ i, i < n → f i = g i) → prodN n f = prodN n g
  | 0, _, _, _ => rfl
  | n + 1, f, g, h => by
    unfold prodN
    rw [h 0 (by omega), prodN_congr fun i hi => h (i + 1) (by omega)]
theorem prodN_last : ∀ (n : Nat) (f : Nat → Nat), prodN (n + 1) f = prodN n f * f n
  | 0, f => by show f 0 * 1 = 1 * f 0; omega
  | n + 1, f => by
    show f 0 * prodN (n + 1) (fun i => f (i + 1)) = f 0 * prodN n (fun i => f (i + 1)) * f (n + 1)
    rw [prodN_last n fun i => f (i + 1), Nat.mul_assoc]
theorem prodN_pos {n : Nat} {f : Nat → Nat} (h : ∀ i, i < n → 1 ≤ f i) : 1 ≤ prodN n f := by
  induction n with
  | zero => exact Nat.le_refl 1
  | succ n ih =>
    rw [prodN_last]
    exact Nat.mul_pos (ih fun i hi => h i (by omega)) (h n (by omega))
theorem prodN_le {r m : Nat} {f : Nat → Nat} (hr : r ≤ m) (h : ∀ i, i < m → 1 ≤ f i) : prodN r f ≤ prodN m f := by
  induction m with
  | zero => have : r = 0 := by omega
            subst this; exact Nat.le_refl _
  | succ m ih =>
    by_cases e : r = m + 1
    · rw [e]; exact Nat.le_refl _
    · rw [prodN_last]
      have := ih (by omega) fun i hi => h i (by omega)
      exact Nat.le_trans this (Nat.le_mul_of_pos_right _ (h m (by omega)))
theorem prodN_more {r i m : Nat} {f : Nat → Nat} (hr : r ≤ i) (hi : i < m) (h : ∀ i, i < m → 1 ≤ f i) : prodN r f * f i ≤ prodN m f := by
  have h1 : prodN r f ≤ prodN i f := prodN_le hr fun k hk => h k (by omega)
  have h2 : prodN (i + 1) f ≤ prodN m f := prodN_le hi h
  rw [prodN_last] at h2
  exact Nat.le_trans (Nat.mul_le_mul_right _ h1) h2
theorem prodN_out {n i : Nat} (f : Nat → Nat) (hi : i < n) : prodN n f = f i * prodN n (fun t => if t = i then 1 else f t) := by
  induction n with
  | zero => omega
  | succ n ih =>
    rw [prodN_last, prodN_last]
    by_cases e : i = n
    · subst e
      rw [if_pos rfl, Nat.mul_one, prodN_congr (g := fun t => if t = i then 1 else f t) fun t ht => by rw [if_neg (by omega)], Nat.mul_comm]
    · rw [if_neg (by omega), ih (by omega), Nat.mul_assoc]
theorem prodN_swap {m r k : Nat} (f : Nat → Nat) (hr : r < m) (hk : k < m) : prodN m (fun i => f (swi r k i)) = prodN m f := by
  by_cases e : r = k
  · subst e
    refine prodN_congr fun i _ => ?_
    unfold swi
    by_cases q : i = r
    · subst q; simp
    · simp [q]
  · rw [prodN_out (i := r) _ hr, prodN_out (i := k) _ hk, prodN_out (i := r) f hr, prodN_out (i := k) (fun t => if t = r then 1 else f t) hk]
    have a1 : f (swi r k r) = f k := by unfold swi; rw [if_pos rfl]
    have a2 : (if k = r then 1 else f (swi r k k)) = f r := by rw [if_neg (fun q => e q.symm)]; unfold swi; rw [if_neg (fun q => e q.symm), if_pos rfl]
    have a3 : (if k = r then 1 else f k) = f k := by rw [if_neg (fun q => e q.symm)]
    rw [a1, a2, a3, Nat.mul_left_comm]
    congr 2
    refine prodN_congr fun i _ => ?_
    by_cases q1 : i = k
    · simp [q1]
    · by_cases q2 : i = r
      · simp [q2]
      · simp only [if_neg q1, if_neg q2]
        unfold swi
        rw [if_neg q2, if_neg q1]
theorem fact_le {a b : Nat} (h : a ≤ b) : fact a ≤ fact b := by
  induction b with
  | zero => have : a = 0 := by omega
            subst this; exact Nat.le_refl _
  | succ b ih =>
    by_cases e : a = b + 1
    · rw [e]; exact Nat.le_refl _
    · exact Nat.le_trans (ih (by omega)) (Nat.le_mul_of_pos_left _ (by omega))
theorem natCast_ne {n : Nat} (h : 1 ≤ n) : (n : Rat) ≠ 0 := by
  intro z
  have : ((n : Int) : Rat) = ((0 : Int) : Rat) := z
  have : (n : Int) = 0 := by exact_mod_cast this
  omega
theorem Wx.bt {e N n : Nat} {q : Rat} (h : Wx e N q) (h1 : 1 ≤ e) (h2 : e ≤ N) (hN : N < 2 ^ n) : V.Bt n q := by
  obtain ⟨z, p, hz⟩ := h
  have e0 := natCast_ne h1
  have : q = Rat.divInt z (e : Int) := by
    rw [Rat.divInt_eq_div, ← p, show (((e : Nat) : Int) : Rat) = (e : Rat) from rfl, Rat.div_def, Rat.mul_assoc, Rat.mul_inv_cancel _ e0, Rat.mul_one]
  rw [this]
  exact .divInt (by omega) (by simp; omega) (by omega)
theorem wx_abs {q : Rat} {z w : Int} {N : Nat} (h : q * (z : Rat) = (w : Rat)) (hw : w.natAbs ≤ N) : Wx z.natAbs N q := by
  by_cases p : 0 ≤ z
  · refine ⟨w, ?_, hw⟩
    have : ((z.natAbs : Nat) : Rat) = (z : Rat) := by
      have : ((z.natAbs : Nat) : Int) = z := by omega
      rw [show ((z.natAbs : Nat) : Rat) = (((z.natAbs : Nat) : Int) : Rat) from rfl, this]
    rw [this, h]
  · refine ⟨-w, ?_, by rw [Int.natAbs_neg]; exact hw⟩
    have : ((z.natAbs : Nat) : Rat) = -(z : Rat) := by
      have : ((z.natAbs : Nat) : Int) = -z := by omega
      rw [show ((z.natAbs : Nat) : Rat) = (((z.natAbs : Nat) : Int) : Rat) from rfl, this, Rat.intCast_neg]
    rw [this, Rat.mul_neg, h, Rat.intCast_neg]
theorem Red.wx {m r W : Nat} {A T : Mx} {c d b : Nat → Nat} {D : Rat} (h : Red m A T r c D) (hc : ∀ t, t < r → c t < W) (hA : ∀ i x, i < m → x < W → Wx (d i) (b i) (A i x)) (hd : ∀ i, i < m → 1 ≤ d i ∧ d i ≤ b i) :
    (∃ e, 1 ≤ e ∧ e ≤ fact (m + 1) * prodN m b ∧ ∀ s j, s < r → j < W → Wx e (fact (m + 1) * prodN m b) (T s j)) ∧ ∀ i, r ≤ i → i < m → ∃ e, 1 ≤ e ∧ e ≤ fact (m + 1) * prodN m b ∧ ∀ j, j < W → Wx e (fact (m + 1) * prodN m b) (T i j) := by
  have le := h.le
  have b1 : ∀ i, i < m → 1 ≤ b i := fun i hi => Nat.le_trans (hd i hi).1 (hd i hi).2
  have dP : 1 ≤ prodN r d := prodN_pos fun i hi => (hd i (by omega)).1
  have wD : Wx (prodN r d) (fact r * prodN r b) D := by
    rw [h.det]
    refine wx_det fun i k hi hk => ?_
    unfold top
    rw [if_pos hi]
    exact hA i _ (by omega) (hc k hk)
  obtain ⟨z2, e2, l2⟩ := wD
  have z2n : z2 ≠ 0 := by
    intro z
    rw [z] at e2
    rcases Rat.mul_eq_zero.mp (show D * (prodN r d : Rat) = 0 from e2) with q | q
    · exact h.ne q
    · exact natCast_ne dP q
  have f1 := fact_le (show r ≤ m + 1 by omega)
  have pb : prodN r b ≤ prodN m b := prodN_le le b1
  have f2 := fact_le (show r + 1 ≤ m + 1 by omega)
  refine ⟨⟨z2.natAbs, by omega, Nat.le_trans l2 (Nat.mul_le_mul f1 pb), fun i j hr hj => ?_⟩, fun i hr hi => ⟨z2.natAbs * d i, Nat.mul_pos (by omega) (hd i hi).1, ?_, fun j hj => ?_⟩⟩
  · by_cases q : j = c i
    · subst q
      rw [h.pv i i hr hr, if_pos rfl]
      exact wx_abs (w := z2) (by rw [Rat.one_mul]) (Nat.le_trans l2 (Nat.mul_le_mul f1 pb))
    · have e := h.entryP hr q
      have w := wx_det (n := r + 1) (M := top r A (fun _ x => if x = c i then 1 else 0) (at' c r j)) (d := fun t => if t < r then d t else 1) (b := fun t => if t < r then b t else 1) (fun a k ha hk => by
        unfold top
        have hx : at' c r j k < W := by unfold at'; split; exact hc k (by assumption); exact hj
        by_cases q : a < r
        · simp only [if_pos q]; exact hA a _ (by omega) hx
        · simp only [if_neg q]
          split
          · exact Wx.whole (z := 1) (by decide)
          · exact Wx.whole (z := 0) (by decide))
      rw [← e, prodN_last, prodN_last, if_neg (Nat.lt_irrefl r), if_neg (Nat.lt_irrefl r), prodN_congr (g := d) (fun t ht => by rw [if_pos ht]), prodN_congr (f := fun t => if t < r then b t else 1) (g := b) (fun t ht => by rw [if_pos ht]), Nat.mul_one, Nat.mul_one] at w
      obtain ⟨z1, e1, l1⟩ := w
      refine wx_abs (w := -z1) ?_ (by rw [Int.natAbs_neg]; exact Nat.le_trans l1 (Nat.mul_le_mul f2 pb))
      rw [Rat.intCast_neg, ← e1, ← e2]
      grind
  · have more := prodN_more hr hi b1
    refine Nat.le_trans (Nat.mul_le_mul l2 (hd i hi).2) ?_
    rw [Nat.mul_assoc]
    exact Nat.mul_le_mul f1 more
  · have e := h.entry (j := j) hr hi
    have w := wx_det (n := r + 1) (M := top r A (fun _ => A i) (at' c r j)) (d := fun t => if t < r then d t else d i) (b := fun t => if t < r then b t else b i) (fun a k ha hk => by
      unfold top
      have hx : at' c r j k < W := by unfold at'; split; exact hc k (by assumption); exact hj
      by_cases q : a < r
      · simp only [if_pos q]; exact hA a _ (by omega) hx
      · simp only [if_neg q]; exact hA i _ hi hx)
    rw [← e, prodN_last, prodN_last, if_neg (Nat.lt_irrefl r), if_neg (Nat.lt_irrefl r), prodN_congr (g := d) (fun t ht => by rw [if_pos ht]), prodN_congr (f := fun t => if t < r then b t else b i) (g := b) (fun t ht => by rw [if_pos ht])] at w
    obtain ⟨z1, e1, l1⟩ := w
    have more := prodN_more hr hi b1
    have k : T i j * ((z2 * (d i : Int) : Int) : Rat) = (z1 : Rat) := by
      rw [← e1, Rat.intCast_mul, ← e2, Rat.natCast_mul, show (((d i : Nat) : Int) : Rat) = (d i : Rat) from rfl]
      grind
    have := wx_abs k (Nat.le_trans l1 (Nat.mul_le_mul f2 more))
    rwa [Int.natAbs_mul, show ((d i : Nat) : Int).natAbs = d i from rfl] at this
structure Way (m W : Nat) (A0 : Mx) (N : Nat) (T : Mx) (r : Nat) (c : Nat → Nat) (col : Nat) : Prop where
  ex : ∃ (A : Mx) (D : Rat) (d b : Nat → Nat), Red m A T r c D ∧ (∀ i x, i < m → x < W → Wx (d i) (b i) (A i x)) ∧ (∀ i, i < m → 1 ≤ d i ∧ d i ≤ b i) ∧ fact (m + 1) * prodN m b ≤ N ∧ (∀ i, i < m → ∃ k, k < m ∧ A k = A0 i)
  cl : ∀ t, t < r → c t < col
  up : ∀ s t, s < t → t < r → c s < c t
  z : ∀ i x, r ≤ i → i < m → x < col → T i x = 0
theorem swi_swi (r k q : Nat) : swi r k (swi r k q) = q := by
  unfold swi
  by_cases h1 : q = r
  · subst h1
    by_cases h2 : k = q
    · subst h2; simp
    · simp [h2]
  · by_cases h2 : q = k
    · subst h2; simp [h1]
    · simp [h1, h2]
theorem Way.start {m W N : Nat} {A0 : Mx} {d b : Nat → Nat} (hA : ∀ i x, i < m → x < W → Wx (d i) (b i) (A0 i x)) (hd : ∀ i, i < m → 1 ≤ d i ∧ d i ≤ b i) (hN : fact (m + 1) * prodN m b ≤ N) (c : Nat → Nat) : Way m W A0 N A0 0 c 0 :=
  ⟨⟨A0, 1, d, b, .zero m A0 c, hA, hd, hN, fun i hi => ⟨i, hi, rfl⟩⟩, fun t h => by omega, fun s t _ h => by omega, fun i x _ _ h => by omega⟩
section
variable {m W N : Nat} {A0 T : Mx} {r : Nat} {c : Nat → Nat} {col : Nat}
theorem Way.le (h : Way m W A0 N T r c col) : r ≤ m := by obtain ⟨A, D, d, b, R, _⟩ := h.ex; exact R.le
theorem Way.wx (h : Way m W A0 N T r c col) (hw : col ≤ W) : (∃ e, 1 ≤ e ∧ e ≤ N ∧ ∀ s j, s < r → j < W → Wx e N (T s j)) ∧ ∀ i, r ≤ i → i < m → ∃ e, 1 ≤ e ∧ e ≤ N ∧ ∀ j, j < W → Wx e N (T i j) := by
  obtain ⟨A, D, d, b, R, hA, hd, hN, _⟩ := h.ex
  obtain ⟨⟨e, h1, h2, h3⟩, h4⟩ := R.wx (fun t ht => Nat.lt_of_lt_of_le (h.cl t ht) hw) hA hd
  refine ⟨⟨e, h1, Nat.le_trans h2 hN, fun s j hs hj => (h3 s j hs hj).mono hN⟩, fun i hr hi => ?_⟩
  obtain ⟨e, h1, h2, h3⟩ := h4 i hr hi
  exact ⟨e, h1, Nat.le_trans h2 hN, fun j hj => (h3 j hj).mono hN⟩
theorem Way.bt (h : Way m W A0 N T r c col) (hw : col ≤ W) {n i j : Nat} (hn : N < 2 ^ n) (hi : i < m) (hj : j < W) : V.Bt n (T i j) := by
  obtain ⟨⟨e, h1, h2, h3⟩, h4⟩ := h.wx hw
  by_cases q : i < r
  · exact (h3 i j q hj).bt h1 h2 hn
  · obtain ⟨e, h1, h2, h3⟩ := h4 i (by omega) hi
    exact (h3 j hj).bt h1 h2 hn
theorem Way.none (h : Way m W A0 N T r c col) (hz : ∀ k, r ≤ k → k < m → T k col = 0) : Way m W A0 N T r c (col + 1) :=
  ⟨h.ex, fun t ht => Nat.lt_succ_of_lt (h.cl t ht), h.up, fun i x hr hi hx => by
    by_cases e : x = col
    · subst e; exact hz i hr hi
    · exact h.z i x hr hi (by omega)⟩
theorem Way.swap (h : Way m W A0 N T r c col) {k : Nat} (hk : r ≤ k) (hm : k < m) : Way m W A0 N (swp r k T) r c col := by
  obtain ⟨A, D, d, b, R, hA, hd, hN, hp⟩ := h.ex
  have hrm : r < m := by omega
  have lt : ∀ i, i < m → swi r k i < m := fun i hi => by unfold swi; split <;> (try split) <;> omega
  refine ⟨⟨swp r k A, D, fun i => d (swi r k i), fun i => b (swi r k i), R.swap hk hm, fun i x hi hx => by rw [swp_swi]; exact hA _ x (lt i hi) hx, fun i hi => hd _ (lt i hi), by rw [prodN_swap b hrm hm]; exact hN, fun i hi => ?_⟩, h.cl, h.up, fun i x hr hi hx => ?_⟩
  · obtain ⟨q, hq, e⟩ := hp i hi
    refine ⟨swi r k q, lt q hq, ?_⟩
    rw [swp_swi, ← e, swi_swi]
  · rw [swp_swi]
    have g := swi_ge hk hm hr hi
    exact h.z _ x g.1 g.2 hx
theorem Way.piv (h : Way m W A0 N T r c col) (hr : r < m) (hx : T r col ≠ 0) : Way m W A0 N (stp r col T) (r + 1) (cup c r col) (col + 1) := by
  obtain ⟨A, D, d, b, R, hA, hd, hN, hp⟩ := h.ex
  refine ⟨⟨A, _, d, b, R.step hr hx, hA, hd, hN, hp⟩, fun t ht => ?_, fun s t hs ht => ?_, fun i x hri hi hx' => ?_⟩
  · by_cases q : t = r
    · subst q; rw [cup_at]; omega
    · rw [cup_lt (by omega)]; have := h.cl t (by omega); omega
  · by_cases q : t = r
    · subst q; rw [cup_at, cup_lt hs]; exact h.cl s hs
    · rw [cup_lt (by omega), cup_lt (by omega)]; exact h.up s t hs (by omega)
  · rw [stp_ne T x (by omega)]
    by_cases q : x = col
    · subst q
      rw [stp_at, Rat.div_def, Rat.mul_inv_cancel _ hx]; grind
    · rw [stp_at, h.z r x (Nat.le_refl _) hr (by omega), h.z i x (by omega) hi (by omega), Rat.div_def]; grind
end
def LC (m w : Nat) (A0 T : Mx) : Prop := ∀ i x, i < m → x < w → T i x = sumN m fun k => T i (w + k) * A0 k x
theorem LC.swap {m w : Nat} {A0 T : Mx} (h : LC m w A0 T) {r k : Nat} (hr : r < m) (hk : k < m) : LC m w A0 (swp r k T) := fun i x hi hx => by
  rw [swp_swi]
  exact h _ x (by unfold swi; split <;> (try split) <;> omega) hx
theorem LC.stp {m w : Nat} {A0 T : Mx} (h : LC m w A0 T) {r j : Nat} (hr : r < m) : LC m w A0 (stp r j T) := fun i x hi hx => by
  have own : Dt.stp r j T r x = sumN m fun k => Dt.stp r j T r (w + k) * A0 k x := by
    rw [stp_at, h r x hr hx, Rat.div_def, ← sumN_mulr]
    exact sumN_congr fun k _ => by rw [stp_at, Rat.div_def]; grind
  by_cases q : i = r
  · subst q; exact own
  · rw [stp_ne T x q, own, h i x hi hx, ← sumN_mul, ← sumN_sub]
    exact sumN_congr fun k _ => by rw [stp_ne T (w + k) q]; grind
structure Stt where
  T : Mx
  sp : List Nat
  fs : List Nat
def cf (sp : List Nat) : Nat → Nat := fun t => sp.getD t 0
theorem cf_snoc (sp : List Nat) (j : Nat) : cf (sp ++ [j]) = cup (cf sp) sp.length j := by
  funext t
  unfold cf cup
  by_cases e : t = sp.length
  · subst e; simp
  · rw [if_neg e]
    by_cases q : t < sp.length
    · simp [List.getD_eq_getElem?_getD, List.getElem?_append_left q]
    · simp [List.getD_eq_getElem?_getD, List.getElem?_append_right (Nat.le_of_not_lt q), show ¬ t - sp.length = 0 by omega]
      rw [List.getElem?_eq_none (by omega)]
      rfl
def cand (m : Nat) (T : Mx) (r j : Nat) : List Nat := ((List.range (m - r)).map fun k => r + k).filter fun k => !decide (T k j = 0)
def turnE (m : Nat) (s : Stt) (j : Nat) : Stt := match cand m s.T s.sp.length j with
  | [] => ⟨s.T, s.sp, s.fs ++ [j]⟩
  | k :: _ => ⟨stp s.sp.length j (swp s.sp.length k s.T), s.sp ++ [j], s.fs⟩
def runE (m w : Nat) (A : Mx) : Stt := (List.range w).foldl (turnE m) ⟨A, [], []⟩
theorem cand_nil {m r j : Nat} {T : Mx} (h : cand m T r j = []) : ∀ k, r ≤ k → k < m → T k j = 0 := by
  intro k hk hm
  have := List.filter_eq_nil_iff.mp h k (List.mem_map.mpr ⟨k - r, List.mem_range.mpr (by omega), by omega⟩)
  simpa using this
theorem cand_cons {m r j k : Nat} {l : List Nat} {T : Mx} (h : cand m T r j = k :: l) : r ≤ k ∧ k < m ∧ T k j ≠ 0 := by
  have hm : k ∈ cand m T r j := by rw [h]; exact List.mem_cons_self
  obtain ⟨h1, h2⟩ := List.mem_filter.mp hm
  obtain ⟨a, ha, e⟩ := List.mem_map.mp h1
  have := List.mem_range.mp ha
  refine ⟨by omega, by omega, ?_⟩
  simpa using h2
structure Ok (m W w : Nat) (A0 : Mx) (N : Nat) (s : Stt) (col : Nat) : Prop where
  way : Way m W A0 N s.T s.sp.length (cf s.sp) col
  lc : LC m w A0 s.T
  fr : s.fs = (List.range col).filter fun x => !s.sp.contains x
  sl : ∀ x ∈ s.sp, x < col
theorem Ok.turn {m W w N : Nat} {A0 : Mx} {s : Stt} {col : Nat} (h : Ok m W w A0 N s col) : Ok m W w A0 N (turnE m s col) (col + 1) := by
  have ni : ¬ col ∈ s.sp := fun hm => by have := h.sl col hm; omega
  unfold turnE
  split
  · rename_i e
    refine ⟨h.way.none (cand_nil e), h.lc, ?_, fun x hx => Nat.lt_succ_of_lt (h.sl x hx)⟩
    show s.fs ++ [col] = _
    rw [List.range_succ, List.filter_append, ← h.fr]
    simp [ni]
  · rename_i k l e
    obtain ⟨h1, h2, h3⟩ := cand_cons e
    have hr : s.sp.length < m := by omega
    have w1 := h.way.swap h1 h2
    refine ⟨?_, (h.lc.swap hr h2).stp hr, ?_, fun x hx => ?_⟩
    · show Way m W A0 N _ (s.sp ++ [col]).length (cf (s.sp ++ [col])) (col + 1)
      rw [cf_snoc, List.length_append]
      exact w1.piv hr (by unfold swp; rw [if_pos rfl]; exact h3)
    · show s.fs = _
      rw [List.range_succ, List.filter_append, h.fr]
      have : List.filter (fun x => !(s.sp ++ [col]).contains x) [col] = [] := by simp
      rw [this, List.append_nil]
      refine List.filter_congr fun x hx => ?_
      have := List.mem_range.mp hx
      simp [show ¬ x = col by omega]
    · rcases List.mem_append.mp hx with q | q
      · exact Nat.lt_succ_of_lt (h.sl x q)
      · rw [List.mem_singleton.mp q]; omega
theorem Ok.run {m W w N : Nat} {A0 : Mx} {d b : Nat → Nat} (hA : ∀ i x, i < m → x < W → Wx (d i) (b i) (A0 i x)) (hd : ∀ i, i < m → 1 ≤ d i ∧ d i ≤ b i) (hN : fact (m + 1) * prodN m b ≤ N) (hl : LC m w A0 A0) : ∀ n, Ok m W w A0 N (runE m n A0) n
  | 0 => ⟨Way.start hA hd hN _, hl, rfl, fun x hx => by cases hx⟩
  | n + 1 => by
    have := (Ok.run hA hd hN hl n).turn
    unfold runE
    rw [List.range_succ, List.foldl_append]
    exact this
end Dt
set_option exponentiation.threshold 20000
namespace V
open PySem PySem.Spec ZL L2
def thk (P : Pl) (i : Nat) : Int := P.th.getD i 0
def pcs (P : Pl) (i : Nat) : Pc := P.ps.getD i (0, 0, 0)
def wei (P : Pl) (i : Nat) : Rat := Rat.divInt (thk P i * (dbl P.cs (pcs P i)).natAbs) 2
def alo (s : R3) (l : Rat × Rat) : Rat := s.1 * l.1 + s.2.2 * l.2
def acr (s : R3) (l : Rat × Rat) : Rat := s.2.2 * l.1 + s.2.1 * l.2
def puW (acc : List Rat) (w : Nat) (t : Rat) : List Rat := acc.set w (acc.getD w 0 + t)
def puC (acc : List Rat) (w : Rat) (j : Nat) (s : R3) (l : Rat × Rat) : List Rat := puW (puW acc (2 * j) (w * alo s l)) (2 * j + 1) (w * acr s l)
def puP (P : Pl) (acc : List Rat) (i : Nat) (s : R3) : List Rat :=
  puC (puC (puC acc (wei P i) (pcs P i).1 s (slo P.cs (pcs P i) (pcs P i).2.1 (pcs P i).2.2)) (wei P i) (pcs P i).2.1 s (slo P.cs (pcs P i) (pcs P i).2.2 (pcs P i).1)) (wei P i) (pcs P i).2.2 s (slo P.cs (pcs P i) (pcs P i).1 (pcs P i).2.1)
def puA (P : Pl) : List Rat → Nat → List R3 → List Rat
  | acc, _, [] => acc
  | acc, i, s :: r => puA P (puP P acc i s) (i + 1) r
def psh (P : Pl) (ss : List R3) : List Rat := puA P (List.replicate (2 * P.cs.length) 0) 0 ss
theorem puW_len (acc : List Rat) (w : Nat) (t : Rat) : (puW acc w t).length = acc.length := List.length_set
theorem puC_len (acc : List Rat) (w : Rat) (j : Nat) (s : R3) (l : Rat × Rat) : (puC acc w j s l).length = acc.length := by unfold puC; rw [puW_len, puW_len]
theorem puP_len (P : Pl) (acc : List Rat) (i : Nat) (s : R3) : (puP P acc i s).length = acc.length := by unfold puP; rw [puC_len, puC_len, puC_len]
theorem puA_len (P : Pl) : ∀ (ss : List R3) (acc : List Rat) (i : Nat), (puA P acc i ss).length = acc.length
  | [], _, _ => rfl
  | s :: r, acc, i => by
    show (puA P (puP P acc i s) (i + 1) r).length = _
    rw [puA_len P r, puP_len]
theorem psh_len (P : Pl) (ss : List R3) : (psh P ss).length = 2 * P.cs.length := by unfold psh; rw [puA_len, List.length_replicate]
abbrev AllFx (Q k : Nat) (acc : List Rat) : Prop := ∀ q ∈ acc, Fx Q k q
theorem AllFx.at {Q k : Nat} {acc : List Rat} (h : AllFx Q k acc) {w : Nat} (hw : w < acc.length) : Fx Q k (acc.getD w 0) := h _ (getD_mem hw)
theorem puW_fx {Q k : Nat} {acc : List Rat} {w : Nat} {t : Rat} (h : AllFx Q k acc) (hw : w < acc.length) (ht : Fx Q k t) : AllFx Q (k + 1) (puW acc w t) := fun q hq => by
  rcases List.mem_or_eq_of_mem_set hq with hq | rfl
  · exact (h q hq).mono (by omega)
  · exact (h.at hw).addS ht
def ddp (cs : List Pt) : List Pc → Nat
  | [] => 1
  | p :: r => (dbl cs p).natAbs * ddp cs r
theorem ddp_ne {cs : List Pt} : ∀ {ps : List Pc}, (∀ p ∈ ps, dbl cs p ≠ 0) → ddp cs ps ≠ 0
  | [], _ => by show 1 ≠ 0; decide
  | p :: r, h => Nat.mul_ne_zero (by have := h p List.mem_cons_self; omega) (ddp_ne fun q hq => h q (List.mem_cons_of_mem _ hq))
theorem ddp_lt {cs : List Pt} : ∀ {ps : List Pc}, (∀ p ∈ ps, (dbl cs p).natAbs < 2 ^ 17) → ddp cs ps ≤ 2 ^ (17 * ps.length)
  | [], _ => by simp [ddp]
  | p :: r, h => by
    have := Nat.mul_le_mul (Nat.le_of_lt (h p List.mem_cons_self)) (ddp_lt fun q hq => h q (List.mem_cons_of_mem _ hq))
    rw [← Nat.pow_add] at this
    rw [List.length_cons, show 17 * (r.length + 1) = 17 + 17 * r.length by omega]
    exact this
theorem ddp_mem {cs : List Pt} : ∀ {ps : List Pc} {p : Pc}, p ∈ ps → ∃ c, ddp cs ps = (dbl cs p).natAbs * c
  | q :: r, p, h => by
    rcases List.mem_cons.mp h with rfl | h
    · exact ⟨_, rfl⟩
    · obtain ⟨c, e⟩ := ddp_mem (cs := cs) h
      refine ⟨(dbl cs q).natAbs * c, ?_⟩
      show (dbl cs q).natAbs * ddp cs r = _
      rw [e]
      exact Nat.mul_left_comm _ _ _
section
variable {P : Pl} {i : Nat} {E n m : Nat} {s : R3}
theorem pcs_eq (hi : i < P.ps.length) : pcs P i = P.ps[i] := by unfold pcs; rw [List.getD_eq_getElem?_getD, List.getElem?_eq_getElem hi]; rfl
theorem thk_ok (h : PlOk P) (hi : i < P.ps.length) : 1 ≤ thk P i ∧ thk P i ≤ 9 := by
  have : i < P.th.length := by rw [h.tl]; exact hi
  have e : thk P i = P.th[i] := by unfold thk; rw [List.getD_eq_getElem?_getD, List.getElem?_eq_getElem this]; rfl
  rw [e]
  exact h.th _ (List.getElem_mem this)
theorem wei_fx (h : PlOk P) (hi : i < P.ps.length) : Fx 2 21 (wei P i) := by
  have ht := thk_ok h hi
  have hd := dbl_small h hi
  rw [← pcs_eq hi] at hd
  refine Fx.divInt (b := 2) (by decide) ?_
  rw [Int.natAbs_mul]
  have := Nat.mul_le_mul (show (thk P i).natAbs ≤ 9 by omega) hd
  show _ * _ < _
  rw [Int.natAbs_natCast]
  omega
def Qp (P : Pl) (E : Nat) : Nat := 2 * E * (ddp P.cs P.ps * ddp P.cs P.ps)
theorem Qp_ne (h : PlOk P) (e0 : E ≠ 0) : Qp P E ≠ 0 := by
  have := ddp_ne (cs := P.cs) (ps := P.ps) fun p hp => (h.pc p hp).t
  exact Nat.mul_ne_zero (Nat.mul_ne_zero (by decide) e0) (Nat.mul_ne_zero this this)
theorem all_small (h : PlOk P) : ∀ p ∈ P.ps, (dbl P.cs p).natAbs < 2 ^ 17 := fun p hp => by
  obtain ⟨j, hj, rfl⟩ := List.getElem_of_mem hp
  have := dbl_small h hj
  omega
theorem Qp_lt (h : PlOk P) (e : E < 2 ^ n) : Qp P E < 2 ^ (n + 1 + 34 * P.ps.length) := by
  have d := ddp_lt (all_small h)
  have d2 := Nat.mul_le_mul d d
  rw [← Nat.pow_add] at d2
  have e2 : 2 * E < 2 ^ (n + 1) := by rw [Nat.pow_succ]; omega
  unfold Qp
  rw [Nat.pow_add, show 34 * P.ps.length = 17 * P.ps.length + 17 * P.ps.length by omega]
  exact Nat.mul_lt_mul_of_lt_of_le e2 d2 (Nat.two_pow_pos _)
theorem Fx3.alo {D d : Nat} (hs : Fx3 D m s) {l : Rat × Rat} (hl : Fx d 8 l.1 ∧ Fx d 8 l.2) : Fx (D * d) (m + 9) (alo s l) := (hs.1.mul hl.1).addS (hs.2.2.mul hl.2)
theorem Fx3.acr {D d : Nat} (hs : Fx3 D m s) {l : Rat × Rat} (hl : Fx d 8 l.1 ∧ Fx d 8 l.2) : Fx (D * d) (m + 9) (acr s l) := (hs.2.2.mul hl.1).addS (hs.2.1.mul hl.2)
theorem push_fx (h : PlOk P) (hi : i < P.ps.length) {t : Rat} (ht : Fx ((dbl P.cs (pcs P i)).natAbs * E * (dbl P.cs (pcs P i)).natAbs) (m + 9) t) : Fx (Qp P E) (m + 30 + 34 * P.ps.length + 1) (wei P i * t) := by
  have hp : pcs P i ∈ P.ps := by rw [pcs_eq hi]; exact List.getElem_mem hi
  obtain ⟨c, e⟩ := ddp_mem (cs := P.cs) hp
  have d := ddp_lt (all_small h)
  have hc : c ≤ 2 ^ (17 * P.ps.length) := by
    have h0 := (h.pc _ hp).t
    have : 1 ≤ (dbl P.cs (pcs P i)).natAbs := by
      have : dbl P.cs (pcs P i) ≠ 0 := h0
      omega
    calc c = 1 * c := (Nat.one_mul c).symm
      _ ≤ (dbl P.cs (pcs P i)).natAbs * c := Nat.mul_le_mul_right c this
      _ ≤ _ := by rw [← e]; exact d
  have hcc : c * c < 2 ^ (34 * P.ps.length + 1) := by
    have := Nat.mul_le_mul hc hc
    rw [← Nat.pow_add, show 17 * P.ps.length + 17 * P.ps.length = 34 * P.ps.length by omega] at this
    rw [Nat.pow_succ]
    have := Nat.two_pow_pos (34 * P.ps.length)
    omega
  have := ((wei_fx h hi).mul ht).up hcc
  have eq : 2 * ((dbl P.cs (pcs P i)).natAbs * E * (dbl P.cs (pcs P i)).natAbs) * (c * c) = Qp P E := by
    unfold Qp
    rw [e]
    generalize (dbl P.cs (pcs P i)).natAbs = d
    grind
  rw [eq] at this
  exact this.mono (by omega)
theorem puC_fx {Q k : Nat} {acc : List Rat} {w : Rat} {j : Nat} {l : Rat × Rat} (h : AllFx Q k acc) (hj : 2 * j + 1 < acc.length) (h1 : Fx Q k (w * alo s l)) (h2 : Fx Q k (w * acr s l)) : AllFx Q (k + 2) (puC acc w j s l) :=
  puW_fx (puW_fx h (by omega) h1) (by rw [puW_len]; omega) (h2.mono (by omega))
theorem puP_fx (h : PlOk P) (hi : i < P.ps.length) {acc : List Rat} {k : Nat} (hl : acc.length = 2 * P.cs.length) (hk : m + 31 + 34 * P.ps.length ≤ k) (ha : AllFx (Qp P E) k acc) (hs : Fx3 ((dbl P.cs (pcs P i)).natAbs * E) m s) : AllFx (Qp P E) (k + 6) (puP P acc i s) := by
  obtain ⟨h1, h2, h3⟩ := pc_lt h hi
  have h0 := dbl_ne h hi
  rw [← pcs_eq hi] at h0 h1 h2 h3
  have f1 := slo_fx h.inb h0 h2 h3
  have f2 := slo_fx h.inb h0 h3 h1
  have f3 := slo_fx h.inb h0 h1 h2
  have g := fun {t : Rat} ht => (push_fx (E := E) (m := m) (t := t) h hi ht)
  unfold puP
  have a := puC_fx (j := (pcs P i).1) ha (by omega) ((g (hs.alo f1)).mono (by omega)) ((g (hs.acr f1)).mono (by omega))
  have b := puC_fx (j := (pcs P i).2.1) a (by rw [puC_len]; omega) ((g (hs.alo f2)).mono (by omega)) ((g (hs.acr f2)).mono (by omega))
  exact puC_fx b (by rw [puC_len, puC_len]; omega) ((g (hs.alo f3)).mono (by omega)) ((g (hs.acr f3)).mono (by omega))
end
end V
set_option exponentiation.threshold 20000
namespace V
open PySem PySem.Spec ZL L2
section
variable {P : Pl} {i : Nat} {E n m b : Nat} {s : R3}
theorem dbl_small' (h : PlOk P) (hi : i < P.ps.length) : (dbl P.cs (pcs P i)).natAbs ≤ 80000 := by rw [pcs_eq hi]; exact dbl_small h hi
theorem dbl_ne' (h : PlOk P) (hi : i < P.ps.length) : dbl P.cs (pcs P i) ≠ 0 := by rw [pcs_eq hi]; exact dbl_ne h hi
end
end V
set_option exponentiation.threshold 20000
namespace V
open PySem PySem.Spec ZL L2
structure Cap (Q B : Nat) : Prop where
  q0 : Q ≠ 0
  q : Q < 2 ^ B
  b : B ≤ 4000
theorem Cap.bt {Q B k : Nat} (h : Cap Q B) {q : Rat} (hq : Fx Q k q) (hk : k ≤ B) : Bt B q := hq.bt h.q0 h.q hk
section
variable {P : Pl} {E n m : Nat}
def en (i : Nat) (s : R3) : PyData := .tuple [.int (i : Int), eR3 s]
structure Sf (P : Pl) (ss : List R3) (E n m : Nat) : Prop where
  ok : PlOk P
  l : ss.length = P.ps.length
  fx : ∀ i (h : i < ss.length), Fx3 ((dbl P.cs (pcs P i)).natAbs * E) m ss[i]
  e0 : E ≠ 0
  e : E < 2 ^ n
  nm : n + m ≤ 1000
  bm : m ≤ n + m
def capB (P : Pl) (n m : Nat) : Nat := n + m + 40 + 40 * P.ps.length
theorem Sf.cap {ss : List R3} (h : Sf P ss E n m) : Cap (Qp P E) (capB P n m) := by
  have := h.ok.k20; have := h.nm
  unfold capB
  exact ⟨Qp_ne h.ok h.e0, pow_mono (Qp_lt h.ok h.e) (by omega), by omega⟩
theorem Sf.bt {ss : List R3} (h : Sf P ss E n m) {i : Nat} (hi : i < ss.length) : Bt3 (n + m + 17) ss[i] := by
  have f := h.fx i hi
  have hi' : i < P.ps.length := by rw [← h.l]; exact hi
  have hd := dbl_small' h.ok hi'
  have h0 := dbl_ne' h.ok hi'
  have lt : (dbl P.cs (pcs P i)).natAbs * E < 2 ^ (n + m + 17) := pow_mono (mul_lt_pow (a := 17) (by omega) h.e) (by omega)
  have ne : (dbl P.cs (pcs P i)).natAbs * E ≠ 0 := Nat.mul_ne_zero (by omega) h.e0
  exact ⟨f.1.bt ne lt (by omega), f.2.1.bt ne lt (by omega), f.2.2.bt ne lt (by omega)⟩
structure Row (P : Pl) (E m : Nat) (i : Nat) (acc : List Rat) : Prop where
  l : acc.length = 2 * P.cs.length
  fx : AllFx (Qp P E) (m + 31 + 34 * P.ps.length + 6 * i) acc
theorem Row.next {i : Nat} {acc : List Rat} {s : R3} (h : Row P E m i acc) (ok : PlOk P) (hi : i < P.ps.length) (hs : Fx3 ((dbl P.cs (pcs P i)).natAbs * E) m s) : Row P E m (i + 1) (puP P acc i s) :=
  ⟨by rw [puP_len]; exact h.l, by
    have := puP_fx ok hi h.l (by omega) h.fx hs
    rw [show m + 31 + 34 * P.ps.length + 6 * (i + 1) = m + 31 + 34 * P.ps.length + 6 * i + 6 by omega]
    exact this⟩
theorem row_0 : Row P E m 0 (List.replicate (2 * P.cs.length) 0) := ⟨List.length_replicate, fun q hq => by
  rw [List.eq_of_mem_replicate hq]
  exact .zero _ _⟩
theorem Row.all {ss : List R3} : ∀ {i : Nat} {acc : List Rat}, Row P E m i acc → PlOk P → i + ss.length = P.ps.length → (∀ j (h : j < ss.length), Fx3 ((dbl P.cs (pcs P (i + j))).natAbs * E) m ss[j]) → Row P E m (i + ss.length) (puA P acc i ss) := by
  induction ss with
  | nil => intro i acc h _ _ _; exact h
  | cons s r ih =>
    intro i acc h ok hl hf
    simp only [List.length_cons] at hl
    have := ih (h.next ok (by omega) (hf 0 (by simp))) ok (by omega) fun j hj => by
      have := hf (j + 1) (by simp; omega)
      rw [show i + (j + 1) = i + 1 + j by omega] at this
      exact this
    rw [List.length_cons, show i + (r.length + 1) = i + 1 + r.length by omega]
    exact this
theorem psh_row {ss : List R3} (h : Sf P ss E n m) : Row P E m P.ps.length (psh P ss) := by
  have := row_0.all (ss := ss) (i := 0) (P := P) (E := E) (m := m) h.ok (by rw [Nat.zero_add]; exact h.l) fun j hj => by rw [Nat.zero_add]; exact h.fx j hj
  rw [Nat.zero_add, h.l] at this
  exact this
theorem psh_bt {ss : List R3} (h : Sf P ss E n m) : ∀ q ∈ psh P ss, Bt (capB P n m) q := fun q hq => h.cap.bt ((psh_row h).fx q hq) (by unfold capB; omega)
end
end V
set_option exponentiation.threshold 20000
namespace V
open PySem PySem.Spec ZL L2
section
variable {P : Pl} {E n m : Nat}
def sts (P : Pl) (ms : List Rat) : List R3 := (List.range P.ps.length).map fun i => stre P (strn P.cs (pcs P i) ms)
variable {ms : List Rat}
end
end V
set_option exponentiation.threshold 20000
namespace V
open PySem PySem.Spec ZL L2
section
variable {P : Pl}
theorem same_row {ms : List Rat} {b : Nat} (h : ∀ q ∈ ms, Bt b q) (hl : ms.length ≤ 60) (hb : b ≤ 1920) : L.law_same (eR ms) (eR ms) = pure (.bool true) := same_eq ((tq_row h hl).q.ok hb (by omega) (by omega))
theorem Sf.same {ss : List R3} {E n m : Nat} (h : Sf P ss E n m) (hb : capB P n m ≤ 1920) : L.law_same (eR (psh P ss)) (eR (psh P ss)) = pure (.bool true) := by
  have n30 := h.ok.n30
  exact same_row (psh_bt h) (by rw [psh_len]; omega) hb
end
end V
set_option exponentiation.threshold 20000
namespace V
open PySem PySem.Spec ZL L2
section
variable {A B x y bb : Nat} {a b : List Rat}
end
end V
set_option exponentiation.threshold 20000
namespace V
open PySem PySem.Spec ZL L2
def r3l (s : R3) : List Rat := [s.1, s.2.1, s.2.2]
def dot3 (a b : R3) : Rat := a.1 * b.1 + a.2.1 * b.2.1 + a.2.2 * b.2.2
def halfQ : Rat := Rat.divInt 1 2
def pw (P : Pl) (i : Nat) (a b : R3) : Rat := wei P i * halfQ * dot3 a b
def nn (P : Pl) : Int := 2 * P.l + 2 * P.m
theorem Fx3.all {D k : Nat} {s : R3} (h : Fx3 D k s) : AllFx D k (r3l s) := fun q hq => by
  simp only [r3l, List.mem_cons, List.not_mem_nil, or_false] at hq
  rcases hq with rfl | rfl | rfl
  · exact h.1
  · exact h.2.1
  · exact h.2.2
section
variable {P : Pl} {i A B x y bb : Nat} {a b : R3}
end
end V
set_option exponentiation.threshold 20000
namespace V
open PySem PySem.Spec ZL L2
def ws (P : Pl) (ms : List Rat) (i : Nat) : Rat := pw P i (strn P.cs (pcs P i) ms) (stre P (strn P.cs (pcs P i) ms))
section
variable {P : Pl} {i E n m : Nat} {ms : List Rat} {ss : List R3}
end
end V
set_option exponentiation.threshold 20000
namespace V
open PySem PySem.Spec ZL L2
section
variable {P : Pl} {i E n m : Nat} {ms : List Rat} {ss : List R3}
end
end V
set_option exponentiation.threshold 20000
namespace V
open PySem PySem.Spec ZL L2
section
variable {P : Pl} {i E n m : Nat} {ms : List Rat} {ss : List R3}
end
end V
set_option exponentiation.threshold 20000
namespace V
open PySem PySem.Spec ZL L2
section
variable {P : Pl} {i E n m : Nat} {ms : List Rat} {ss : List R3}
end
end V
set_option exponentiation.threshold 20000
namespace V
open PySem PySem.Spec ZL L2
section
variable {P : Pl} {i : Nat} {ms : List Rat} {ss : List R3}
end
end V
set_option exponentiation.threshold 20000
namespace V
open PySem PySem.Spec ZL L2
section
variable {P : Pl} {i E n m : Nat} {ms : List Rat} {ss : List R3}
end
end V
set_option exponentiation.threshold 20000
namespace V
open PySem PySem.Spec ZL L2
section
variable {P : Pl} {i : Nat}
end
end V
set_option exponentiation.threshold 20000
namespace V
open PySem PySem.Spec ZL L2
section
variable {P : Pl}
end
end V
set_option exponentiation.threshold 20000
namespace V
open PySem PySem.Spec ZL L2
section
variable {P : Pl}
end
end V
set_option exponentiation.threshold 20000
namespace V
open PySem PySem.Spec ZL L2 Dt
def rowL (W : Nat) (f : Nat → Rat) : PyData := .list ((List.range W).map fun x => fr (f x))
def tb (m W : Nat) (T : Mx) : List PyData := (List.range m).map fun i => rowL W (T i)
section
variable {m W : Nat} {T : Mx} {f g : Nat → Rat}
end
section
variable {m W b : Nat} {T : Mx} {f g : Nat → Rat}
end
end V
set_option exponentiation.threshold 20000
namespace V
open PySem PySem.Spec ZL L2 Dt
theorem pr2 (a b : PyData) : pT2 pN pN (.tuple [a, b]) = some (a, b) := rfl
section
variable {m W b : Nat}
end
end V
set_option exponentiation.threshold 20000
namespace V
open PySem PySem.Spec ZL L2 Dt
theorem Ok.fl {m W w N col : Nat} {A0 : Mx} {s : Stt} (h : Dt.Ok m W w A0 N s col) : s.fs.length ≤ col := by
  rw [h.fr]
  exact Nat.le_trans (List.length_filter_le _ _) (by simp)
section
variable {m w : Nat} {A : Mx}
end
end V
set_option exponentiation.threshold 20000
namespace V
open PySem PySem.Spec ZL L2 Dt
section
variable {m w : Nat} {A : Mx}
end
end V
set_option exponentiation.threshold 20000
namespace V
open PySem PySem.Spec ZL L2 Dt
theorem p60 (k : Nat) : 60 ^ k < 2 ^ (6 * k + 1) := by
  have : (60 : Nat) ^ k ≤ 64 ^ k := Nat.pow_le_pow_left (by decide) k
  have e : (64 : Nat) ^ k = 2 ^ (6 * k) := by rw [Nat.pow_mul]
  rw [Nat.pow_succ]
  have := Nat.two_pow_pos (6 * k)
  omega
theorem Fx.up60 {a b n : Nat} {q : Rat} (h : Fx (60 ^ a) n q) (hab : a ≤ b) : Fx (60 ^ b) (n + (6 * (b - a) + 1)) q := by
  have := h.up (p60 (b - a))
  rwa [← Nat.pow_add, show a + (b - a) = b by omega] at this
theorem AllFx.up60 {a b n k : Nat} {ms : List Rat} (h : AllFx (60 ^ a) n ms) (hab : a ≤ b) (hk : n + (6 * (b - a) + 1) ≤ k) : AllFx (60 ^ b) k ms := fun q hq => ((h q hq).up60 hab).mono hk
def Lok (w : Nat) (ls : List (List Rat)) : Prop := ∀ i (h : i < ls.length), ls[i].length = w ∧ AllFx (60 ^ (i + 1)) (49 + 51 * i) ls[i]
theorem Lok.snoc {w : Nat} {ls : List (List Rat)} (h : Lok w ls) {l : List Rat} (hl : l.length = w) (hf : AllFx (60 ^ (ls.length + 1)) (49 + 51 * ls.length) l) : Lok w (ls ++ [l]) := fun i hi => by
  by_cases q : i < ls.length
  · rw [List.getElem_append_left q]; exact h i q
  · have : i = ls.length := by simp at hi; omega
    subst this
    simp only [List.getElem_append_right (Nat.le_refl _), Nat.sub_self, List.getElem_cons_zero]
    exact ⟨hl, hf⟩
theorem Lok.bt {w : Nat} {ls : List (List Rat)} (h : Lok w ls) (hl : ls.length ≤ 8) : ∀ l ∈ ls, l.length = w ∧ ∀ q ∈ l, Bt 500 q := fun l hm => by
  obtain ⟨i, hi, rfl⟩ := List.getElem_of_mem hm
  obtain ⟨h1, h2⟩ := h i hi
  refine ⟨h1, fun q hq => (h2 q hq).bt (by have := Nat.pow_pos (n := i + 1) (show 0 < 60 by decide); omega) (Nat.lt_of_lt_of_le (p60 (i + 1)) (Nat.pow_le_pow_right (by decide) (by omega))) (by omega)⟩
structure Sys (m w : Nat) (A : Mx) : Prop where
  m7 : m ≤ 7
  w6 : w ≤ 6
  z : m = 0 → w = 0
  l : ∀ i x, i < m → x < w → Fx (60 ^ (i + 1)) (49 + 51 * i) (A i x)
  r : ∀ i, i < m → Fx (60 ^ (i + 2)) (104 + 51 * i) (A i w)
  u : ∀ i q, i < m → q < m → A i (w + 1 + q) = if q = i then 1 else 0
end V
set_option exponentiation.threshold 20000
namespace V
open PySem PySem.Spec ZL L2 Dt
end V
set_option exponentiation.threshold 20000
namespace V
open PySem PySem.Spec ZL L2 Dt
theorem Fx.wx {D n : Nat} {q : Rat} (h : Fx D n q) : Wx D (2 ^ n) q := let ⟨k, e, l⟩ := h; ⟨k, e, Nat.le_of_lt l⟩
section
variable {m w : Nat} {A : Mx}
theorem Sys.bt (S : Sys m w A) {i x : Nat} (hi : i < m) (hx : x < w + 1) : Bt 500 (A i x) := by
  have m7 := S.m7
  have p : ∀ k, 60 ^ k ≠ 0 := fun k => Nat.ne_of_gt (Nat.pow_pos (by decide))
  by_cases h : x < w
  · exact (S.l i x hi h).bt (p _) (Nat.lt_of_lt_of_le (p60 (i + 1)) (Nat.pow_le_pow_right (by decide) (by omega))) (by omega)
  · have : x = w := by omega
    subst this
    exact (S.r i hi).bt (p _) (Nat.lt_of_lt_of_le (p60 (i + 2)) (Nat.pow_le_pow_right (by decide) (by omega))) (by omega)
theorem Sys.col (S : Sys m w A) {x : Nat} (hx : x < w + 1) : AllFx (60 ^ 8) 460 ((List.range m).map fun i => A i x) := fun q hq => by
  obtain ⟨i, hi, rfl⟩ := List.mem_map.mp hq
  have hi := List.mem_range.mp hi
  have m7 := S.m7
  by_cases h : x < w
  · exact ((S.l i x hi h).up60 (show i + 1 ≤ 8 by omega)).mono (by omega)
  · have : x = w := by omega
    subst this
    exact ((S.r i hi).up60 (show i + 2 ≤ 8 by omega)).mono (by omega)
end
end V
set_option exponentiation.threshold 20000
namespace V
open PySem PySem.Spec ZL L2 Dt
section
variable {x y : Nat} {a b : List Rat}
end
structure Rws (m w : Nat) (A : Mx) (b : Nat) : Prop where
  m7 : m ≤ 7
  w7 : w ≤ 7
  z : m = 0 → w = 0
  bt : ∀ i x, i < m → x < w + 1 → Bt b (A i x)
section
variable {m w : Nat} {A : Mx} {b c D Z : Nat} {d : PyData}
end
end V
set_option exponentiation.threshold 20000
namespace V
open PySem PySem.Spec ZL L2 Dt
structure Xq (b D Z : Nat) (d : PyData) : Prop where
  i : ib b d
  dp : d.depth ≤ D
  z : sz d ≤ Z
theorem Bq.x {b D Z : Nat} {d : PyData} (h : Bq b D Z d) : Xq b D Z d := ⟨h.i, h.dp, h.z⟩
theorem Xq.mono {b D Z b' D' Z' : Nat} {d : PyData} (h : Xq b D Z d) (h1 : b ≤ b') (h2 : D ≤ D') (h3 : Z ≤ Z') : Xq b' D' Z' d := ⟨ib_mono h1 h.i, Nat.le_trans h.dp h2, Nat.le_trans h.z h3⟩
theorem Xq.shown {b D Z : Nat} {d : PyData} (h : Xq b D Z d) (hb : b ≤ 1920) (hD : D ≤ 100) (hZ : Z ≤ 16777216) : reprXM d = pure (.str d.shown) := by
  have s := ib_showable hb h.i
  have ok : reprXOk d = true := by
    unfold reprXOk
    simp only [Bool.and_eq_true, decide_eq_true_eq]
    exact ⟨⟨s, Nat.le_trans h.dp hD⟩, Nat.le_trans (shown_sz d s) (Nat.le_trans h.z hZ)⟩
  show ofO (reprXO d) = _
  unfold reprXO
  rw [if_pos ok]
  rfl
theorem Xq.lenOk {b D Z : Nat} {d : PyData} (h : Xq b D Z d) (hZ : Z ≤ 16777216) : lenOk d := by
  cases d with
  | tuple xs =>
    have := h.z
    have := length_szA xs
    simp only [sz] at *
    simp only [V.lenOk]
    omega
  | _ => trivial
theorem Xq.sm2 {b D Z : Nat} {d : PyData} (h : Xq b D Z d) (hb : b ≤ 9000) : sm2 d := by
  unfold V.sm2
  split
  · have := h.i
    simp only [ib, ibA] at this
    have p : (2 : Nat) ^ b ≤ 2 ^ 9000 := Nat.pow_le_pow_right (by decide) hb
    omega
  · trivial
section
variable {b D Z n : Nat} {d : PyData}
end
section
variable {α β : Type} {Q : β → Cells → Prop} {r : Cells} {xs : List PyData}
end
section
variable {P : Pl} {b D Z : Nat} {d : PyData}
end
end V
set_option exponentiation.threshold 100
namespace K
open PySem PySem.Spec PyProof.Rows L2 ZL V
def N_is_whole : List Str := ["thing"]
theorem sc_is_whole : FnScope N_is_whole ["thing"] (defScope s_is_whole) := ⟨rfl, rfl, rfl, by decide +kernel, rfl, by decide +kernel, by decide +kernel⟩
def N_divisor : List Str := ["one", "other"]
theorem sc_divisor : FnScope N_divisor ["one", "other"] (defScope s_divisor) := ⟨rfl, rfl, rfl, by decide +kernel, rfl, by decide +kernel, by decide +kernel⟩
def N_is_fraction : List Str := ["thing", "part"]
theorem sc_is_fraction : FnScope N_is_fraction ["thing"] (defScope s_is_fraction) := ⟨rfl, rfl, rfl, by decide +kernel, rfl, by decide +kernel, by decide +kernel⟩
def N_need_whole : List Str := ["thing"]
theorem sc_need_whole : FnScope N_need_whole ["thing"] (defScope s_need_whole) := ⟨rfl, rfl, rfl, by decide +kernel, rfl, by decide +kernel, by decide +kernel⟩
def N_need_fraction : List Str := ["thing"]
theorem sc_need_fraction : FnScope N_need_fraction ["thing"] (defScope s_need_fraction) := ⟨rfl, rfl, rfl, by decide +kernel, rfl, by decide +kernel, by decide +kernel⟩
def N_made_by : List Str := ["top", "bottom", "by"]
theorem sc_made_by : FnScope N_made_by ["top", "bottom"] (defScope s_made_by) := ⟨rfl, rfl, rfl, by decide +kernel, rfl, by decide +kernel, by decide +kernel⟩
def N_plus_by : List Str := ["one", "other"]
theorem sc_plus_by : FnScope N_plus_by ["one", "other"] (defScope s_plus_by) := ⟨rfl, rfl, rfl, by decide +kernel, rfl, by decide +kernel, by decide +kernel⟩
def N_minus_by : List Str := ["one", "other"]
theorem sc_minus_by : FnScope N_minus_by ["one", "other"] (defScope s_minus_by) := ⟨rfl, rfl, rfl, by decide +kernel, rfl, by decide +kernel, by decide +kernel⟩
def N_times_by : List Str := ["one", "other"]
theorem sc_times_by : FnScope N_times_by ["one", "other"] (defScope s_times_by) := ⟨rfl, rfl, rfl, by decide +kernel, rfl, by decide +kernel, by decide +kernel⟩
def N_over_by : List Str := ["one", "other"]
theorem sc_over_by : FnScope N_over_by ["one", "other"] (defScope s_over_by) := ⟨rfl, rfl, rfl, by decide +kernel, rfl, by decide +kernel, by decide +kernel⟩
def N_less_by : List Str := ["one", "other"]
theorem sc_less_by : FnScope N_less_by ["one", "other"] (defScope s_less_by) := ⟨rfl, rfl, rfl, by decide +kernel, rfl, by decide +kernel, by decide +kernel⟩
def N_made : List Str := ["top", "bottom"]
theorem sc_made : FnScope N_made ["top", "bottom"] (defScope s_made) := ⟨rfl, rfl, rfl, by decide +kernel, rfl, by decide +kernel, by decide +kernel⟩
def N_need_two : List Str := ["one", "other"]
theorem sc_need_two : FnScope N_need_two ["one", "other"] (defScope s_need_two) := ⟨rfl, rfl, rfl, by decide +kernel, rfl, by decide +kernel, by decide +kernel⟩
def N_plus : List Str := ["one", "other"]
theorem sc_plus : FnScope N_plus ["one", "other"] (defScope s_plus) := ⟨rfl, rfl, rfl, by decide +kernel, rfl, by decide +kernel, by decide +kernel⟩
def N_minus : List Str := ["one", "other"]
theorem sc_minus : FnScope N_minus ["one", "other"] (defScope s_minus) := ⟨rfl, rfl, rfl, by decide +kernel, rfl, by decide +kernel, by decide +kernel⟩
def N_times : List Str := ["one", "other"]
theorem sc_times : FnScope N_times ["one", "other"] (defScope s_times) := ⟨rfl, rfl, rfl, by decide +kernel, rfl, by decide +kernel, by decide +kernel⟩
def N_over : List Str := ["one", "other"]
theorem sc_over : FnScope N_over ["one", "other"] (defScope s_over) := ⟨rfl, rfl, rfl, by decide +kernel, rfl, by decide +kernel, by decide +kernel⟩
def N_less : List Str := ["one", "other"]
theorem sc_less : FnScope N_less ["one", "other"] (defScope s_less) := ⟨rfl, rfl, rfl, by decide +kernel, rfl, by decide +kernel, by decide +kernel⟩
def N__law_cell_at : List Str := ["_law_script", "_law_k"]
theorem sc__law_cell_at : FnScope N__law_cell_at ["_law_script", "_law_k"] (defScope s__law_cell_at) := ⟨rfl, rfl, rfl, by decide +kernel, rfl, by decide +kernel, by decide +kernel⟩
def N__law_state : List Str := ["_law_script", "_law_k", "_law_cell"]
theorem sc__law_state : FnScope N__law_state ["_law_script", "_law_k"] (defScope s__law_state) := ⟨rfl, rfl, rfl, by decide +kernel, rfl, by decide +kernel, by decide +kernel⟩
def N__law_choice : List Str := ["_law_state_here", "_law_many", "_law_mixed", "_law_found"]
theorem sc__law_choice : FnScope N__law_choice ["_law_state_here", "_law_many"] (defScope s__law_choice) := ⟨rfl, rfl, rfl, by decide +kernel, rfl, by decide +kernel, by decide +kernel⟩
def N__law_low : List Str := ["_law_top", "_law_bottom", "_law_one", "_law_other"]
theorem sc__law_low : FnScope N__law_low ["_law_top", "_law_bottom"] (defScope s__law_low) := ⟨rfl, rfl, rfl, by decide +kernel, rfl, by decide +kernel, by decide +kernel⟩
def N__law_fraction : List Str := ["_law_state_here", "_law_top", "_law_way"]
theorem sc__law_fraction : FnScope N__law_fraction ["_law_state_here"] (defScope s__law_fraction) := ⟨rfl, rfl, rfl, by decide +kernel, rfl, by decide +kernel, by decide +kernel⟩
def N__law_odd : List Str := ["_law_state_here", "_law_some"]
theorem sc__law_odd : FnScope N__law_odd ["_law_state_here"] (defScope s__law_odd) := ⟨rfl, rfl, rfl, by decide +kernel, rfl, by decide +kernel, by decide +kernel⟩
def N__law_marks : List Str := ["_law_e", "_law_marks_here"]
theorem sc__law_marks : FnScope N__law_marks ["_law_e"] (defScope s__law_marks) := ⟨rfl, rfl, rfl, by decide +kernel, rfl, by decide +kernel, by decide +kernel⟩
def N__law_word : List Str := ["_law_e", "_law_words_here", "_law_marks_here", "_law_word_here"]
theorem sc__law_word : FnScope N__law_word ["_law_e"] (defScope s__law_word) := ⟨rfl, rfl, rfl, by decide +kernel, rfl, by decide +kernel, by decide +kernel⟩
def N__law_said : List Str := ["_law_call", "_law_e"]
theorem sc__law_said : FnScope N__law_said ["_law_call"] (defScope s__law_said) := ⟨rfl, rfl, rfl, by decide +kernel, rfl, by decide +kernel, by decide +kernel⟩
def N__law_whole : List Str := ["_law_thing"]
theorem sc__law_whole : FnScope N__law_whole ["_law_thing"] (defScope s__law_whole) := ⟨rfl, rfl, rfl, by decide +kernel, rfl, by decide +kernel, by decide +kernel⟩
def N__law_is_fraction : List Str := ["_law_thing", "_law_one"]
theorem sc__law_is_fraction : FnScope N__law_is_fraction ["_law_thing"] (defScope s__law_is_fraction) := ⟨rfl, rfl, rfl, by decide +kernel, rfl, by decide +kernel, by decide +kernel⟩
def N__law_bent : List Str := ["_law_state_here", "_law_thing", "_law_way", "_law_at", "_law_more"]
theorem sc__law_bent : FnScope N__law_bent ["_law_state_here", "_law_thing"] (defScope s__law_bent) := ⟨rfl, rfl, rfl, by decide +kernel, rfl, by decide +kernel, by decide +kernel⟩
def N__law_words : List Str := ["_law_one", "_law_other", "_law_calls", "_law_found", "_law_call", "_law_said_here"]
theorem sc__law_words : FnScope N__law_words ["_law_one", "_law_other"] (defScope s__law_words) := ⟨rfl, rfl, rfl, by decide +kernel, rfl, by decide +kernel, by decide +kernel⟩
def N_law : List Str := ["_law_script", "_law_k", "_law_state_here", "_law_good", "_law_bads", "_law_bad", "_law_kept", "_law_due"]
theorem sc_law : FnScope N_law ["_law_script"] (defScope s_law) := ⟨rfl, rfl, rfl, by decide +kernel, rfl, by decide +kernel, by decide +kernel⟩
theorem bv_abs : bootBuiltins "abs" = some (.builtin "abs") := by decide +kernel
theorem bv_all : bootBuiltins "all" = some (.builtin "all") := by decide +kernel
theorem bv_int : bootBuiltins "int" = some (.type "int") := by decide +kernel
theorem bv_len : bootBuiltins "len" = some (.builtin "len") := by decide +kernel
theorem bv_list : bootBuiltins "list" = some (.type "list") := by decide +kernel
theorem bv_max : bootBuiltins "max" = some (.builtin "max") := by decide +kernel
theorem bv_min : bootBuiltins "min" = some (.builtin "min") := by decide +kernel
theorem bv_repr : bootBuiltins "repr" = some (.builtin "repr") := by decide +kernel
structure Txt (K : PySem.W.Frag) (mg : Str → Option Value) where
  a_is_whole : Addr
  fd_is_whole : FuncData
  F_is_whole : FunD K "is_whole" "is_whole" (defArgs s_is_whole) (defBody s_is_whole) (defScope s_is_whole) [] [] a_is_whole fd_is_whole
  b_is_whole : Binds K fd_is_whole ["thing"] []
  m_is_whole : mg "is_whole" = some (.ref a_is_whole)
  a_divisor : Addr
  fd_divisor : FuncData
  F_divisor : FunD K "divisor" "divisor" (defArgs s_divisor) (defBody s_divisor) (defScope s_divisor) [] [] a_divisor fd_divisor
  b_divisor : Binds K fd_divisor ["one", "other"] []
  m_divisor : mg "divisor" = some (.ref a_divisor)
  a_is_fraction : Addr
  fd_is_fraction : FuncData
  F_is_fraction : FunD K "is_fraction" "is_fraction" (defArgs s_is_fraction) (defBody s_is_fraction) (defScope s_is_fraction) [] [] a_is_fraction fd_is_fraction
  b_is_fraction : Binds K fd_is_fraction ["thing"] []
  m_is_fraction : mg "is_fraction" = some (.ref a_is_fraction)
  a_need_whole : Addr
  fd_need_whole : FuncData
  F_need_whole : FunD K "need_whole" "need_whole" (defArgs s_need_whole) (defBody s_need_whole) (defScope s_need_whole) [] [] a_need_whole fd_need_whole
  b_need_whole : Binds K fd_need_whole ["thing"] []
  m_need_whole : mg "need_whole" = some (.ref a_need_whole)
  a_need_fraction : Addr
  fd_need_fraction : FuncData
  F_need_fraction : FunD K "need_fraction" "need_fraction" (defArgs s_need_fraction) (defBody s_need_fraction) (defScope s_need_fraction) [] [] a_need_fraction fd_need_fraction
  b_need_fraction : Binds K fd_need_fraction ["thing"] []
  m_need_fraction : mg "need_fraction" = some (.ref a_need_fraction)
  a_made_by : Addr
  fd_made_by : FuncData
  F_made_by : FunD K "made_by" "made_by" (defArgs s_made_by) (defBody s_made_by) (defScope s_made_by) [] [] a_made_by fd_made_by
  b_made_by : Binds K fd_made_by ["top", "bottom"] []
  m_made_by : mg "made_by" = some (.ref a_made_by)
  a_plus_by : Addr
  fd_plus_by : FuncData
  F_plus_by : FunD K "plus_by" "plus_by" (defArgs s_plus_by) (defBody s_plus_by) (defScope s_plus_by) [] [] a_plus_by fd_plus_by
  b_plus_by : Binds K fd_plus_by ["one", "other"] []
  m_plus_by : mg "plus_by" = some (.ref a_plus_by)
  a_minus_by : Addr
  fd_minus_by : FuncData
  F_minus_by : FunD K "minus_by" "minus_by" (defArgs s_minus_by) (defBody s_minus_by) (defScope s_minus_by) [] [] a_minus_by fd_minus_by
  b_minus_by : Binds K fd_minus_by ["one", "other"] []
  m_minus_by : mg "minus_by" = some (.ref a_minus_by)
  a_times_by : Addr
  fd_times_by : FuncData
  F_times_by : FunD K "times_by" "times_by" (defArgs s_times_by) (defBody s_times_by) (defScope s_times_by) [] [] a_times_by fd_times_by
  b_times_by : Binds K fd_times_by ["one", "other"] []
  m_times_by : mg "times_by" = some (.ref a_times_by)
  a_over_by : Addr
  fd_over_by : FuncData
  F_over_by : FunD K "over_by" "over_by" (defArgs s_over_by) (defBody s_over_by) (defScope s_over_by) [] [] a_over_by fd_over_by
  b_over_by : Binds K fd_over_by ["one", "other"] []
  m_over_by : mg "over_by" = some (.ref a_over_by)
  a_less_by : Addr
  fd_less_by : FuncData
  F_less_by : FunD K "less_by" "less_by" (defArgs s_less_by) (defBody s_less_by) (defScope s_less_by) [] [] a_less_by fd_less_by
  b_less_by : Binds K fd_less_by ["one", "other"] []
  m_less_by : mg "less_by" = some (.ref a_less_by)
  a_made : Addr
  fd_made : FuncData
  F_made : FunD K "made" "made" (defArgs s_made) (defBody s_made) (defScope s_made) [.int 1] [] a_made fd_made
  m_made : mg "made" = some (.ref a_made)
  a_need_two : Addr
  fd_need_two : FuncData
  F_need_two : FunD K "need_two" "need_two" (defArgs s_need_two) (defBody s_need_two) (defScope s_need_two) [] [] a_need_two fd_need_two
  b_need_two : Binds K fd_need_two ["one", "other"] []
  m_need_two : mg "need_two" = some (.ref a_need_two)
  a_plus : Addr
  fd_plus : FuncData
  F_plus : FunD K "plus" "plus" (defArgs s_plus) (defBody s_plus) (defScope s_plus) [] [] a_plus fd_plus
  b_plus : Binds K fd_plus ["one", "other"] []
  m_plus : mg "plus" = some (.ref a_plus)
  a_minus : Addr
  fd_minus : FuncData
  F_minus : FunD K "minus" "minus" (defArgs s_minus) (defBody s_minus) (defScope s_minus) [] [] a_minus fd_minus
  b_minus : Binds K fd_minus ["one", "other"] []
  m_minus : mg "minus" = some (.ref a_minus)
  a_times : Addr
  fd_times : FuncData
  F_times : FunD K "times" "times" (defArgs s_times) (defBody s_times) (defScope s_times) [] [] a_times fd_times
  b_times : Binds K fd_times ["one", "other"] []
  m_times : mg "times" = some (.ref a_times)
  a_over : Addr
  fd_over : FuncData
  F_over : FunD K "over" "over" (defArgs s_over) (defBody s_over) (defScope s_over) [] [] a_over fd_over
  b_over : Binds K fd_over ["one", "other"] []
  m_over : mg "over" = some (.ref a_over)
  a_less : Addr
  fd_less : FuncData
  F_less : FunD K "less" "less" (defArgs s_less) (defBody s_less) (defScope s_less) [] [] a_less fd_less
  b_less : Binds K fd_less ["one", "other"] []
  m_less : mg "less" = some (.ref a_less)
  a__law_cell_at : Addr
  fd__law_cell_at : FuncData
  F__law_cell_at : FunD K "_law_cell_at" "_law_cell_at" (defArgs s__law_cell_at) (defBody s__law_cell_at) (defScope s__law_cell_at) [] [] a__law_cell_at fd__law_cell_at
  b__law_cell_at : Binds K fd__law_cell_at ["_law_script", "_law_k"] []
  m__law_cell_at : mg "_law_cell_at" = some (.ref a__law_cell_at)
  a__law_state : Addr
  fd__law_state : FuncData
  F__law_state : FunD K "_law_state" "_law_state" (defArgs s__law_state) (defBody s__law_state) (defScope s__law_state) [] [] a__law_state fd__law_state
  b__law_state : Binds K fd__law_state ["_law_script", "_law_k"] []
  m__law_state : mg "_law_state" = some (.ref a__law_state)
  a__law_choice : Addr
  fd__law_choice : FuncData
  F__law_choice : FunD K "_law_choice" "_law_choice" (defArgs s__law_choice) (defBody s__law_choice) (defScope s__law_choice) [] [] a__law_choice fd__law_choice
  b__law_choice : Binds K fd__law_choice ["_law_state_here", "_law_many"] []
  m__law_choice : mg "_law_choice" = some (.ref a__law_choice)
  a__law_low : Addr
  fd__law_low : FuncData
  F__law_low : FunD K "_law_low" "_law_low" (defArgs s__law_low) (defBody s__law_low) (defScope s__law_low) [] [] a__law_low fd__law_low
  b__law_low : Binds K fd__law_low ["_law_top", "_law_bottom"] []
  m__law_low : mg "_law_low" = some (.ref a__law_low)
  a__law_fraction : Addr
  fd__law_fraction : FuncData
  F__law_fraction : FunD K "_law_fraction" "_law_fraction" (defArgs s__law_fraction) (defBody s__law_fraction) (defScope s__law_fraction) [] [] a__law_fraction fd__law_fraction
  b__law_fraction : Binds K fd__law_fraction ["_law_state_here"] []
  m__law_fraction : mg "_law_fraction" = some (.ref a__law_fraction)
  a__law_odd : Addr
  fd__law_odd : FuncData
  F__law_odd : FunD K "_law_odd" "_law_odd" (defArgs s__law_odd) (defBody s__law_odd) (defScope s__law_odd) [] [] a__law_odd fd__law_odd
  b__law_odd : Binds K fd__law_odd ["_law_state_here"] []
  m__law_odd : mg "_law_odd" = some (.ref a__law_odd)
  a__law_marks : Addr
  fd__law_marks : FuncData
  F__law_marks : FunD K "_law_marks" "_law_marks" (defArgs s__law_marks) (defBody s__law_marks) (defScope s__law_marks) [] [] a__law_marks fd__law_marks
  b__law_marks : Binds K fd__law_marks ["_law_e"] []
  m__law_marks : mg "_law_marks" = some (.ref a__law_marks)
  a__law_word : Addr
  fd__law_word : FuncData
  F__law_word : FunD K "_law_word" "_law_word" (defArgs s__law_word) (defBody s__law_word) (defScope s__law_word) [] [] a__law_word fd__law_word
  b__law_word : Binds K fd__law_word ["_law_e"] []
  m__law_word : mg "_law_word" = some (.ref a__law_word)
  a__law_said : Addr
  fd__law_said : FuncData
  F__law_said : FunD K "_law_said" "_law_said" (defArgs s__law_said) (defBody s__law_said) (defScope s__law_said) [] [] a__law_said fd__law_said
  b__law_said : Binds K fd__law_said ["_law_call"] []
  m__law_said : mg "_law_said" = some (.ref a__law_said)
  a__law_whole : Addr
  fd__law_whole : FuncData
  F__law_whole : FunD K "_law_whole" "_law_whole" (defArgs s__law_whole) (defBody s__law_whole) (defScope s__law_whole) [] [] a__law_whole fd__law_whole
  b__law_whole : Binds K fd__law_whole ["_law_thing"] []
  m__law_whole : mg "_law_whole" = some (.ref a__law_whole)
  a__law_is_fraction : Addr
  fd__law_is_fraction : FuncData
  F__law_is_fraction : FunD K "_law_is_fraction" "_law_is_fraction" (defArgs s__law_is_fraction) (defBody s__law_is_fraction) (defScope s__law_is_fraction) [] [] a__law_is_fraction fd__law_is_fraction
  b__law_is_fraction : Binds K fd__law_is_fraction ["_law_thing"] []
  m__law_is_fraction : mg "_law_is_fraction" = some (.ref a__law_is_fraction)
  a__law_bent : Addr
  fd__law_bent : FuncData
  F__law_bent : FunD K "_law_bent" "_law_bent" (defArgs s__law_bent) (defBody s__law_bent) (defScope s__law_bent) [] [] a__law_bent fd__law_bent
  b__law_bent : Binds K fd__law_bent ["_law_state_here", "_law_thing"] []
  m__law_bent : mg "_law_bent" = some (.ref a__law_bent)
  a__law_words : Addr
  fd__law_words : FuncData
  F__law_words : FunD K "_law_words" "_law_words" (defArgs s__law_words) (defBody s__law_words) (defScope s__law_words) [] [] a__law_words fd__law_words
  b__law_words : Binds K fd__law_words ["_law_one", "_law_other"] []
  m__law_words : mg "_law_words" = some (.ref a__law_words)
  a_law : Addr
  fd_law : FuncData
  F_law : FunD K "law" "law" (defArgs s_law) (defBody s_law) (defScope s_law) [] [] a_law fd_law
  b_law : Binds K fd_law ["_law_script"] []
  m_law : mg "law" = some (.ref a_law)
  bk_made_1 : ZBn K fd_made ["top", "bottom"] 1 [] (gSel [0, 1] (List.map Z.d [(.int 1)]))
  bk_made_2 : ZBn K fd_made ["top", "bottom"] 2 [] (gSel [0, 1] (List.map Z.d [(.int 1)]))
  n_ValueError : mg "ValueError" = none
  n_abs : mg "abs" = none
  n_all : mg "all" = none
  n_bool : mg "bool" = none
  n_int : mg "int" = none
  n_isinstance : mg "isinstance" = none
  n_len : mg "len" = none
  n_list : mg "list" = none
  n_max : mg "max" = none
  n_min : mg "min" = none
  n_range : mg "range" = none
  n_repr : mg "repr" = none
  n_tuple : mg "tuple" = none
  e_NoBalance : Addr
  m_NoBalance : mg "NoBalance" = some (.ref e_NoBalance)
  e_NoDeed : Addr
  m_NoDeed : mg "NoDeed" = some (.ref e_NoDeed)
  e_NoDeeds : Addr
  m_NoDeeds : mg "NoDeeds" = some (.ref e_NoDeeds)
  e_NoFirm : Addr
  m_NoFirm : mg "NoFirm" = some (.ref e_NoFirm)
  e_NoFraction : Addr
  m_NoFraction : mg "NoFraction" = some (.ref e_NoFraction)
  x_NoFraction : PySem.W.excIn K e_NoFraction [.type "ValueError", .type "Exception", .type "BaseException", .type "object"] "ValueError.__new__" = true
  k_NoFraction : PySem.W.keepIn K (.ref e_NoFraction) = true
  s_NoFraction : PySem.W.subIn K (.ref e_NoFraction) (.type "BaseException") = some true
  t_NoFraction : PySem.W.typeIn K (.ref e_NoFraction) = some (.type "type")
  e_NoFrame : Addr
  m_NoFrame : mg "NoFrame" = some (.ref e_NoFrame)
  e_NoHolding : Addr
  m_NoHolding : mg "NoHolding" = some (.ref e_NoHolding)
  e_NoInner : Addr
  m_NoInner : mg "NoInner" = some (.ref e_NoInner)
  e_NoLine : Addr
  m_NoLine : mg "NoLine" = some (.ref e_NoLine)
  e_NoLoads : Addr
  m_NoLoads : mg "NoLoads" = some (.ref e_NoLoads)
  e_NoLot : Addr
  m_NoLot : mg "NoLot" = some (.ref e_NoLot)
  e_NoMotions : Addr
  m_NoMotions : mg "NoMotions" = some (.ref e_NoMotions)
  e_NoPiece : Addr
  m_NoPiece : mg "NoPiece" = some (.ref e_NoPiece)
  e_NoPlate : Addr
  m_NoPlate : mg "NoPlate" = some (.ref e_NoPlate)
  e_NoRest : Addr
  m_NoRest : mg "NoRest" = some (.ref e_NoRest)
  e_NoRounds : Addr
  m_NoRounds : mg "NoRounds" = some (.ref e_NoRounds)
  e_NoRows : Addr
  m_NoRows : mg "NoRows" = some (.ref e_NoRows)
  e_NoStresses : Addr
  m_NoStresses : mg "NoStresses" = some (.ref e_NoStresses)
  e_NoText : Addr
  m_NoText : mg "NoText" = some (.ref e_NoText)
  e_NoThick : Addr
  m_NoThick : mg "NoThick" = some (.ref e_NoThick)
  e_NoTurning : Addr
  m_NoTurning : mg "NoTurning" = some (.ref e_NoTurning)
  e_NoWay : Addr
  m_NoWay : mg "NoWay" = some (.ref e_NoWay)
  e_NoWays : Addr
  m_NoWays : mg "NoWays" = some (.ref e_NoWays)
  e_NoWhole : Addr
  m_NoWhole : mg "NoWhole" = some (.ref e_NoWhole)
  x_NoWhole : PySem.W.excIn K e_NoWhole [.type "ValueError", .type "Exception", .type "BaseException", .type "object"] "ValueError.__new__" = true
  k_NoWhole : PySem.W.keepIn K (.ref e_NoWhole) = true
  s_NoWhole : PySem.W.subIn K (.ref e_NoWhole) (.type "BaseException") = some true
  t_NoWhole : PySem.W.typeIn K (.ref e_NoWhole) = some (.type "type")
  e_NotHeld : Addr
  m_NotHeld : mg "NotHeld" = some (.ref e_NotHeld)
  e_PlateError : Addr
  m_PlateError : mg "PlateError" = some (.ref e_PlateError)
  e_TooMany : Addr
  m_TooMany : mg "TooMany" = some (.ref e_TooMany)
  g_NOUGHT : ∀ {X : Cx} {B : Bs} {p : Pos}, X.K = K → X.mg = mg → Gl X "NOUGHT" → ZE X B (.Name "NOUGHT" p) (zC (.d (.tuple [(.int 0), (.int 1)])))
  q__law_words : a__law_words = He.ga K "_law_words"
  q_law : a_law = He.ga K "law"
  xt : ExTab K mg exNames
  xe : ∀ n ∈ exNames, ∀ D, mg n = some (.ref D) → PySem.W.exmOne K (.ref D) (.ref e_PlateError) = some true
abbrev TBs (K : PySem.W.Frag) (mg : Str → Option Value) (base : Heap) : Prop := ∀ p ∈ tfL, LamX.TabB base mg (He.cT K p).1 (He.cT K p).2
section
variable {P : Program} {w : World} {K : PySem.W.Frag} {mg : Str → Option Value} {base : Heap} (T : Txt K mg)
def F_is_whole : List PyData → M PyData
  | [a0] => L.is_whole a0
  | _ => bad
theorem ok_is_whole : ZFn P w K mg base 1 T.a_is_whole T.fd_is_whole ["thing"] (VSp (lamTs K tfL) mg [.d] false F_is_whole) :=
  vfnD T.F_is_whole sc_is_whole rfl fun cdv hcd A outer s H E S Ez ps0 hG hr tk gl ds hd => match ds, hd with
    | [a0], _ => ⟨0, _, rfl, (s_ret (f_and (f_isi .int T.n_isinstance (pe_ty .int T.n_int) (fl_at (f_v 0) fl_nil)) (f_one (f_not (f_isi .bool T.n_isinstance (pe_ty .bool T.n_bool) (fl_at (f_v 0) fl_nil))))))⟩
def F_divisor : List PyData → M PyData
  | [a0, a1] => L.divisor a0 a1
  | _ => bad
theorem ok_divisor : ZFn P w K mg base 1 T.a_divisor T.fd_divisor ["one", "other"] (VSp (lamTs K tfL) mg [.d, .d] false F_divisor) :=
  vfnD T.F_divisor sc_divisor rfl fun cdv hcd A outer s H E S Ez ps0 hG hr tk gl ds hd => match ds, hd with
    | [a0, a1], _ => ⟨0, _, rfl, (s_par (i := 0) (j := 1) sc_divisor.nd (fa_cons (f_callB zabs v_abs T.n_abs bv_abs (fa_at (f_v 0) fa_nil)) (fun x8 => (fa_cons (f_callB zabs v_abs T.n_abs bv_abs (fa_at (f_v 1) fa_nil)) (fun x9 => fa_nil)))) (fun u1 => (s_while (emb1 := fun (t2 : PyData × PyData) => [some (.d t2.1), some (.d t2.2)]) (passes_of rfl) (fun t2 => (t_cmp zgt o_gt (fl_at (f_v 1) (fl_at f_int fl_nil)))) (fun t2 => (s_par (i := 0) (j := 1) sc_divisor.nd (fa_at (f_v 1) (fa_cons (f_sub (fl_at (f_v 0) (fl_cons (f_mul (fl_cons (f_fdiv (fl_at (f_v 0) (fl_at (f_v 1) fl_nil))) (fun x4 => (fl_at (f_v 1) fl_nil)))) (fun x5 => fl_nil)))) (fun x6 => fa_nil))) (fun u3 => (s_end (Fg.of ⟨rfl, rfl, trivial⟩))))) (Fg.of ⟨rfl, rfl, trivial⟩) (fun t2 => (s_ret (f_v 0))))))⟩
def F_is_fraction : List PyData → M PyData
  | [a0] => L.is_fraction a0
  | _ => bad
theorem ok_is_fraction : ZFn P w K mg base 2 T.a_is_fraction T.fd_is_fraction ["thing"] (VSp (lamTs K tfL) mg [.d] false F_is_fraction) :=
  vfnD T.F_is_fraction sc_is_fraction rfl fun cdv hcd A outer s H E S Ez ps0 hG hr tk gl ds hd => match ds, hd with
    | [a0], _ => ⟨0, _, rfl, (s_if (FW.t (w_or (t_not (t_val (f_isi .tuple T.n_isinstance (pe_ty .tuple T.n_tuple) (fl_at (f_v 0) fl_nil)))) (w_or (t_cmp (zne hr) o_ne (fl_cons (f_callB zlen v_len T.n_len bv_len (fa_at (f_v 0) fa_nil)) (fun x6 => (fl_at f_int fl_nil)))) (w_or1 (t_not (t_val (f_callB zall v_all T.n_all bv_all (fa_cons (f_lc sc_is_fraction.nd (i_row (f_v 0)) (blkOk_by (own := [("part", 1)]) (N := N_is_fraction) (sc := defScope s_is_fraction) (by decide +kernel)) (fun _ _ _ _ _ => (zg_name (i := 1) sc_is_fraction.nd)) (go_name (i := 1)) ts_nil (fun _ _ _ _ _ t1 => (f_call (ok_is_whole T) hG (hr.mono (by decide)) T.m_is_whole T.F_is_whole.kp T.b_is_whole tk0 (fa_at (f_v 1) fa_nil)))) (fun x5 => fa_nil))))))))) (s_ret f_bl) (s_pop (s_ret (f_and (f_cmp zgt o_gt (fl_cons (f_ix (fl_at (f_v 0) (fl_at f_int fl_nil))) (fun x12 => (fl_at f_int fl_nil)))) (f_one (f_cmp (zeq hr) o_eq (fl_cons (f_call (ok_divisor T) hG (hr.mono (by decide)) T.m_divisor T.F_divisor.kp T.b_divisor tk (fa_cons (f_ix (fl_at (f_v 0) (fl_at f_int fl_nil))) (fun x9 => (fa_cons (f_ix (fl_at (f_v 0) (fl_at f_int fl_nil))) (fun x10 => fa_nil))))) (fun x11 => (fl_at f_int fl_nil)))))))))⟩
def F_need_whole : List PyData → M PyData
  | [a0] => L.need_whole a0
  | _ => bad
theorem ok_need_whole : ZFn P w K mg base 2 T.a_need_whole T.fd_need_whole ["thing"] (VSp (lamTs K tfL) mg [.d] false F_need_whole) :=
  vfnD T.F_need_whole sc_need_whole rfl fun cdv hcd A outer s H E S Ez ps0 hG hr tk gl ds hd => match ds, hd with
    | [a0], _ => ⟨0, _, rfl, (s_if (t_not (t_val (f_call (ok_is_whole T) hG (hr.mono (by decide)) T.m_is_whole T.F_is_whole.kp T.b_is_whole tk (fa_at (f_v 0) fa_nil)))) (s_raise tk PySem.F.excBase_ValueError T.x_NoWhole T.m_NoWhole T.k_NoWhole (raises_own T.s_NoWhole T.t_NoWhole)) (s_pop s_end0))⟩
def F_need_fraction : List PyData → M PyData
  | [a0] => L.need_fraction a0
  | _ => bad
theorem ok_need_fraction : ZFn P w K mg base 3 T.a_need_fraction T.fd_need_fraction ["thing"] (VSp (lamTs K tfL) mg [.d] false F_need_fraction) :=
  vfnD T.F_need_fraction sc_need_fraction rfl fun cdv hcd A outer s H E S Ez ps0 hG hr tk gl ds hd => match ds, hd with
    | [a0], _ => ⟨0, _, rfl, (s_if (t_not (t_val (f_call (ok_is_fraction T) hG (hr.mono (by decide)) T.m_is_fraction T.F_is_fraction.kp T.b_is_fraction tk (fa_at (f_v 0) fa_nil)))) (s_raise tk PySem.F.excBase_ValueError T.x_NoFraction T.m_NoFraction T.k_NoFraction (raises_own T.s_NoFraction T.t_NoFraction)) (s_pop s_end0))⟩
def F_made_by : List PyData → M PyData
  | [a0, a1] => L.made_by a0 a1
  | _ => bad
theorem ok_made_by : ZFn P w K mg base 2 T.a_made_by T.fd_made_by ["top", "bottom"] (VSp (lamTs K tfL) mg [.d, .d] false F_made_by) :=
  vfnD T.F_made_by sc_made_by rfl fun cdv hcd A outer s H E S Ez ps0 hG hr tk gl ds hd => match ds, hd with
    | [a0, a1], _ => ⟨0, _, rfl, (s_set 2 sc_made_by.nd (f_call (ok_divisor T) hG (hr.mono (by decide)) T.m_divisor T.F_divisor.kp T.b_divisor tk (fa_at (f_v 0) (fa_at (f_v 1) fa_nil))) (fun v1 => (s_join (emb1 := fun (t3 : PyData) => [some (.d a0), some (.d a1), some (.d t3)]) (t_cmp zlt o_lt (fl_at (f_v 1) (fl_at f_int fl_nil))) (s_set 2 sc_made_by.nd (f_neg (fl_at (f_v 2) fl_nil)) (fun v4 => (s_end (Fg.of ⟨rfl, rfl, rfl, trivial⟩)))) (s_end (Fg.of ⟨rfl, rfl, rfl, trivial⟩)) (fun t3 => (s_ret (f_tup (fa_cons (f_fdiv (fl_at (f_v 0) (fl_at (f_v 2) fl_nil))) (fun x5 => (fa_cons (f_fdiv (fl_at (f_v 1) (fl_at (f_v 2) fl_nil))) (fun x6 => fa_nil))))))))))⟩
def F_plus_by : List PyData → M PyData
  | [a0, a1] => L.plus_by a0 a1
  | _ => bad
theorem ok_plus_by : ZFn P w K mg base 3 T.a_plus_by T.fd_plus_by ["one", "other"] (VSp (lamTs K tfL) mg [.d, .d] false F_plus_by) :=
  vfnD T.F_plus_by sc_plus_by rfl fun cdv hcd A outer s H E S Ez ps0 hG hr tk gl ds hd => match ds, hd with
    | [a0, a1], _ => ⟨0, _, rfl, (s_ret (f_call (ok_made_by T) hG (hr.mono (by decide)) T.m_made_by T.F_made_by.kp T.b_made_by tk (fa_cons (f_add (fl_cons (f_mul (fl_cons (f_ix (fl_at (f_v 0) (fl_at f_int fl_nil))) (fun x1 => (fl_cons (f_ix (fl_at (f_v 1) (fl_at f_int fl_nil))) (fun x2 => fl_nil))))) (fun x3 => (fl_cons (f_mul (fl_cons (f_ix (fl_at (f_v 1) (fl_at f_int fl_nil))) (fun x4 => (fl_cons (f_ix (fl_at (f_v 0) (fl_at f_int fl_nil))) (fun x5 => fl_nil))))) (fun x6 => fl_nil))))) (fun x7 => (fa_cons (f_mul (fl_cons (f_ix (fl_at (f_v 0) (fl_at f_int fl_nil))) (fun x8 => (fl_cons (f_ix (fl_at (f_v 1) (fl_at f_int fl_nil))) (fun x9 => fl_nil))))) (fun x10 => fa_nil))))))⟩
def F_minus_by : List PyData → M PyData
  | [a0, a1] => L.minus_by a0 a1
  | _ => bad
theorem ok_minus_by : ZFn P w K mg base 3 T.a_minus_by T.fd_minus_by ["one", "other"] (VSp (lamTs K tfL) mg [.d, .d] false F_minus_by) :=
  vfnD T.F_minus_by sc_minus_by rfl fun cdv hcd A outer s H E S Ez ps0 hG hr tk gl ds hd => match ds, hd with
    | [a0, a1], _ => ⟨0, _, rfl, (s_ret (f_call (ok_made_by T) hG (hr.mono (by decide)) T.m_made_by T.F_made_by.kp T.b_made_by tk (fa_cons (f_sub (fl_cons (f_mul (fl_cons (f_ix (fl_at (f_v 0) (fl_at f_int fl_nil))) (fun x1 => (fl_cons (f_ix (fl_at (f_v 1) (fl_at f_int fl_nil))) (fun x2 => fl_nil))))) (fun x3 => (fl_cons (f_mul (fl_cons (f_ix (fl_at (f_v 1) (fl_at f_int fl_nil))) (fun x4 => (fl_cons (f_ix (fl_at (f_v 0) (fl_at f_int fl_nil))) (fun x5 => fl_nil))))) (fun x6 => fl_nil))))) (fun x7 => (fa_cons (f_mul (fl_cons (f_ix (fl_at (f_v 0) (fl_at f_int fl_nil))) (fun x8 => (fl_cons (f_ix (fl_at (f_v 1) (fl_at f_int fl_nil))) (fun x9 => fl_nil))))) (fun x10 => fa_nil))))))⟩
def F_times_by : List PyData → M PyData
  | [a0, a1] => L.times_by a0 a1
  | _ => bad
theorem ok_times_by : ZFn P w K mg base 3 T.a_times_by T.fd_times_by ["one", "other"] (VSp (lamTs K tfL) mg [.d, .d] false F_times_by) :=
  vfnD T.F_times_by sc_times_by rfl fun cdv hcd A outer s H E S Ez ps0 hG hr tk gl ds hd => match ds, hd with
    | [a0, a1], _ => ⟨0, _, rfl, (s_ret (f_call (ok_made_by T) hG (hr.mono (by decide)) T.m_made_by T.F_made_by.kp T.b_made_by tk (fa_cons (f_mul (fl_cons (f_ix (fl_at (f_v 0) (fl_at f_int fl_nil))) (fun x1 => (fl_cons (f_ix (fl_at (f_v 1) (fl_at f_int fl_nil))) (fun x2 => fl_nil))))) (fun x3 => (fa_cons (f_mul (fl_cons (f_ix (fl_at (f_v 0) (fl_at f_int fl_nil))) (fun x4 => (fl_cons (f_ix (fl_at (f_v 1) (fl_at f_int fl_nil))) (fun x5 => fl_nil))))) (fun x6 => fa_nil))))))⟩
def F_over_by : List PyData → M PyData
  | [a0, a1] => L.over_by a0 a1
  | _ => bad
theorem ok_over_by : ZFn P w K mg base 3 T.a_over_by T.fd_over_by ["one", "other"] (VSp (lamTs K tfL) mg [.d, .d] false F_over_by) :=
  vfnD T.F_over_by sc_over_by rfl fun cdv hcd A outer s H E S Ez ps0 hG hr tk gl ds hd => match ds, hd with
    | [a0, a1], _ => ⟨0, _, rfl, (s_ret (f_call (ok_made_by T) hG (hr.mono (by decide)) T.m_made_by T.F_made_by.kp T.b_made_by tk (fa_cons (f_mul (fl_cons (f_ix (fl_at (f_v 0) (fl_at f_int fl_nil))) (fun x1 => (fl_cons (f_ix (fl_at (f_v 1) (fl_at f_int fl_nil))) (fun x2 => fl_nil))))) (fun x3 => (fa_cons (f_mul (fl_cons (f_ix (fl_at (f_v 0) (fl_at f_int fl_nil))) (fun x4 => (fl_cons (f_ix (fl_at (f_v 1) (fl_at f_int fl_nil))) (fun x5 => fl_nil))))) (fun x6 => fa_nil))))))⟩
def F_less_by : List PyData → M PyData
  | [a0, a1] => L.less_by a0 a1
  | _ => bad
theorem ok_less_by : ZFn P w K mg base 1 T.a_less_by T.fd_less_by ["one", "other"] (VSp (lamTs K tfL) mg [.d, .d] false F_less_by) :=
  vfnD T.F_less_by sc_less_by rfl fun cdv hcd A outer s H E S Ez ps0 hG hr tk gl ds hd => match ds, hd with
    | [a0, a1], _ => ⟨0, _, rfl, (s_ret (f_cmp zlt o_lt (fl_cons (f_mul (fl_cons (f_ix (fl_at (f_v 0) (fl_at f_int fl_nil))) (fun x1 => (fl_cons (f_ix (fl_at (f_v 1) (fl_at f_int fl_nil))) (fun x2 => fl_nil))))) (fun x3 => (fl_cons (f_mul (fl_cons (f_ix (fl_at (f_v 1) (fl_at f_int fl_nil))) (fun x4 => (fl_cons (f_ix (fl_at (f_v 0) (fl_at f_int fl_nil))) (fun x5 => fl_nil))))) (fun x6 => fl_nil))))))⟩
def F_made : List PyData → M PyData
  | [a0, a1] => L.made a0 a1
  | _ => bad
theorem ok_made : ZFn P w K mg base 3 T.a_made T.fd_made ["top", "bottom"] (VSp (lamTs K tfL) mg [.d, .d] false F_made) :=
  vfnD T.F_made sc_made rfl fun cdv hcd A outer s H E S Ez ps0 hG hr tk gl ds hd => match ds, hd with
    | [a0, a1], _ => ⟨0, _, rfl, (s_expr (f_call (ok_need_whole T) hG (hr.mono (by decide)) T.m_need_whole T.F_need_whole.kp T.b_need_whole tk (fa_at (f_v 0) fa_nil)) (fun _u4 => (s_expr (f_call (ok_need_whole T) hG (hr.mono (by decide)) T.m_need_whole T.F_need_whole.kp T.b_need_whole tk (fa_at (f_v 1) fa_nil)) (fun _u3 => (s_if (t_cmp (zeq hr) o_eq (fl_at (f_v 1) (fl_at f_int fl_nil))) (s_raise tk PySem.F.excBase_ValueError T.x_NoWhole T.m_NoWhole T.k_NoWhole (raises_own T.s_NoWhole T.t_NoWhole)) (s_pop (s_ret (f_call (ok_made_by T) hG (hr.mono (by decide)) T.m_made_by T.F_made_by.kp T.b_made_by tk (fa_at (f_v 0) (fa_at (f_v 1) fa_nil))))))))))⟩
def F_need_two : List PyData → M PyData
  | [a0, a1] => L.need_two a0 a1
  | _ => bad
theorem ok_need_two : ZFn P w K mg base 4 T.a_need_two T.fd_need_two ["one", "other"] (VSp (lamTs K tfL) mg [.d, .d] false F_need_two) :=
  vfnD T.F_need_two sc_need_two rfl fun cdv hcd A outer s H E S Ez ps0 hG hr tk gl ds hd => match ds, hd with
    | [a0, a1], _ => ⟨0, _, rfl, (s_expr (f_call (ok_need_fraction T) hG (hr.mono (by decide)) T.m_need_fraction T.F_need_fraction.kp T.b_need_fraction tk (fa_at (f_v 0) fa_nil)) (fun _u2 => (s_expr (f_call (ok_need_fraction T) hG (hr.mono (by decide)) T.m_need_fraction T.F_need_fraction.kp T.b_need_fraction tk (fa_at (f_v 1) fa_nil)) (fun _u1 => s_end0))))⟩
def F_plus : List PyData → M PyData
  | [a0, a1] => L.plus a0 a1
  | _ => bad
theorem ok_plus : ZFn P w K mg base 5 T.a_plus T.fd_plus ["one", "other"] (VSp (lamTs K tfL) mg [.d, .d] false F_plus) :=
  vfnD T.F_plus sc_plus rfl fun cdv hcd A outer s H E S Ez ps0 hG hr tk gl ds hd => match ds, hd with
    | [a0, a1], _ => ⟨0, _, rfl, (s_expr (f_call (ok_need_two T) hG (hr.mono (by decide)) T.m_need_two T.F_need_two.kp T.b_need_two tk (fa_at (f_v 0) (fa_at (f_v 1) fa_nil))) (fun _u2 => (s_ret (f_call (ok_plus_by T) hG (hr.mono (by decide)) T.m_plus_by T.F_plus_by.kp T.b_plus_by tk (fa_at (f_v 0) (fa_at (f_v 1) fa_nil))))))⟩
def F_minus : List PyData → M PyData
  | [a0, a1] => L.minus a0 a1
  | _ => bad
theorem ok_minus : ZFn P w K mg base 5 T.a_minus T.fd_minus ["one", "other"] (VSp (lamTs K tfL) mg [.d, .d] false F_minus) :=
  vfnD T.F_minus sc_minus rfl fun cdv hcd A outer s H E S Ez ps0 hG hr tk gl ds hd => match ds, hd with
    | [a0, a1], _ => ⟨0, _, rfl, (s_expr (f_call (ok_need_two T) hG (hr.mono (by decide)) T.m_need_two T.F_need_two.kp T.b_need_two tk (fa_at (f_v 0) (fa_at (f_v 1) fa_nil))) (fun _u2 => (s_ret (f_call (ok_minus_by T) hG (hr.mono (by decide)) T.m_minus_by T.F_minus_by.kp T.b_minus_by tk (fa_at (f_v 0) (fa_at (f_v 1) fa_nil))))))⟩
def F_times : List PyData → M PyData
  | [a0, a1] => L.times a0 a1
  | _ => bad
theorem ok_times : ZFn P w K mg base 5 T.a_times T.fd_times ["one", "other"] (VSp (lamTs K tfL) mg [.d, .d] false F_times) :=
  vfnD T.F_times sc_times rfl fun cdv hcd A outer s H E S Ez ps0 hG hr tk gl ds hd => match ds, hd with
    | [a0, a1], _ => ⟨0, _, rfl, (s_expr (f_call (ok_need_two T) hG (hr.mono (by decide)) T.m_need_two T.F_need_two.kp T.b_need_two tk (fa_at (f_v 0) (fa_at (f_v 1) fa_nil))) (fun _u2 => (s_ret (f_call (ok_times_by T) hG (hr.mono (by decide)) T.m_times_by T.F_times_by.kp T.b_times_by tk (fa_at (f_v 0) (fa_at (f_v 1) fa_nil))))))⟩
def F_over : List PyData → M PyData
  | [a0, a1] => L.over a0 a1
  | _ => bad
theorem ok_over : ZFn P w K mg base 5 T.a_over T.fd_over ["one", "other"] (VSp (lamTs K tfL) mg [.d, .d] false F_over) :=
  vfnD T.F_over sc_over rfl fun cdv hcd A outer s H E S Ez ps0 hG hr tk gl ds hd => match ds, hd with
    | [a0, a1], _ => ⟨0, _, rfl, (s_expr (f_call (ok_need_two T) hG (hr.mono (by decide)) T.m_need_two T.F_need_two.kp T.b_need_two tk (fa_at (f_v 0) (fa_at (f_v 1) fa_nil))) (fun _u3 => (s_if (t_cmp (zeq hr) o_eq (fl_at (f_v 1) (fl_at (f_of (T.g_NOUGHT rfl rfl rfl)) fl_nil))) (s_raise tk PySem.F.excBase_ValueError T.x_NoFraction T.m_NoFraction T.k_NoFraction (raises_own T.s_NoFraction T.t_NoFraction)) (s_pop (s_ret (f_call (ok_over_by T) hG (hr.mono (by decide)) T.m_over_by T.F_over_by.kp T.b_over_by tk (fa_at (f_v 0) (fa_at (f_v 1) fa_nil))))))))⟩
def F_less : List PyData → M PyData
  | [a0, a1] => L.less a0 a1
  | _ => bad
theorem ok_less : ZFn P w K mg base 5 T.a_less T.fd_less ["one", "other"] (VSp (lamTs K tfL) mg [.d, .d] false F_less) :=
  vfnD T.F_less sc_less rfl fun cdv hcd A outer s H E S Ez ps0 hG hr tk gl ds hd => match ds, hd with
    | [a0, a1], _ => ⟨0, _, rfl, (s_expr (f_call (ok_need_two T) hG (hr.mono (by decide)) T.m_need_two T.F_need_two.kp T.b_need_two tk (fa_at (f_v 0) (fa_at (f_v 1) fa_nil))) (fun _u2 => (s_ret (f_call (ok_less_by T) hG (hr.mono (by decide)) T.m_less_by T.F_less_by.kp T.b_less_by tk (fa_at (f_v 0) (fa_at (f_v 1) fa_nil))))))⟩
def F__law_cell_at : List PyData → M PyData
  | [a0, a1] => L.law_cell_at a0 a1
  | _ => bad
theorem ok__law_cell_at : ZFn P w K mg base 1 T.a__law_cell_at T.fd__law_cell_at ["_law_script", "_law_k"] (VSp (lamTs K tfL) mg [.k, .d] false F__law_cell_at) :=
  vfnD T.F__law_cell_at sc__law_cell_at rfl fun cdv hcd A outer s H E S Ez ps0 hG hr tk gl ds hd => match ds, hd with
    | [a0, a1], _ => ⟨0, _, rfl, (s_if (t_cmp zlt o_lt (fl_at (f_v 1) (fl_cons (f_callB zlen v_len T.n_len bv_len (fa_c 0 (.k (unl a0)) fa_nil)) (fun x1 => fl_nil)))) (s_ret (f_ix (fl_c 0 (.k (unl a0)) rfl (fl_at (f_v 1) fl_nil)))) (s_pop (s_ret f_int)))⟩
def F__law_state : List PyData → M PyData
  | [a0, a1] => L.law_state a0 a1
  | _ => bad
theorem ok__law_state : ZFn P w K mg base 2 T.a__law_state T.fd__law_state ["_law_script", "_law_k"] (VSp (lamTs K tfL) mg [.k, .d] true F__law_state) :=
  vfnD T.F__law_state sc__law_state rfl fun cdv hcd A outer s H E S Ez ps0 hG hr tk gl ds hd => match ds, hd with
    | [a0, a1], _ => ⟨0, _, rfl, (s_set 2 sc__law_state.nd (f_call (ok__law_cell_at T) hG (hr.mono (by decide)) T.m__law_cell_at T.F__law_cell_at.kp T.b__law_cell_at tk (fa_c 0 (.k (unl a0)) (fa_at (f_v 1) fa_nil))) (fun v1 => (s_retL (n_lst (fa_cons (f_callB zmax v_max T.n_max bv_max (fa_at f_int (fa_cons (f_sub (fl_at (f_v 2) (fl_cons (f_pow (fl_at f_int (fl_at f_int fl_nil))) (fun x2 => fl_nil)))) (fun x3 => fa_nil)))) (fun x4 => (fa_cons (f_add (fl_cons (f_mod (fl_at (f_v 2) (fl_at f_int fl_nil))) (fun x5 => (fl_at f_int fl_nil)))) (fun x6 => (fa_at f_int fa_nil)))))))))⟩
def F__law_choice : List PyData → M PyData
  | [a0] => L.law_choice a0
  | _ => bad
theorem ok__law_choice : ZFn P w K mg base 1 T.a__law_choice T.fd__law_choice ["_law_state_here", "_law_many"] (VSp (lamTs K tfL) mg [.c, .d] false F__law_choice) :=
  vfnD T.F__law_choice sc__law_choice rfl fun cdv hcd A outer s H E S Ez ps0 hG hr tk gl ds hd => match ds, hd with
    | [a0], _ => ⟨0, _, rfl, (s_if (t_cmp zgt o_gt (fl_cons (f_ix (fl_c 0 (.c 0) rfl (fl_at f_int fl_nil))) (fun x2 => (fl_at f_int fl_nil)))) (s_set 3 sc__law_choice.nd (f_mod (fl_cons (f_ix (fl_c 0 (.c 0) rfl (fl_at f_int fl_nil))) (fun x6 => (fl_at (f_v 1) fl_nil)))) (fun v4 => (s_sub 0 0 (f_fdiv (fl_cons (f_ix (fl_c 0 (.c 0) rfl (fl_at f_int fl_nil))) (fun x8 => (fl_at (f_v 1) fl_nil)))) f_int (s_ret (f_v 3))))) (s_pop (s_sub 0 0 (f_add (fl_cons (f_ix (fl_c 0 (.c 0) rfl (fl_at f_int fl_nil))) (fun x13 => (fl_at f_int fl_nil)))) f_int (s_sub 0 0 (f_mod (fl_cons (f_add (fl_cons (f_add (fl_cons (f_mul (fl_cons (f_ix (fl_c 0 (.c 0) rfl (fl_at f_int fl_nil))) (fun x15 => (fl_at f_int fl_nil)))) (fun x16 => (fl_at f_int fl_nil)))) (fun x17 => (fl_cons (f_ix (fl_c 0 (.c 0) rfl (fl_at f_int fl_nil))) (fun x19 => fl_nil))))) (fun x20 => (fl_at f_int fl_nil)))) f_int (s_set 2 sc__law_choice.nd (f_mod (fl_cons (f_add (fl_cons (f_add (fl_cons (f_mul (fl_cons (f_ix (fl_c 0 (.c 0) rfl (fl_at f_int fl_nil))) (fun x23 => (fl_cons (f_ix (fl_c 0 (.c 0) rfl (fl_at f_int fl_nil))) (fun x25 => fl_nil))))) (fun x26 => (fl_cons (f_mul (fl_at f_int (fl_cons (f_ix (fl_c 0 (.c 0) rfl (fl_at f_int fl_nil))) (fun x28 => fl_nil)))) (fun x29 => fl_nil))))) (fun x30 => (fl_at f_int fl_nil)))) (fun x31 => (fl_at f_int fl_nil)))) (fun v21 => (s_set 2 sc__law_choice.nd (f_mod (fl_cons (f_add (fl_cons (f_mul (fl_at (f_v 2) (fl_at (f_v 2) fl_nil))) (fun x33 => (fl_cons (f_mul (fl_at f_int (fl_at (f_v 2) fl_nil))) (fun x34 => fl_nil))))) (fun x35 => (fl_at f_int fl_nil)))) (fun v32 => (s_ret (f_mod (fl_cons (f_fdiv (fl_at (f_v 2) (fl_at f_int fl_nil))) (fun x36 => (fl_at (f_v 1) fl_nil)))))))))))))⟩
def F__law_low : List PyData → M PyData
  | [a0, a1] => L.law_low a0 a1
  | _ => bad
theorem ok__law_low : ZFn P w K mg base 1 T.a__law_low T.fd__law_low ["_law_top", "_law_bottom"] (VSp (lamTs K tfL) mg [.d, .d] false F__law_low) :=
  vfnD T.F__law_low sc__law_low rfl fun cdv hcd A outer s H E S Ez ps0 hG hr tk gl ds hd => match ds, hd with
    | [a0, a1], _ => ⟨0, _, rfl, (s_par (i := 2) (j := 3) sc__law_low.nd (fa_cons (f_callB zabs v_abs T.n_abs bv_abs (fa_at (f_v 0) fa_nil)) (fun x11 => (fa_cons (f_callB zabs v_abs T.n_abs bv_abs (fa_at (f_v 1) fa_nil)) (fun x12 => fa_nil)))) (fun u1 => (s_while (emb1 := fun (t2 : PyData × PyData) => [some (.d a0), some (.d a1), some (.d t2.1), some (.d t2.2)]) (passes_of rfl) (fun t2 => (t_cmp zgt o_gt (fl_at (f_v 3) (fl_at f_int fl_nil)))) (fun t2 => (s_par (i := 2) (j := 3) sc__law_low.nd (fa_at (f_v 3) (fa_cons (f_mod (fl_at (f_v 2) (fl_at (f_v 3) fl_nil))) (fun x4 => fa_nil))) (fun u3 => (s_end (Fg.of ⟨rfl, rfl, rfl, rfl, trivial⟩))))) (Fg.of ⟨rfl, rfl, rfl, rfl, trivial⟩) (fun t2 => (s_ret (f_tup (fa_cons (f_if (t_cmp zgt o_gt (fl_at (f_v 1) (fl_at f_int fl_nil))) (f_fdiv (fl_at (f_v 0) (fl_at (f_v 2) fl_nil))) (f_sub (fl_at f_int (fl_cons (f_fdiv (fl_at (f_v 0) (fl_at (f_v 2) fl_nil))) (fun x5 => fl_nil))))) (fun x7 => (fa_cons (f_fdiv (fl_cons (f_callB zabs v_abs T.n_abs bv_abs (fa_at (f_v 1) fa_nil)) (fun x8 => (fl_at (f_v 2) fl_nil)))) (fun x9 => fa_nil))))))))))⟩
def F__law_fraction : List PyData → M PyData
  | [] => L.law_fraction
  | _ => bad
theorem ok__law_fraction : ZFn P w K mg base 2 T.a__law_fraction T.fd__law_fraction ["_law_state_here"] (VSp (lamTs K tfL) mg [.c] false F__law_fraction) :=
  vfnD T.F__law_fraction sc__law_fraction rfl fun cdv hcd A outer s H E S Ez ps0 hG hr tk gl ds hd => match ds, hd with
    | [], _ => ⟨0, _, rfl, (s_set 1 sc__law_fraction.nd (f_sub (fl_cons (f_call (ok__law_choice T) hG (hr.mono (by decide)) T.m__law_choice T.F__law_choice.kp T.b__law_choice tk (fa_c 0 (.c 0) (fa_at f_int fa_nil))) (fun x2 => (fl_at f_int fl_nil)))) (fun v1 => (s_set 2 sc__law_fraction.nd (f_call (ok__law_choice T) hG (hr.mono (by decide)) T.m__law_choice T.F__law_choice.kp T.b__law_choice tk (fa_c 0 (.c 0) (fa_at f_int fa_nil))) (fun v3 => (s_if (t_cmp zlt o_lt (fl_at (f_v 2) (fl_at f_int fl_nil))) (s_ret (f_ix (fl_cons (f_lst (fa_cons (f_tup (fa_at f_int (fa_at f_int fa_nil))) (fun x5 => (fa_cons (f_tup (fa_at f_int (fa_at f_int fa_nil))) (fun x6 => (fa_cons (f_tup (fa_at (f_v 1) (fa_at f_int fa_nil))) (fun x7 => fa_nil))))))) (fun x8 => (fl_at (f_v 2) fl_nil))))) (s_pop (s_ret (f_call (ok__law_low T) hG (hr.mono (by decide)) T.m__law_low T.F__law_low.kp T.b__law_low tk (fa_cons (f_mul (fl_at (f_v 1) (fl_cons (f_ix (fl_cons (f_lst (fa_at f_int (fa_cons (f_add (fl_cons (f_pow (fl_at f_int (fl_at f_int fl_nil))) (fun x10 => (fl_at f_int fl_nil)))) (fun x11 => fa_nil)))) (fun x12 => (fl_cons (f_callT zint v_int T.n_int bv_int (fa_cons (f_cmp (zeq hr) o_eq (fl_cons (f_call (ok__law_choice T) hG (hr.mono (by decide)) T.m__law_choice T.F__law_choice.kp T.b__law_choice tk (fa_c 0 (.c 0) (fa_at f_int fa_nil))) (fun x13 => (fl_at f_int fl_nil)))) (fun x14 => fa_nil))) (fun x15 => fl_nil))))) (fun x16 => fl_nil)))) (fun x17 => (fa_cons (f_add (fl_at f_int (fl_cons (f_call (ok__law_choice T) hG (hr.mono (by decide)) T.m__law_choice T.F__law_choice.kp T.b__law_choice tk (fa_c 0 (.c 0) (fa_at f_int fa_nil))) (fun x18 => fl_nil)))) (fun x19 => fa_nil))))))))))))⟩
def F__law_odd : List PyData → M PyData
  | [] => L.law_odd
  | _ => bad
theorem ok__law_odd : ZFn P w K mg base 2 T.a__law_odd T.fd__law_odd ["_law_state_here"] (VSp (lamTs K tfL) mg [.c] false F__law_odd) :=
  vfnD T.F__law_odd sc__law_odd rfl fun cdv hcd A outer s H E S Ez ps0 hG hr tk gl ds hd => match ds, hd with
    | [], _ => ⟨0, _, rfl, (s_set 1 sc__law_odd.nd (f_lst (fa_at f_non (fa_at f_bl (fa_at f_bl (fa_at f_int (fa_at f_int (fa_cons (f_neg (fl_at f_int fl_nil)) (fun x2 => (fa_cons (f_pow (fl_at f_int (fl_at f_int fl_nil))) (fun x3 => (fa_at f_str (fa_at f_str (fa_cons (f_tup fa_nil) (fun x4 => (fa_cons (f_lst fa_nil) (fun x5 => (fa_cons f_dict0 (fun x6 => (fa_cons (f_tup (fa_at f_int (fa_at f_int fa_nil))) (fun x7 => (fa_cons (f_tup (fa_at f_int (fa_at f_int fa_nil))) (fun x8 => (fa_cons (f_lst (fa_at f_int (fa_at f_int fa_nil))) (fun x9 => fa_nil)))))))))))))))))))))))) (fun v1 => (s_ret (f_ix (fl_cons (f_add (fl_at (f_v 1) (fl_cons (f_lst (fa_cons (f_tup (fa_cons (f_tup (fa_at f_int (fa_at f_int fa_nil))) (fun x10 => fa_nil))) (fun x11 => (fa_cons (f_tup (fa_at f_int (fa_at f_int fa_nil))) (fun x12 => (fa_cons (f_tup (fa_at f_int (fa_at f_int fa_nil))) (fun x13 => (fa_cons (f_tup (fa_at f_int (fa_at f_int fa_nil))) (fun x14 => (fa_cons (f_tup (fa_at f_bl (fa_at f_int fa_nil))) (fun x15 => fa_nil))))))))))) (fun x16 => fl_nil)))) (fun x17 => (fl_cons (f_call (ok__law_choice T) hG (hr.mono (by decide)) T.m__law_choice T.F__law_choice.kp T.b__law_choice tk (fa_c 0 (.c 0) (fa_at f_int fa_nil))) (fun x18 => fl_nil))))))))⟩
theorem okx__law_marks : FnX P w K mg base 1 T.a__law_marks T.fd__law_marks "_law_e" exNames L.law_marks2 :=
  vfnX T.F__law_marks sc__law_marks fun cdv A outer s H p n S hr hn hx =>
    have gl : ([] : List Addr).length = 0 := rfl
    ⟨1, _, rfl, (s_setC 1 0 (by rw [gl]; decide) sc__law_marks.nd (n_lst (fa_cons (f_isX 0 T.xt hx hn T.n_isinstance T.m_NoBalance) (fun x1 => (fa_cons (f_isX 0 T.xt hx hn T.n_isinstance T.m_NoDeed) (fun x2 => (fa_cons (f_isX 0 T.xt hx hn T.n_isinstance T.m_NoDeeds) (fun x3 => (fa_cons (f_isX 0 T.xt hx hn T.n_isinstance T.m_NoFirm) (fun x4 => fa_nil))))))))) (s_setC 1 0 (by rw [gl]; decide) sc__law_marks.nd (n_cat (fl_c 1 (.c 0) rfl (fl_cons (f_lst (fa_cons (f_isX 0 T.xt hx hn T.n_isinstance T.m_NoFraction) (fun x5 => (fa_cons (f_isX 0 T.xt hx hn T.n_isinstance T.m_NoFrame) (fun x6 => (fa_cons (f_isX 0 T.xt hx hn T.n_isinstance T.m_NoHolding) (fun x7 => fa_nil))))))) (fun x8 => fl_nil)))) (s_setC 1 0 (by rw [gl]; decide) sc__law_marks.nd (n_cat (fl_c 1 (.c 0) rfl (fl_cons (f_lst (fa_cons (f_isX 0 T.xt hx hn T.n_isinstance T.m_NoInner) (fun x10 => (fa_cons (f_isX 0 T.xt hx hn T.n_isinstance T.m_NoLine) (fun x11 => (fa_cons (f_isX 0 T.xt hx hn T.n_isinstance T.m_NoLoads) (fun x12 => fa_nil))))))) (fun x13 => fl_nil)))) (s_expr (f_app 1 0 (f_isX 0 T.xt hx hn T.n_isinstance T.m_NoLot)) (fun _u50 => (s_setC 1 0 (by rw [gl]; decide) sc__law_marks.nd (n_cat (fl_c 1 (.c 0) rfl (fl_cons (f_lst (fa_cons (f_isX 0 T.xt hx hn T.n_isinstance T.m_NoMotions) (fun x17 => (fa_cons (f_isX 0 T.xt hx hn T.n_isinstance T.m_NoPiece) (fun x18 => (fa_cons (f_isX 0 T.xt hx hn T.n_isinstance T.m_NoPlate) (fun x19 => fa_nil))))))) (fun x20 => fl_nil)))) (s_expr (f_app 1 0 (f_isX 0 T.xt hx hn T.n_isinstance T.m_NoRest)) (fun _u48 => (s_setC 1 0 (by rw [gl]; decide) sc__law_marks.nd (n_cat (fl_c 1 (.c 0) rfl (fl_cons (f_lst (fa_cons (f_isX 0 T.xt hx hn T.n_isinstance T.m_NoRounds) (fun x24 => (fa_cons (f_isX 0 T.xt hx hn T.n_isinstance T.m_NoRows) (fun x25 => (fa_cons (f_isX 0 T.xt hx hn T.n_isinstance T.m_NoStresses) (fun x26 => fa_nil))))))) (fun x27 => fl_nil)))) (s_expr (f_app 1 0 (f_isX 0 T.xt hx hn T.n_isinstance T.m_NoThick)) (fun _u46 => (s_setC 1 0 (by rw [gl]; decide) sc__law_marks.nd (n_cat (fl_c 1 (.c 0) rfl (fl_cons (f_lst (fa_cons (f_isX 0 T.xt hx hn T.n_isinstance T.m_NoTurning) (fun x31 => (fa_cons (f_isX 0 T.xt hx hn T.n_isinstance T.m_NoWay) (fun x32 => (fa_cons (f_isX 0 T.xt hx hn T.n_isinstance T.m_NoWays) (fun x33 => fa_nil))))))) (fun x34 => fl_nil)))) (s_expr (f_app 1 0 (f_isX 0 T.xt hx hn T.n_isinstance T.m_NoWhole)) (fun _u44 => (s_ret (f_cat (fl_c 1 (.c 0) rfl (fl_cons (f_lst (fa_cons (f_isX 0 T.xt hx hn T.n_isinstance T.m_NotHeld) (fun x38 => (fa_cons (f_isX 0 T.xt hx hn T.n_isinstance T.m_TooMany) (fun x39 => (fa_cons (f_isX 0 T.xt hx hn T.n_isinstance T.m_NoText) (fun x40 => fa_nil))))))) (fun x41 => fl_nil)))))))))))))))))))⟩
theorem okx__law_word : FnX P w K mg base 2 T.a__law_word T.fd__law_word "_law_e" exNames L.law_word2 :=
  vfnX T.F__law_word sc__law_word fun cdv A outer s H p n S hr hn hx =>
    have gl : ([] : List Addr).length = 0 := rfl
    ⟨0, _, rfl, (s_set 1 sc__law_word.nd (f_lst (fa_at f_str (fa_at f_str (fa_at f_str (fa_at f_str (fa_at f_str (fa_at f_str (fa_at f_str (fa_at f_str (fa_at f_str fa_nil)))))))))) (fun v1 => (s_set 1 sc__law_word.nd (f_add (fl_at (f_v 1) (fl_cons (f_lst (fa_at f_str (fa_at f_str fa_nil))) (fun x3 => fl_nil)))) (fun v2 => (s_set 1 sc__law_word.nd (f_add (fl_at (f_v 1) (fl_cons (f_lst (fa_at f_str (fa_at f_str (fa_at f_str (fa_at f_str (fa_at f_str (fa_at f_str (fa_at f_str (fa_at f_str fa_nil))))))))) (fun x5 => fl_nil)))) (fun v4 => (s_set 1 sc__law_word.nd (f_add (fl_at (f_v 1) (fl_cons (f_lst (fa_at f_str (fa_at f_str fa_nil))) (fun x7 => fl_nil)))) (fun v6 => (s_set 1 sc__law_word.nd (f_add (fl_at (f_v 1) (fl_cons (f_lst (fa_at f_str (fa_at f_str (fa_at f_str (fa_at f_str (fa_at f_str fa_nil)))))) (fun x9 => fl_nil)))) (fun v8 => (s_set 2 sc__law_word.nd (f_callX (okx__law_marks T) (hr.mono (by decide)) T.m__law_marks T.F__law_marks.kp T.b__law_marks hn hx 0) (fun v10 => (s_if (FW.t (w_or (t_cmp (zneU (units64H hr)) o_ne (fl_cons (f_meth PySem.F.plainAttrs_list PySem.F.slot_list_count PySem.F.type_list_count (mt_count (room65H hr)) (f_v 2) (fun x11 => (fa_at f_bl fa_nil))) (fun x12 => (fl_at f_int fl_nil)))) (w_or1 (t_not (t_val (f_isV 0 T.xt hx hn T.n_isinstance T.n_ValueError)))))) (s_ret (f_tup (fa_at f_str fa_nil))) (s_pop (s_set 3 sc__law_word.nd (f_ix (fl_at (f_v 1) (fl_cons (f_meth PySem.F.plainAttrs_list PySem.F.slot_list_index PySem.F.type_list_index (mt_indexO (room65H hr)) (f_v 2) (fun x16 => (fa_at f_bl fa_nil))) (fun x17 => fl_nil)))) (fun v15 => (s_if (t_cmp (zeqU (units64H hr)) o_eq (fl_at (f_v 3) (fl_at f_str fl_nil))) (s_ret f_bad) (s_pop (s_ret (f_if (t_cmp (zeqU (units64H hr)) o_eq (fl_at (f_v 3) (fl_at f_str fl_nil))) f_bad (f_tup (fa_at (f_v 3) fa_nil))))))))))))))))))))))⟩
noncomputable def said__law_said (kl : Nat) (hk : 2 ≤ kl + 1) : SaidD2 P w K mg base (lamTs K tfL) kl "_law_said" exNames L.law_word2 := {
      a := "_law_call",
      e := "_law_e",
      word := "_law_word",
      y := "_law_e",
      pa := _,
      pc := _,
      lp := _,
      pas := _,
      pE := _,
      pw := _,
      pe := _,
      pcw := _,
      pr := _,
      ph := _,
      pt := _,
      pg := _,
      sg := _,
      g := T.a__law_said,
      gw := T.a__law_word,
      PE := T.e_PlateError,
      fdg := T.fd__law_said,
      fdw := T.fd__law_word,
      kw := 2,
      F := T.F__law_said,
      Sc := sc__law_said,
      hm := T.m__law_said,
      hb := T.b__law_said,
      hW := okx__law_word T,
      hkl := hk,
      hmw := T.m__law_word,
      hkw := T.F__law_word.kp,
      hbw := T.b__law_word,
      hPE := T.m_PlateError,
      exm := T.xe,
      la := rfl,
      le := rfl,
      lP := rfl,
      lw := rfl,
      da := by decide,
      ca := by decide,
      de := by decide,
      ce := by decide,
      dw := by decide }
def F__law_whole : List PyData → M PyData
  | [a0] => L.law_whole a0
  | _ => bad
theorem ok__law_whole : ZFn P w K mg base 1 T.a__law_whole T.fd__law_whole ["_law_thing"] (VSp (lamTs K tfL) mg [.d] false F__law_whole) :=
  vfnD T.F__law_whole sc__law_whole rfl fun cdv hcd A outer s H E S Ez ps0 hG hr tk gl ds hd => match ds, hd with
    | [a0], _ => ⟨0, _, rfl, (s_ret (f_and (f_isi .int T.n_isinstance (pe_ty .int T.n_int) (fl_at (f_v 0) fl_nil)) (f_one (f_not (f_isi .bool T.n_isinstance (pe_ty .bool T.n_bool) (fl_at (f_v 0) fl_nil))))))⟩
def F__law_is_fraction : List PyData → M PyData
  | [a0] => L.law_is_fraction a0
  | _ => bad
theorem ok__law_is_fraction : ZFn P w K mg base 2 T.a__law_is_fraction T.fd__law_is_fraction ["_law_thing"] (VSp (lamTs K tfL) mg [.d] false F__law_is_fraction) :=
  vfnD T.F__law_is_fraction sc__law_is_fraction rfl fun cdv hcd A outer s H E S Ez ps0 hG hr tk gl ds hd => match ds, hd with
    | [a0], _ => ⟨0, _, rfl, (s_if (FW.t (w_or (t_not (t_val (f_isi .tuple T.n_isinstance (pe_ty .tuple T.n_tuple) (fl_at (f_v 0) fl_nil)))) (w_or (t_cmp (zne hr) o_ne (fl_cons (f_callB zlen v_len T.n_len bv_len (fa_at (f_v 0) fa_nil)) (fun x6 => (fl_at f_int fl_nil)))) (w_or1 (t_not (t_val (f_callB zall v_all T.n_all bv_all (fa_cons (f_lc sc__law_is_fraction.nd (i_row (f_v 0)) (blkOk_by (own := [("_law_one", 1)]) (N := N__law_is_fraction) (sc := defScope s__law_is_fraction) (by decide +kernel)) (fun _ _ _ _ _ => (zg_name (i := 1) sc__law_is_fraction.nd)) (go_name (i := 1)) ts_nil (fun _ _ _ _ _ t1 => (f_call (ok__law_whole T) hG (hr.mono (by decide)) T.m__law_whole T.F__law_whole.kp T.b__law_whole tk0 (fa_at (f_v 1) fa_nil)))) (fun x5 => fa_nil))))))))) (s_ret f_bl) (s_pop (s_ret (f_and (f_cmp zgt o_gt (fl_cons (f_ix (fl_at (f_v 0) (fl_at f_int fl_nil))) (fun x12 => (fl_at f_int fl_nil)))) (f_one (f_cmp (zeq hr) o_eq (fl_cons (f_call (ok__law_low T) hG (hr.mono (by decide)) T.m__law_low T.F__law_low.kp T.b__law_low tk (fa_cons (f_ix (fl_at (f_v 0) (fl_at f_int fl_nil))) (fun x9 => (fa_cons (f_ix (fl_at (f_v 0) (fl_at f_int fl_nil))) (fun x10 => fa_nil))))) (fun x11 => (fl_at (f_v 0) fl_nil)))))))))⟩
def F__law_bent (n : Nat) : List PyData → M PyData
  | [a0] => L.law_bent n a0
  | _ => bad
theorem ok__law_bent (n : Nat) : ZFn P w K mg base (3 + n) T.a__law_bent T.fd__law_bent ["_law_state_here", "_law_thing"] (VSp (lamTs K tfL) mg [.c, .d] false (F__law_bent n)) := by
  induction n with
  | zero => exact vbad T.F__law_bent sc__law_bent rfl fun ds => by unfold F__law_bent; split <;> rfl
  | succ n ih => exact vfnD (k := 3 + n) T.F__law_bent sc__law_bent rfl fun cdv hcd A outer s H E S Ez ps0 hG hr tk gl ds hd => match ds, hd with
    | [a0], _ => ⟨1, _, rfl, (s_if (FW.t (w_and (t_val (f_isi .tuple T.n_isinstance (pe_ty .tuple T.n_tuple) (fl_at (f_v 1) fl_nil))) (w_and (t_cmp (zne hr) o_ne (fl_at (f_v 1) (fl_cons (f_tup fa_nil) (fun x2 => fl_nil)))) (w_and1 (t_cmp zgt o_gt (fl_cons (f_call (ok__law_choice T) hG (hr.mono (by omega)) T.m__law_choice T.F__law_choice.kp T.b__law_choice tk (fa_c 0 (.c 0) (fa_at f_int fa_nil))) (fun x1 => (fl_at f_int fl_nil)))))))) (s_set 3 sc__law_bent.nd (f_call (ok__law_choice T) hG (hr.mono (by omega)) T.m__law_choice T.F__law_choice.kp T.b__law_choice tk (fa_c 0 (.c 0) (fa_cons (f_callB zlen v_len T.n_len bv_len (fa_at (f_v 1) fa_nil)) (fun x5 => fa_nil)))) (fun v4 => (s_ret (f_add (fl_cons (f_add (fl_cons (f_slH (fl_at (f_v 1) (fl_at (f_v 3) fl_nil))) (fun x6 => (fl_cons (f_tup (fa_cons (f_call ih hG (hr.mono (by omega)) T.m__law_bent T.F__law_bent.kp T.b__law_bent tk (fa_c 0 (.c 0) (fa_cons (f_ix (fl_at (f_v 1) (fl_at (f_v 3) fl_nil))) (fun x7 => fa_nil)))) (fun x8 => fa_nil))) (fun x9 => fl_nil))))) (fun x10 => (fl_cons (f_slL (fl_at (f_v 1) (fl_cons (f_add (fl_at (f_v 3) (fl_at f_int fl_nil))) (fun x11 => fl_nil)))) (fun x12 => fl_nil)))))))) (s_pop (s_set 2 sc__law_bent.nd (f_call (ok__law_choice T) hG (hr.mono (by omega)) T.m__law_choice T.F__law_choice.kp T.b__law_choice tk (fa_c 0 (.c 0) (fa_at f_int fa_nil))) (fun v14 => (s_if (FW.t (w_and (t_val (f_isi .tuple T.n_isinstance (pe_ty .tuple T.n_tuple) (fl_at (f_v 1) fl_nil))) (w_and1 (t_cmp zlt o_lt (fl_at (f_v 2) (fl_at f_int fl_nil)))))) (s_setC 4 1 (by rw [gl]; decide) sc__law_bent.nd (n_lst (fa_cons (f_add (fl_at (f_v 1) (fl_cons (f_slL (fl_at (f_v 1) (fl_cons (f_neg (fl_at f_int fl_nil)) (fun x16 => fl_nil)))) (fun x17 => fl_nil)))) (fun x18 => (fa_cons (f_slH (fl_at (f_v 1) (fl_cons (f_neg (fl_at f_int fl_nil)) (fun x19 => fl_nil)))) (fun x20 => (fa_cons (f_slL (fl_at (f_v 1) (fl_at f_int fl_nil))) (fun x21 => (fa_cons (f_rev (fl_at (f_v 1) fl_nil)) (fun x22 => (fa_cons (f_callT zlist v_list T.n_list bv_list (fa_at (f_v 1) fa_nil)) (fun x23 => (fa_cons (f_add (fl_at (f_v 1) (fl_cons (f_tup (fa_at f_int fa_nil)) (fun x24 => fl_nil)))) (fun x25 => fa_nil))))))))))))) (s_expr (f_app 4 1 (f_add (fl_at (f_v 1) (fl_cons (f_tup (fa_at (f_v 1) fa_nil)) (fun x26 => fl_nil))))) (fun _u31 => (s_ret (f_ix (fl_c 4 (.c 1) rfl (fl_at (f_v 2) fl_nil))))))) (s_pop (s_if (FW.t (w_and (t_val (f_call (ok__law_whole T) hG (hr.mono (by omega)) T.m__law_whole T.F__law_whole.kp T.b__law_whole tk (fa_at (f_v 1) fa_nil))) (w_and1 (t_cmp zlt o_lt (fl_at (f_v 2) (fl_at f_int fl_nil)))))) (s_ret (f_add (fl_at (f_v 1) (fl_cons (f_ix (fl_cons (f_lst (fa_at f_int (fa_cons (f_neg (fl_at f_int fl_nil)) (fun x34 => (fa_at f_int (fa_at f_int (fa_cons (f_neg (fl_at f_int fl_nil)) (fun x35 => (fa_at f_int fa_nil))))))))) (fun x36 => (fl_at (f_v 2) fl_nil)))) (fun x37 => fl_nil))))) (s_pop (s_ret (f_call (ok__law_odd T) hG (hr.mono (by omega)) T.m__law_odd T.F__law_odd.kp T.b__law_odd tk (fa_c 0 (.c 0) fa_nil)))))))))))⟩
def F__law_words : List PyData → M PyData
  | [a0, a1] => L.law_words2 a0 a1
  | _ => bad
theorem ok__law_words (TB : TBs K mg base) : ZFn P w K mg base 8 T.a__law_words T.fd__law_words ["_law_one", "_law_other"] (VSp (lamTs K tfL) mg [.d, .d] false F__law_words) :=
  vfnD T.F__law_words sc__law_words rfl fun cdv hcd A outer s H E S Ez ps0 hG hr tk gl ds hd => match ds, hd with
    | [a0, a1], _ => ⟨0, _, rfl, (s_lams 2 (TB ("_law_words", none) (by decide)) (code_at T.F__law_words T.q__law_words hcd) (lamTs_mem (x := "_law_words") (by decide)) hG sc__law_words.nd tk (.add (TB ("_law_words", none) (by decide)) (code_at T.F__law_words T.q__law_words hcd) (.add (TB ("_law_words", none) (by decide)) (code_at T.F__law_words T.q__law_words hcd) (.add (TB ("_law_words", none) (by decide)) (code_at T.F__law_words T.q__law_words hcd) (.add (TB ("_law_words", none) (by decide)) (code_at T.F__law_words T.q__law_words hcd) .done)))) (fun B1 p2 la3 tk => (s_setSaids 3 2 4 (said__law_said T 5 (by decide)).run (said__law_said T 5 (by decide)).hm (said__law_said T 5 (by decide)).F.kp hG (hr.mono (by decide)) la3 (LamMs.cons (fun A2 outer2 f c' E sZ HZ B S0 EZ hG hr tk => (f_call (ok_plus T) hG (hr.mono (by decide)) T.m_plus T.F_plus.kp T.b_plus tk (fa_at (f_v 0) (fa_at (f_v 1) fa_nil)))) (LamMs.cons (fun A2 outer2 f c' E sZ HZ B S0 EZ hG hr tk => (f_call (ok_minus T) hG (hr.mono (by decide)) T.m_minus T.F_minus.kp T.b_minus tk (fa_at (f_v 0) (fa_at (f_v 1) fa_nil)))) (LamMs.cons (fun A2 outer2 f c' E sZ HZ B S0 EZ hG hr tk => (f_call (ok_times T) hG (hr.mono (by decide)) T.m_times T.F_times.kp T.b_times tk (fa_at (f_v 0) (fa_at (f_v 1) fa_nil)))) (LamMs.cons (fun A2 outer2 f c' E sZ HZ B S0 EZ hG hr tk => (f_call (ok_less T) hG (hr.mono (by decide)) T.m_less T.F_less.kp T.b_less tk (fa_at (f_v 0) (fa_at (f_v 1) fa_nil)))) (LamMs.cons (fun A2 outer2 f c' E sZ HZ B S0 EZ hG hr tk => (f_call (ok_over T) hG (hr.mono (by decide)) T.m_over T.F_over.kp T.b_over tk (fa_at (f_v 0) (fa_at (f_v 1) fa_nil)))) LamMs.nil (LamX.lamS_by (by first | rfl | decide +kernel)) (by intros; rfl)) (LamX.lamS_by (by first | rfl | decide +kernel)) (by intros; rfl)) (LamX.lamS_by (by first | rfl | decide +kernel)) (by intros; rfl)) (LamX.lamS_by (by first | rfl | decide +kernel)) (by intros; rfl)) (LamX.lamS_by (by first | rfl | decide +kernel)) (by intros; rfl)) sc__law_words.nd (blkOk_by (own := [("_law_call", 4)]) (N := N__law_words) (sc := defScope s__law_words) (by decide +kernel)) (fun v4 => (s_ret (f_lc sc__law_words.nd (i_row (f_v 3)) (blkOk_by (own := [("_law_said_here", 5)]) (N := N__law_words) (sc := defScope s__law_words) (by decide +kernel)) (fun _ _ _ _ _ => (zg_name (i := 5) sc__law_words.nd)) (go_name (i := 5)) ts_nil (fun _ _ _ _ _ t6 => (f_if (t_val (f_isi .list T.n_isinstance (pe_ty .list T.n_list) (fl_at (f_v 5) fl_nil))) f_non (f_v 5)))))))))⟩
def F_law : List PyData → M PyData
  | [a0] => L.law42 a0
  | _ => bad
theorem ok_law (TB : TBs K mg base) : ZFn P w K mg base 34 T.a_law T.fd_law ["_law_script"] (VSp (lamTs K tfL) mg [.k] false F_law) :=
  vfnD T.F_law sc_law rfl fun cdv hcd A outer s H E S Ez ps0 hG hr tk gl ds hd => match ds, hd with
    | [a0], _ => ⟨1, _, rfl, (s_for (emb1 := fun (t1 : Unit) => [some (.k (unl a0)), none, none, none, none, none, none, none]) (passes_of rfl) (i_range1 T.n_range (fa_cons (f_callB zmax v_max T.n_max bv_max (fa_at f_int (fa_cons (f_callB zmin v_min T.n_min bv_min (fa_cons (f_callB zlen v_len T.n_len bv_len (fa_c 0 (.k (unl a0)) fa_nil)) (fun x2 => (fa_at f_int fa_nil)))) (fun x3 => fa_nil)))) (fun x4 => fa_nil))) (zg_name (i := 1) sc_law.nd) (go_name (i := 1)) (fun u5 t1 => (s_setC 2 0 (by rw [gl]; decide) sc_law.nd (n_call (ok__law_state T) hG (hr.mono (by decide)) T.m__law_state T.F__law_state.kp T.b__law_state tk (fa_c 0 (.k (unl a0)) (fa_at (f_v 1) fa_nil))) (s_set 3 sc_law.nd (f_call (ok__law_fraction T) hG (hr.mono (by decide)) T.m__law_fraction T.F__law_fraction.kp T.b__law_fraction tk (fa_c 2 (.c 0) fa_nil)) (fun v7 => (s_set 4 sc_law.nd (f_lst (fa_cons (f_tup (fa_at f_int (fa_at f_int fa_nil))) (fun x9 => (fa_cons (f_tup (fa_at f_int (fa_at f_int fa_nil))) (fun x10 => (fa_cons (f_tup (fa_at f_int (fa_at f_int fa_nil))) (fun x11 => (fa_cons (f_tup (fa_at f_int (fa_cons (f_neg (fl_at f_int fl_nil)) (fun x12 => fa_nil)))) (fun x13 => (fa_cons (f_tup (fa_at f_bl (fa_at f_int fa_nil))) (fun x14 => (fa_cons (f_tup (fa_at f_int (fa_at f_bl fa_nil))) (fun x15 => (fa_cons (f_lst (fa_at f_int (fa_at f_int fa_nil))) (fun x16 => (fa_at f_int (fa_at f_non (fa_at f_str fa_nil)))))))))))))))))) (fun v8 => (s_set 4 sc_law.nd (f_add (fl_at (f_v 4) (fl_cons (f_lst (fa_cons (f_tup (fa_at f_int (fa_at f_int (fa_at f_int fa_nil)))) (fun x18 => (fa_cons (f_tup (fa_at f_int fa_nil)) (fun x19 => (fa_cons (f_tup (fa_cons (f_tup (fa_at f_int (fa_at f_int fa_nil))) (fun x20 => fa_nil))) (fun x21 => fa_nil))))))) (fun x22 => fl_nil)))) (fun v17 => (s_set 4 sc_law.nd (f_add (fl_at (f_v 4) (fl_cons (f_lst (fa_cons (f_call (ok__law_odd T) hG (hr.mono (by decide)) T.m__law_odd T.F__law_odd.kp T.b__law_odd tk (fa_c 2 (.c 0) fa_nil)) (fun x24 => (fa_cons (f_call (ok__law_bent T 30) hG (hr.mono (by decide)) T.m__law_bent T.F__law_bent.kp T.b__law_bent tk (fa_c 2 (.c 0) (fa_at (f_v 3) fa_nil))) (fun x25 => fa_nil))))) (fun x26 => fl_nil)))) (fun v23 => (s_for (emb1 := fun (t27 : Unit) => [some (.k (unl a0)), some (.d u5), some (.c 0), some (.d v7), some (.d v23), none, none, none]) (passes_of rfl) (i_row (f_v 4)) (zg_name (i := 5) sc_law.nd) (go_name (i := 5)) (fun u28 t27 => (s_set 6 sc_law.nd (f_callB (zrepr hr hG.1) v_repr T.n_repr bv_repr (fa_cons (f_tup (fa_at (f_v 5) (fa_at (f_v 3) fa_nil))) (fun x31 => fa_nil))) (fun v30 => (s_set 7 sc_law.nd (f_rep (fl_cons (f_lst (fa_at f_non fa_nil)) (fun x33 => (fl_at f_int fl_nil)))) (fun v32 => (s_join (emb1 := fun (t35 : PyData) => [some (.k (unl a0)), some (.d u5), some (.c 0), some (.d v7), some (.d v23), some (.d u28), some (.d v30), some (.d t35)]) (t_not (t_val (f_call (ok__law_is_fraction T) hG (hr.mono (by decide)) T.m__law_is_fraction T.F__law_is_fraction.kp T.b__law_is_fraction tk (fa_at (f_v 5) fa_nil)))) (s_set 7 sc_law.nd (f_rep (fl_cons (f_lst (fa_cons (f_tup (fa_at f_str fa_nil)) (fun x37 => fa_nil))) (fun x38 => (fl_at f_int fl_nil)))) (fun v36 => (s_end (Fg.of ⟨rfl, rfl, rfl, rfl, rfl, rfl, rfl, rfl, trivial⟩)))) (s_if (t_cmp (zeq hr) o_eq (fl_at (f_v 5) (fl_cons (f_tup (fa_at f_int (fa_at f_int fa_nil))) (fun x39 => fl_nil)))) (s_set 7 sc_law.nd (f_add (fl_cons (f_rep (fl_cons (f_lst (fa_at f_non fa_nil)) (fun x42 => (fl_at f_int fl_nil)))) (fun x43 => (fl_cons (f_lst (fa_cons (f_tup (fa_at f_str fa_nil)) (fun x44 => fa_nil))) (fun x45 => fl_nil))))) (fun v41 => (s_pop (s_end (Fg.of ⟨rfl, rfl, rfl, rfl, rfl, rfl, rfl, rfl, trivial⟩))))) (s_pop (s_end (Fg.of ⟨rfl, rfl, rfl, rfl, rfl, rfl, rfl, rfl, trivial⟩)))) (fun t35 => (s_if (FW.t (w_or (t_cmp (zne hr) o_ne (fl_cons (f_call (ok__law_words T TB) hG (hr.mono (by decide)) T.m__law_words T.F__law_words.kp T.b__law_words tk (fa_at (f_v 3) (fa_at (f_v 5) fa_nil))) (fun x48 => (fl_at (f_v 7) fl_nil)))) (w_or1 (t_cmp (zne hr) o_ne (fl_cons (f_callB (zrepr hr hG.1) v_repr T.n_repr bv_repr (fa_cons (f_tup (fa_at (f_v 5) (fa_at (f_v 3) fa_nil))) (fun x46 => fa_nil))) (fun x47 => (fl_at (f_v 6) fl_nil))))))) (s_ret f_bl) (s_pop (s_if (FW.t (w_and (t_not (t_val (f_call (ok__law_is_fraction T) hG (hr.mono (by decide)) T.m__law_is_fraction T.F__law_is_fraction.kp T.b__law_is_fraction tk (fa_at (f_v 5) fa_nil)))) (w_and1 (t_cmp (zne hr) o_ne (fl_cons (f_call (ok__law_words T TB) hG (hr.mono (by decide)) T.m__law_words T.F__law_words.kp T.b__law_words tk (fa_at (f_v 5) (fa_cons (f_call (ok__law_odd T) hG (hr.mono (by decide)) T.m__law_odd T.F__law_odd.kp T.b__law_odd tk (fa_c 2 (.c 0) fa_nil)) (fun x51 => fa_nil)))) (fun x52 => (fl_at (f_v 7) fl_nil))))))) (s_ret f_bl) (s_pop (s_end (Fg.of ⟨rfl, rfl, rfl, rfl, rfl, trivial⟩))))))))))))) (Fg.of ⟨rfl, rfl, rfl, rfl, rfl, trivial⟩) (fun t27 => (s_for (emb1 := fun (t55 : Unit) => [some (.k (unl a0)), some (.d u5), some (.c 0), some (.d v7), some (.d v23), none, none, none]) (passes_of rfl) (i_row (f_lst (fa_at f_non (fa_at f_bl (fa_at f_str (fa_cons (f_tup (fa_at f_int (fa_at f_int fa_nil))) (fun x56 => (fa_cons (f_lst (fa_at f_int fa_nil)) (fun x57 => (fa_cons (f_tup fa_nil) (fun x58 => (fa_at f_bl fa_nil)))))))))))) (zg_name (i := 5) sc_law.nd) (go_name (i := 5)) (fun u59 t55 => (s_if (t_cmp (zne hr) o_ne (fl_cons (f_saidG (said__law_said T 3 (by decide)).run (said__law_said T 3 (by decide)).hm (said__law_said T 3 (by decide)).F.kp (TB ("law", none) (by decide)) (code_at T.F_law T.q_law hcd) (lamTs_mem (x := "law") (by decide)) hG (hr.mono (by decide)) (fun A2 outer2 f c' E sZ HZ B S0 EZ hG hr tk => (f_callK (dv := [(.int 1)]) (ok_made T) hG (hr.mono (by decide)) T.m_made T.F_made.kp T.bk_made_1 tk (fk_at (f_v 5) (fk_kw kw_nil))))) (fun x61 => (fl_cons (f_tup (fa_at f_str fa_nil)) (fun x62 => fl_nil))))) (s_ret f_bl) (s_pop (s_if (t_cmp (zne hr) o_ne (fl_cons (f_saidG (said__law_said T 3 (by decide)).run (said__law_said T 3 (by decide)).hm (said__law_said T 3 (by decide)).F.kp (TB ("law", none) (by decide)) (code_at T.F_law T.q_law hcd) (lamTs_mem (x := "law") (by decide)) hG (hr.mono (by decide)) (fun A2 outer2 f c' E sZ HZ B S0 EZ hG hr tk => (f_callK (dv := [(.int 1)]) (ok_made T) hG (hr.mono (by decide)) T.m_made T.F_made.kp T.bk_made_2 tk (fk_at f_int (fk_at (f_v 5) (fk_kw kw_nil)))))) (fun x65 => (fl_cons (f_tup (fa_at f_str fa_nil)) (fun x66 => fl_nil))))) (s_ret f_bl) (s_pop (s_end (Fg.of ⟨rfl, rfl, rfl, rfl, rfl, trivial⟩))))))) (Fg.of ⟨rfl, rfl, rfl, rfl, rfl, trivial⟩) (fun t55 => (s_if (t_cmp (zne hr) o_ne (fl_cons (f_saidG (said__law_said T 3 (by decide)).run (said__law_said T 3 (by decide)).hm (said__law_said T 3 (by decide)).F.kp (TB ("law", none) (by decide)) (code_at T.F_law T.q_law hcd) (lamTs_mem (x := "law") (by decide)) hG (hr.mono (by decide)) (fun A2 outer2 f c' E sZ HZ B S0 EZ hG hr tk => (f_callK (dv := [(.int 1)]) (ok_made T) hG (hr.mono (by decide)) T.m_made T.F_made.kp T.bk_made_2 tk (fk_at f_int (fk_at f_int (fk_kw kw_nil)))))) (fun x69 => (fl_cons (f_tup (fa_at f_str fa_nil)) (fun x70 => fl_nil))))) (s_ret f_bl) (s_pop (s_if (t_cmp (zne hr) o_ne (fl_cons (f_saidG (said__law_said T 3 (by decide)).run (said__law_said T 3 (by decide)).hm (said__law_said T 3 (by decide)).F.kp (TB ("law", none) (by decide)) (code_at T.F_law T.q_law hcd) (lamTs_mem (x := "law") (by decide)) hG (hr.mono (by decide)) (fun A2 outer2 f c' E sZ HZ B S0 EZ hG hr tk => (f_callK (dv := [(.int 1)]) (ok_made T) hG (hr.mono (by decide)) T.m_made T.F_made.kp T.bk_made_2 tk (fk_at f_non (fk_at f_int (fk_kw kw_nil)))))) (fun x73 => (fl_cons (f_tup (fa_at f_str fa_nil)) (fun x74 => fl_nil))))) (s_ret f_bl) (s_pop (s_end (Fg.of ⟨rfl, trivial⟩)))))))))))))))))))) (Fg.of ⟨rfl, trivial⟩) (fun t1 => (s_ret f_bl)))⟩
end
end K
set_option exponentiation.threshold 20000
namespace K
open PySem PySem.Spec V ZL L2
theorem pbN {α β : Type} (a : α) (k : α → M β) : ((pure a : M α) >>= k) = k a := by rw [pure_bind']
theorem baN {α β γ : Type} (m : M α) (k : α → M β) (l : β → M γ) : ((m >>= k) >>= l) = m >>= fun a => k a >>= l := by rw [bind_assoc']
theorem fbN {α : Type} (m : M α) (k : α → M (Fl Unit Unit)) : fin (m >>= k) = (m >>= fun a => fin (k a)) := by rw [fin_bind]
abbrev wFr : PyData := .tuple [.str "fraction"]
abbrev wWh : PyData := .tuple [.str "whole"]
abbrev post3 : PyData → M PyData := fun d => (pure (.list [d]))
theorem word_fr : L.law_word2 "NoFraction" [] = .ok wFr [] := by kernel_rfl
theorem word_wh : L.law_word2 "NoWhole" [] = .ok wWh [] := by kernel_rfl
theorem said_ok {d : PyData} : saidM exNames post3 L.law_word2 (pure d) = pure (.list [d]) := rfl
theorem said_fr : saidM exNames post3 L.law_word2 (raise "NoFraction") = pure wFr := said_raise (by decide +kernel) word_fr
theorem said_wh : saidM exNames post3 L.law_word2 (raise "NoWhole") = pure wWh := said_raise (by decide +kernel) word_wh
theorem sub_exN {α : Type} {m : M α} {n : Str} (h : m [] = .ex ⟨n, []⟩ []) : sub [] m = raise n := by
  funext s
  show (bif liveB s [] then (match m (pick s []) with | .ok a s' => Res.ok a (put s [] s') | .ex x s' => .ex x (put s [] s') | .bad => .bad) else .bad) = _
  rw [show pick s [] = [] from rfl, h]
  rfl
theorem ne_of {a b : PyData} {c : Bool} (h : neO a b = some c) : neM a b = pure c := by
  show ofO (neO a b) = _
  rw [h]; rfl
theorem nf_no {d : PyData} (h : L.is_fraction d = pure (.bool false)) : L.need_fraction d = raise "NoFraction" := by
  unfold L.need_fraction
  rw [h, sub_pure, pbN, toB_bool, tNot_pure, pbN, Bool.not_false, cond_true, fin_raise, frame_raise]
theorem nf_yes {d : PyData} (h : L.is_fraction d = pure (.bool true)) : L.need_fraction d = pure .none := by
  unfold L.need_fraction
  rw [h, sub_pure, pbN, toB_bool, tNot_pure, pbN, Bool.not_true, cond_false, fin_nx, frame_pure]
theorem nt_1 {a b : PyData} (h : L.is_fraction a = pure (.bool false)) : L.need_two a b = raise "NoFraction" := by
  unfold L.need_two
  rw [nf_no h, sub_raise, raise_bind, fin_raise, frame_raise]
theorem nt_2 {a b : PyData} (h : L.is_fraction a = pure (.bool true)) (h2 : L.is_fraction b = pure (.bool false)) : L.need_two a b = raise "NoFraction" := by
  unfold L.need_two
  rw [nf_yes h, sub_pure, pbN, nf_no h2, sub_raise, raise_bind, fin_raise, frame_raise]
theorem plus_no {a b : PyData} (h : L.need_two a b = raise "NoFraction") : L.plus a b = raise "NoFraction" := by
  unfold L.plus; rw [h, sub_raise, raise_bind, fin_raise, frame_raise]
theorem minus_no {a b : PyData} (h : L.need_two a b = raise "NoFraction") : L.minus a b = raise "NoFraction" := by
  unfold L.minus; rw [h, sub_raise, raise_bind, fin_raise, frame_raise]
theorem times_no {a b : PyData} (h : L.need_two a b = raise "NoFraction") : L.times a b = raise "NoFraction" := by
  unfold L.times; rw [h, sub_raise, raise_bind, fin_raise, frame_raise]
theorem less_no {a b : PyData} (h : L.need_two a b = raise "NoFraction") : L.less a b = raise "NoFraction" := by
  unfold L.less; rw [h, sub_raise, raise_bind, fin_raise, frame_raise]
theorem over_no {a b : PyData} (h : L.need_two a b = raise "NoFraction") : L.over a b = raise "NoFraction" := by
  unfold L.over; rw [h, sub_raise, raise_bind, fin_raise, frame_raise]
def toldD : PyData → PyData
  | .list _ => .none
  | d => d
theorem told_comp {xs : List PyData} (hl : xs.length ≤ 1000) : comp pN yep (fun t6 => (((pure (isO .list t6)) >>= toB) >>= fun b8 => bif b8 then (pure .none) else (pure t6))) xs = pure (xs.map toldD) := by
  have := comp_of (f := fun t6 => (((pure (isO .list t6)) >>= toB) >>= fun b8 => bif b8 then (pure .none) else (pure t6))) (xs := xs) (e := fun x => x) (g := toldD) (by omega) fun x hx => by
    rw [pbN]
    cases x <;> rfl
  rw [List.map_id'] at this
  exact this
theorem words_of {a b : PyData} {d1 d2 d3 d4 d5 : PyData} (h1 : saidM exNames post3 L.law_word2 (sub [] (L.plus a b)) = pure d1) (h2 : saidM exNames post3 L.law_word2 (sub [] (L.minus a b)) = pure d2) (h3 : saidM exNames post3 L.law_word2 (sub [] (L.times a b)) = pure d3) (h4 : saidM exNames post3 L.law_word2 (sub [] (L.less a b)) = pure d4) (h5 : saidM exNames post3 L.law_word2 (sub [] (L.over a b)) = pure d5) :
    sub [] (L.law_words2 a b) = pure (.list ([d1, d2, d3, d4, d5].map toldD)) := by
  have all : saidsM exNames (fun d => (pure (.list [d]))) L.law_word2 [(sub [] (L.plus a b)), (sub [] (L.minus a b)), (sub [] (L.times a b)), (sub [] (L.less a b)), (sub [] (L.over a b))] = pure [d1, d2, d3, d4, d5] := by
    unfold saidsM saidsM saidsM saidsM saidsM saidsM
    rw [h1, pbN, h2, pbN, h3, pbN, h4, pbN, h5, pbN, pbN, pbN, pbN, pbN, pbN]
  unfold L.law_words2
  rw [all, pbN, if_pos (show [d1, d2, d3, d4, d5].length ≤ line from (by decide : (5 : Nat) ≤ line)), pbN, pbN, rowM_list, pbN, told_comp (by simp), pbN, pbN, fin_rt, frame_pure, sub_pure]
theorem words_no {a b : PyData} (h : L.need_two a b = raise "NoFraction") : sub [] (L.law_words2 a b) = pure (.list [wFr, wFr, wFr, wFr, wFr]) :=
  words_of (by rw [plus_no h, sub_raise, said_fr]) (by rw [minus_no h, sub_raise, said_fr]) (by rw [times_no h, sub_raise, said_fr]) (by rw [less_no h, sub_raise, said_fr]) (by rw [over_no h, sub_raise, said_fr])
theorem words_yes {p q : Rat} (hp : Bt 101 p) (hq : Bt 101 q) (h0 : q ≠ 0) : sub [] (L.law_words2 (fr p) (fr q)) = pure (.list [.none, .none, .none, .none, .none]) :=
  words_of (by rw [plus_eq hp hq (by omega), sub_pure, said_ok]) (by rw [minus_eq hp hq (by omega), sub_pure, said_ok]) (by rw [times_eq hp hq (by omega), sub_pure, said_ok]) (by rw [less_eq hp hq (by omega), sub_pure, said_ok]) (by rw [over_eq hp hq (by omega) h0, sub_pure, said_ok])
theorem over_0 {p : Rat} (hp : Bt 101 p) : L.over (fr p) (fr 0) = raise "NoFraction" := by
  unfold L.over
  rw [need_two_fr hp (b := 101) (q := 0) ⟨by decide, by decide⟩ (by omega) (by omega), sub_pure, pbN, show (.tuple [(.int 0), (.int 1)] : PyData) = fr 0 from rfl, eq_fr, decide_eq_true rfl, pbN, cond_true, fin_raise, frame_raise]
theorem words_0 {p : Rat} (hp : Bt 101 p) : sub [] (L.law_words2 (fr p) (fr 0)) = pure (.list [.none, .none, .none, .none, wFr]) :=
  words_of (by rw [plus_eq hp (b := 101) (q := 0) ⟨by decide, by decide⟩ (by omega), sub_pure, said_ok]) (by rw [minus_eq hp (b := 101) (q := 0) ⟨by decide, by decide⟩ (by omega), sub_pure, said_ok]) (by rw [times_eq hp (b := 101) (q := 0) ⟨by decide, by decide⟩ (by omega), sub_pure, said_ok]) (by rw [less_eq hp (b := 101) (q := 0) ⟨by decide, by decide⟩ (by omega), sub_pure, said_ok]) (by rw [over_0 hp, sub_raise, said_fr])
theorem lstK10 (a b c d e f g h i j : PyData) : lstK [.d a, .d b, .d c, .d d, .d e, .d f, .d g, .d h, .d i, .d j] = pure (.list [a, b, c, d, e, f, g, h, i, j]) := rfl
theorem lstK7 (a b c d e f g : PyData) : lstK [.d a, .d b, .d c, .d d, .d e, .d f, .d g] = pure (.list [a, b, c, d, e, f, g]) := rfl
theorem repL_ofN {x y : PyData} {xs : List PyData} (h : repN x y = pure xs) : repL x y = pure (.list xs) := by
  have : repO x y = some xs := by
    have h2 : (ofO (repO x y) : M (List PyData)) [] = .ok xs [] := by
      rw [show (ofO (repO x y) : M (List PyData)) = repN x y from rfl, h]; rfl
    obtain ⟨e, _⟩ := ofO_ok h2
    exact e
  show ofO ((repO x y).map PyData.list) = _
  rw [this]; rfl
theorem rep5 (x : PyData) : repL (.list [x]) (.int 5) = pure (.list [x, x, x, x, x]) := repL_ofN (rep_pt (n := 5) (by decide) x)
theorem rep4 (x : PyData) : repL (.list [x]) (.int 4) = pure (.list [x, x, x, x]) := repL_ofN (rep_pt (n := 4) (by decide) x)
theorem bt_bq {b D Z : Nat} {q : Rat} (h : Bq b D Z (fr q)) : Bt b q := by
  have := h.i
  simp only [fr, ib, ibA] at this
  exact ⟨this.1, by have := this.2.1; omega⟩
theorem bent_bq {q : Rat} (hq : Bt 50 q) : Gen (V.sub [0] (L.law_bent 30 (fr q))) (Bq 101 4 13000) := by
  have od : Gen1 L.law_odd (Bq 101 3 5000) := fun st g => let ⟨a, st', g', p, e⟩ := odd_in st g; ⟨a, st', g', odd_bq p, e⟩
  have t : Tq 100 1 3849 (fr q) := tq_fr (hq.mono (by omega))
  rw [bent_same]
  have := bent_gen (b := 100) (K := 5000) (by omega) (by omega) od 30 1 _ 3849 (by omega) (by omega) (by omega) t
  exact (this.sub).mono fun d hd => hd.mono (by omega) (by omega) (by have := t.z; omega)
theorem pair_bq {d : PyData} {q : Rat} (h : Bq 101 4 13000 d) (hq : Bt 50 q) : Bq 101 5 30000 (.tuple [d, fr q]) := by
  have t : Tq 101 1 3849 (fr q) := tq_fr (hq.mono (by omega))
  have h1 := h.i; have h2 := h.dp; have h3 := h.z; have h4 := h.o
  have t1 := t.q.i; have t2 := t.q.dp; have t3 := t.q.z
  refine ⟨by simp only [ib, ibA]; exact ⟨h1, t1, trivial⟩, by simp only [PyData.depth, PyData.depthAll]; omega, by simp only [sz, szA]; omega, ?_⟩
  rcases h4 with h4 | h4
  · exact .inl (by simp only [PyData.hasDict, PyData.hasDictAll, h4]; rfl)
  · exact .inr (by simp only [lfree, lfreeAll, h4]; rfl)
theorem law_true (ns : List Int) (h : ns.length ≤ 63) : ∃ s', L.law42 (.list (ns.map PyData.int)) [] = .ok (.bool true) s' := by
  unfold L.law42
  refine law_end ?_
  simp only [fbN, baN, unl, len_list, pbN, min_int, max_int, List.length_map]
  refine law_cells ns h 5 (n := 0) (fun k st g => ?_) ?_
  · refine AtL.zero ?_
    refine At.gen fraction_gen.sub ?_
    rintro _ ⟨g, rfl, hg⟩
    simp only [tupK_nil, tupK_1, tupK_2, tupK_3, lstK_1, lstK_2, lstK_3, lstK7, lstK10, rep4, rep5, neg_int, pbN]
    rw [add_list (by simp), pbN]
    refine At.gen odd_in.sub ?_
    intro o ho
    refine At.gen (bent_bq hg) ?_
    intro bd hbd
    rw [add_list (by simp), pbN, rowM_list, pbN]
    refine Tr.for0 (At []) (fun d hd => ⟨_, rfl, ?_⟩) ?_
    · have bq : Bq 101 4 13000 d := by
        simp only [List.cons_append, List.nil_append, List.mem_cons, List.not_mem_nil, or_false] at hd
        have z1 : (reprText "1/2").length ≤ 5000 := by decide +kernel
        have sm : ∀ x : PyData, ib 101 x → x.depth ≤ 4 → sz x ≤ 13000 → x.hasDict = false → Bq 101 4 13000 x := fun x a b c e => ⟨a, b, c, .inl e⟩
        rcases hd with rfl | rfl | rfl | rfl | rfl | rfl | rfl | rfl | rfl | rfl | rfl | rfl | rfl | rfl | rfl
        case inr.inr.inr.inr.inr.inr.inr.inr.inr.inr.inr.inr.inr.inl => exact (odd_bq ho).mono (by omega) (by omega) (by omega)
        case inr.inr.inr.inr.inr.inr.inr.inr.inr.inr.inr.inr.inr.inr => exact hbd
        all_goals refine sm _ ?_ ?_ ?_ ?_
        all_goals first
          | (simp [ib, ibA]; done)
          | (simp [PyData.depth, PyData.depthAll]; done)
          | (simp [sz, szA]; done)
          | (simp only [sz]; omega)
          | rfl
      have fe := is_fraction_eq d (bq.lenOk (by omega)) (bq.sm2 (by omega))
      have le := law_is_fraction_eq d (bq.lenOk (by omega)) (bq.sm2 (by omega))
      have rp := repr_eq ((pair_bq bq hg).ok (by omega) (by omega) (by omega))
      have gf : L.is_fraction (fr g) = pure (.bool true) := is_fraction_fr hg (by omega)
      rw [rp, pbN, le, sub_pure, pbN, toB_bool]
      cases e : isFr d with
      | false =>
        rw [e] at fe
        rw [tNot_pure, pbN, Bool.not_false, cond_true, pbN, flk_nx, words_no (nt_2 gf fe), pbN, ne_of (c := false) (by decide +kernel), tOr_pure, cond_false, pbN, ne_str, decide_eq_true rfl, Bool.not_true, pbN, cond_false, tAnd_pure, cond_true, baN]
        refine At.gen odd_in.sub ?_
        intro o2 ho2
        rw [words_no (nt_1 fe), pbN, ne_of (c := false) (by decide +kernel), pbN, cond_false]
        exact Tr.pure fun s hs => ⟨rfl, hs⟩
      | true =>
        obtain ⟨q, rfl⟩ := isFr_inv e
        have hq := bt_bq bq
        rw [tNot_pure, pbN, Bool.not_true, cond_false, show eqM (fr q) (.tuple [.int 0, .int 1]) = eqM (fr q) (fr 0) from rfl, eq_fr, pbN]
        by_cases q0 : q = 0
        · subst q0
          rw [decide_eq_true rfl, cond_true, add_list (by simp), pbN, pbN, flk_nx, words_0 (hg.mono (by omega)), pbN, ne_of (c := false) (by decide +kernel), tOr_pure, cond_false, pbN, ne_str, decide_eq_true rfl, Bool.not_true, pbN, cond_false, tAnd_pure, cond_false, pbN, cond_false]
          exact Tr.pure fun s hs => ⟨rfl, hs⟩
        · rw [decide_eq_false q0, cond_false, pbN, flk_nx, words_yes (hg.mono (by omega)) hq q0, pbN, ne_of (c := false) (by decide +kernel), tOr_pure, cond_false, pbN, ne_str, decide_eq_true rfl, Bool.not_true, pbN, cond_false, tAnd_pure, cond_false, pbN, cond_false]
          exact Tr.pure fun s hs => ⟨rfl, hs⟩
    · rw [flk_nx, rowM_list, pbN]
      have nw : neM wWh wWh = pure false := ne_of (by decide +kernel)
      rw [forM_nx (fun x hx => ⟨_, rfl, ?_⟩)]
      · rw [pbN, flk_nx, show sub [] (L.made (.int 3) (.int 0)) = raise "NoWhole" from sub_exN (by kernel_rfl), said_wh, pbN, nw, pbN, cond_false, show sub [] (L.made .none (.int 0)) = raise "NoWhole" from sub_exN (by kernel_rfl), said_wh, pbN, nw, pbN, cond_false]
        exact Tr.pure fun s hs => ⟨rfl, hs.l.ln⟩
      · have m1 : sub [] (L.made x (.int 1)) = raise "NoWhole" ∧ sub [] (L.made (.int 1) x) = raise "NoWhole" := by
          simp only [List.mem_cons, List.not_mem_nil, or_false] at hx
          rcases hx with rfl | rfl | rfl | rfl | rfl | rfl | rfl
          all_goals exact ⟨sub_exN (by kernel_rfl), sub_exN (by kernel_rfl)⟩
        rw [m1.1, said_wh, pbN, nw, pbN, cond_false, m1.2, said_wh, pbN, nw, pbN, cond_false]
  · simp only [flk_nx, pbN, fin_rt]
    exact Tr.pure fun s hs => rfl
end K
namespace Hd
open PySem PySem.Spec PyProof.Rows L2 ZL V K
theorem facts {K : PySem.W.Frag} {h : Heap} {mg : Str → Option Value} (X : K.In h) (G : h.Ns mainGlobals mg) {w : World} (c : SaysL fa fn ex _root_.K.tfL w h K) : ∃ T : Txt K mg, T.a_law = He.ga K "law" ∧ ∀ (s : Shared) (u : Value), BindsTo s T.fd_law ⟨[u], []⟩ [("_law_script", u)] := by
  obtain ⟨fd0, F0⟩ := c.d.def_ 0 (d := d_is_whole) rfl
  obtain ⟨fd1, F1⟩ := c.d.def_ 1 (d := d_divisor) rfl
  obtain ⟨fd2, F2⟩ := c.d.def_ 2 (d := d_is_fraction) rfl
  obtain ⟨fd3, F3⟩ := c.d.def_ 3 (d := d_need_whole) rfl
  obtain ⟨fd4, F4⟩ := c.d.def_ 4 (d := d_need_fraction) rfl
  obtain ⟨fd5, F5⟩ := c.d.def_ 5 (d := d_made_by) rfl
  obtain ⟨fd6, F6⟩ := c.d.def_ 6 (d := d_plus_by) rfl
  obtain ⟨fd7, F7⟩ := c.d.def_ 7 (d := d_minus_by) rfl
  obtain ⟨fd8, F8⟩ := c.d.def_ 8 (d := d_times_by) rfl
  obtain ⟨fd9, F9⟩ := c.d.def_ 9 (d := d_over_by) rfl
  obtain ⟨fd10, F10⟩ := c.d.def_ 10 (d := d_less_by) rfl
  obtain ⟨fd11, F11⟩ := c.d.def_ 11 (d := d_made) rfl
  obtain ⟨fd12, F12⟩ := c.d.def_ 12 (d := d_need_two) rfl
  obtain ⟨fd13, F13⟩ := c.d.def_ 13 (d := d_plus) rfl
  obtain ⟨fd14, F14⟩ := c.d.def_ 14 (d := d_minus) rfl
  obtain ⟨fd15, F15⟩ := c.d.def_ 15 (d := d_times) rfl
  obtain ⟨fd16, F16⟩ := c.d.def_ 16 (d := d_over) rfl
  obtain ⟨fd17, F17⟩ := c.d.def_ 17 (d := d_less) rfl
  obtain ⟨fd18, F18⟩ := c.d.def_ 18 (d := d__law_cell_at) rfl
  obtain ⟨fd19, F19⟩ := c.d.def_ 19 (d := d__law_state) rfl
  obtain ⟨fd20, F20⟩ := c.d.def_ 20 (d := d__law_choice) rfl
  obtain ⟨fd21, F21⟩ := c.d.def_ 21 (d := d__law_low) rfl
  obtain ⟨fd22, F22⟩ := c.d.def_ 22 (d := d__law_fraction) rfl
  obtain ⟨fd23, F23⟩ := c.d.def_ 23 (d := d__law_odd) rfl
  obtain ⟨fd24, F24⟩ := c.d.def_ 24 (d := d__law_marks) rfl
  obtain ⟨fd25, F25⟩ := c.d.def_ 25 (d := d__law_word) rfl
  obtain ⟨fd26, F26⟩ := c.d.def_ 26 (d := d__law_said) rfl
  obtain ⟨fd27, F27⟩ := c.d.def_ 27 (d := d__law_whole) rfl
  obtain ⟨fd28, F28⟩ := c.d.def_ 28 (d := d__law_is_fraction) rfl
  obtain ⟨fd29, F29⟩ := c.d.def_ 29 (d := d__law_bent) rfl
  obtain ⟨fd30, F30⟩ := c.d.def_ 30 (d := d__law_words) rfl
  obtain ⟨fd31, F31⟩ := c.d.def_ 31 (d := d_law) rfl
  exact ⟨{
      a_is_whole := He.ga K "is_whole",
      fd_is_whole := fd0,
      F_is_whole := F0,
      m_is_whole := He.glo_ok X G (c.d.fact 0 (f := .glo "is_whole") rfl),
      b_is_whole := (FunD.bindsN F0 fun _ _ _ _ _ _ us hl => match us, hl with | [_], _ => rfl),
      a_divisor := He.ga K "divisor",
      fd_divisor := fd1,
      F_divisor := F1,
      m_divisor := He.glo_ok X G (c.d.fact 1 (f := .glo "divisor") rfl),
      b_divisor := (FunD.bindsN F1 fun _ _ _ _ _ _ us hl => match us, hl with | [_, _], _ => rfl),
      a_is_fraction := He.ga K "is_fraction",
      fd_is_fraction := fd2,
      F_is_fraction := F2,
      m_is_fraction := He.glo_ok X G (c.d.fact 2 (f := .glo "is_fraction") rfl),
      b_is_fraction := (FunD.bindsN F2 fun _ _ _ _ _ _ us hl => match us, hl with | [_], _ => rfl),
      a_need_whole := He.ga K "need_whole",
      fd_need_whole := fd3,
      F_need_whole := F3,
      m_need_whole := He.glo_ok X G (c.d.fact 3 (f := .glo "need_whole") rfl),
      b_need_whole := (FunD.bindsN F3 fun _ _ _ _ _ _ us hl => match us, hl with | [_], _ => rfl),
      a_need_fraction := He.ga K "need_fraction",
      fd_need_fraction := fd4,
      F_need_fraction := F4,
      m_need_fraction := He.glo_ok X G (c.d.fact 4 (f := .glo "need_fraction") rfl),
      b_need_fraction := (FunD.bindsN F4 fun _ _ _ _ _ _ us hl => match us, hl with | [_], _ => rfl),
      a_made_by := He.ga K "made_by",
      fd_made_by := fd5,
      F_made_by := F5,
      m_made_by := He.glo_ok X G (c.d.fact 5 (f := .glo "made_by") rfl),
      b_made_by := (FunD.bindsN F5 fun _ _ _ _ _ _ us hl => match us, hl with | [_, _], _ => rfl),
      a_plus_by := He.ga K "plus_by",
      fd_plus_by := fd6,
      F_plus_by := F6,
      m_plus_by := He.glo_ok X G (c.d.fact 6 (f := .glo "plus_by") rfl),
      b_plus_by := (FunD.bindsN F6 fun _ _ _ _ _ _ us hl => match us, hl with | [_, _], _ => rfl),
      a_minus_by := He.ga K "minus_by",
      fd_minus_by := fd7,
      F_minus_by := F7,
      m_minus_by := He.glo_ok X G (c.d.fact 7 (f := .glo "minus_by") rfl),
      b_minus_by := (FunD.bindsN F7 fun _ _ _ _ _ _ us hl => match us, hl with | [_, _], _ => rfl),
      a_times_by := He.ga K "times_by",
      fd_times_by := fd8,
      F_times_by := F8,
      m_times_by := He.glo_ok X G (c.d.fact 8 (f := .glo "times_by") rfl),
      b_times_by := (FunD.bindsN F8 fun _ _ _ _ _ _ us hl => match us, hl with | [_, _], _ => rfl),
      a_over_by := He.ga K "over_by",
      fd_over_by := fd9,
      F_over_by := F9,
      m_over_by := He.glo_ok X G (c.d.fact 9 (f := .glo "over_by") rfl),
      b_over_by := (FunD.bindsN F9 fun _ _ _ _ _ _ us hl => match us, hl with | [_, _], _ => rfl),
      a_less_by := He.ga K "less_by",
      fd_less_by := fd10,
      F_less_by := F10,
      m_less_by := He.glo_ok X G (c.d.fact 10 (f := .glo "less_by") rfl),
      b_less_by := (FunD.bindsN F10 fun _ _ _ _ _ _ us hl => match us, hl with | [_, _], _ => rfl),
      a_made := He.ga K "made",
      fd_made := fd11,
      F_made := F11,
      m_made := He.glo_ok X G (c.d.fact 11 (f := .glo "made") rfl),
      a_need_two := He.ga K "need_two",
      fd_need_two := fd12,
      F_need_two := F12,
      m_need_two := He.glo_ok X G (c.d.fact 12 (f := .glo "need_two") rfl),
      b_need_two := (FunD.bindsN F12 fun _ _ _ _ _ _ us hl => match us, hl with | [_, _], _ => rfl),
      a_plus := He.ga K "plus",
      fd_plus := fd13,
      F_plus := F13,
      m_plus := He.glo_ok X G (c.d.fact 13 (f := .glo "plus") rfl),
      b_plus := (FunD.bindsN F13 fun _ _ _ _ _ _ us hl => match us, hl with | [_, _], _ => rfl),
      a_minus := He.ga K "minus",
      fd_minus := fd14,
      F_minus := F14,
      m_minus := He.glo_ok X G (c.d.fact 14 (f := .glo "minus") rfl),
      b_minus := (FunD.bindsN F14 fun _ _ _ _ _ _ us hl => match us, hl with | [_, _], _ => rfl),
      a_times := He.ga K "times",
      fd_times := fd15,
      F_times := F15,
      m_times := He.glo_ok X G (c.d.fact 15 (f := .glo "times") rfl),
      b_times := (FunD.bindsN F15 fun _ _ _ _ _ _ us hl => match us, hl with | [_, _], _ => rfl),
      a_over := He.ga K "over",
      fd_over := fd16,
      F_over := F16,
      m_over := He.glo_ok X G (c.d.fact 16 (f := .glo "over") rfl),
      b_over := (FunD.bindsN F16 fun _ _ _ _ _ _ us hl => match us, hl with | [_, _], _ => rfl),
      a_less := He.ga K "less",
      fd_less := fd17,
      F_less := F17,
      m_less := He.glo_ok X G (c.d.fact 17 (f := .glo "less") rfl),
      b_less := (FunD.bindsN F17 fun _ _ _ _ _ _ us hl => match us, hl with | [_, _], _ => rfl),
      a__law_cell_at := He.ga K "_law_cell_at",
      fd__law_cell_at := fd18,
      F__law_cell_at := F18,
      m__law_cell_at := He.glo_ok X G (c.d.fact 18 (f := .glo "_law_cell_at") rfl),
      b__law_cell_at := (FunD.bindsN F18 fun _ _ _ _ _ _ us hl => match us, hl with | [_, _], _ => rfl),
      a__law_state := He.ga K "_law_state",
      fd__law_state := fd19,
      F__law_state := F19,
      m__law_state := He.glo_ok X G (c.d.fact 19 (f := .glo "_law_state") rfl),
      b__law_state := (FunD.bindsN F19 fun _ _ _ _ _ _ us hl => match us, hl with | [_, _], _ => rfl),
      a__law_choice := He.ga K "_law_choice",
      fd__law_choice := fd20,
      F__law_choice := F20,
      m__law_choice := He.glo_ok X G (c.d.fact 20 (f := .glo "_law_choice") rfl),
      b__law_choice := (FunD.bindsN F20 fun _ _ _ _ _ _ us hl => match us, hl with | [_, _], _ => rfl),
      a__law_low := He.ga K "_law_low",
      fd__law_low := fd21,
      F__law_low := F21,
      m__law_low := He.glo_ok X G (c.d.fact 21 (f := .glo "_law_low") rfl),
      b__law_low := (FunD.bindsN F21 fun _ _ _ _ _ _ us hl => match us, hl with | [_, _], _ => rfl),
      a__law_fraction := He.ga K "_law_fraction",
      fd__law_fraction := fd22,
      F__law_fraction := F22,
      m__law_fraction := He.glo_ok X G (c.d.fact 22 (f := .glo "_law_fraction") rfl),
      b__law_fraction := (FunD.bindsN F22 fun _ _ _ _ _ _ us hl => match us, hl with | [_], _ => rfl),
      a__law_odd := He.ga K "_law_odd",
      fd__law_odd := fd23,
      F__law_odd := F23,
      m__law_odd := He.glo_ok X G (c.d.fact 23 (f := .glo "_law_odd") rfl),
      b__law_odd := (FunD.bindsN F23 fun _ _ _ _ _ _ us hl => match us, hl with | [_], _ => rfl),
      a__law_marks := He.ga K "_law_marks",
      fd__law_marks := fd24,
      F__law_marks := F24,
      m__law_marks := He.glo_ok X G (c.d.fact 24 (f := .glo "_law_marks") rfl),
      b__law_marks := (FunD.bindsN F24 fun _ _ _ _ _ _ us hl => match us, hl with | [_], _ => rfl),
      a__law_word := He.ga K "_law_word",
      fd__law_word := fd25,
      F__law_word := F25,
      m__law_word := He.glo_ok X G (c.d.fact 25 (f := .glo "_law_word") rfl),
      b__law_word := (FunD.bindsN F25 fun _ _ _ _ _ _ us hl => match us, hl with | [_], _ => rfl),
      a__law_said := He.ga K "_law_said",
      fd__law_said := fd26,
      F__law_said := F26,
      m__law_said := He.glo_ok X G (c.d.fact 26 (f := .glo "_law_said") rfl),
      b__law_said := (FunD.bindsN F26 fun _ _ _ _ _ _ us hl => match us, hl with | [_], _ => rfl),
      a__law_whole := He.ga K "_law_whole",
      fd__law_whole := fd27,
      F__law_whole := F27,
      m__law_whole := He.glo_ok X G (c.d.fact 27 (f := .glo "_law_whole") rfl),
      b__law_whole := (FunD.bindsN F27 fun _ _ _ _ _ _ us hl => match us, hl with | [_], _ => rfl),
      a__law_is_fraction := He.ga K "_law_is_fraction",
      fd__law_is_fraction := fd28,
      F__law_is_fraction := F28,
      m__law_is_fraction := He.glo_ok X G (c.d.fact 28 (f := .glo "_law_is_fraction") rfl),
      b__law_is_fraction := (FunD.bindsN F28 fun _ _ _ _ _ _ us hl => match us, hl with | [_], _ => rfl),
      a__law_bent := He.ga K "_law_bent",
      fd__law_bent := fd29,
      F__law_bent := F29,
      m__law_bent := He.glo_ok X G (c.d.fact 29 (f := .glo "_law_bent") rfl),
      b__law_bent := (FunD.bindsN F29 fun _ _ _ _ _ _ us hl => match us, hl with | [_, _], _ => rfl),
      a__law_words := He.ga K "_law_words",
      fd__law_words := fd30,
      F__law_words := F30,
      m__law_words := He.glo_ok X G (c.d.fact 30 (f := .glo "_law_words") rfl),
      b__law_words := (FunD.bindsN F30 fun _ _ _ _ _ _ us hl => match us, hl with | [_, _], _ => rfl),
      a_law := He.ga K "law",
      fd_law := fd31,
      F_law := F31,
      m_law := He.glo_ok X G (c.d.fact 31 (f := .glo "law") rfl),
      b_law := (FunD.bindsN F31 fun _ _ _ _ _ _ us hl => match us, hl with | [_], _ => rfl),
      n_ValueError := He.free_ok X G (c.d.fact 32 (f := .free "ValueError") rfl),
      n_abs := He.free_ok X G (c.d.fact 33 (f := .free "abs") rfl),
      n_all := He.free_ok X G (c.d.fact 34 (f := .free "all") rfl),
      n_bool := He.free_ok X G (c.d.fact 35 (f := .free "bool") rfl),
      n_int := He.free_ok X G (c.d.fact 36 (f := .free "int") rfl),
      n_isinstance := He.free_ok X G (c.d.fact 37 (f := .free "isinstance") rfl),
      n_len := He.free_ok X G (c.d.fact 38 (f := .free "len") rfl),
      n_list := He.free_ok X G (c.d.fact 39 (f := .free "list") rfl),
      n_max := He.free_ok X G (c.d.fact 40 (f := .free "max") rfl),
      n_min := He.free_ok X G (c.d.fact 41 (f := .free "min") rfl),
      n_range := He.free_ok X G (c.d.fact 42 (f := .free "range") rfl),
      n_repr := He.free_ok X G (c.d.fact 43 (f := .free "repr") rfl),
      n_tuple := He.free_ok X G (c.d.fact 44 (f := .free "tuple") rfl),
      e_NoBalance := He.ga K "NoBalance",
      m_NoBalance := He.glo_ok X G (c.d.fact 45 (f := .glo "NoBalance") rfl),
      e_NoDeed := He.ga K "NoDeed",
      m_NoDeed := He.glo_ok X G (c.d.fact 46 (f := .glo "NoDeed") rfl),
      e_NoDeeds := He.ga K "NoDeeds",
      m_NoDeeds := He.glo_ok X G (c.d.fact 47 (f := .glo "NoDeeds") rfl),
      e_NoFirm := He.ga K "NoFirm",
      m_NoFirm := He.glo_ok X G (c.d.fact 48 (f := .glo "NoFirm") rfl),
      e_NoFraction := He.ga K "NoFraction",
      m_NoFraction := He.glo_ok X G (c.d.fact 49 (f := .glo "NoFraction") rfl),
      x_NoFraction := (He.exc_ok (c.d.fact 50 (f := .exc "NoFraction") rfl)).1,
      k_NoFraction := (He.exc_ok (c.d.fact 50 (f := .exc "NoFraction") rfl)).2.1,
      s_NoFraction := (He.exc_ok (c.d.fact 50 (f := .exc "NoFraction") rfl)).2.2.1,
      t_NoFraction := (He.exc_ok (c.d.fact 50 (f := .exc "NoFraction") rfl)).2.2.2,
      e_NoFrame := He.ga K "NoFrame",
      m_NoFrame := He.glo_ok X G (c.d.fact 51 (f := .glo "NoFrame") rfl),
      e_NoHolding := He.ga K "NoHolding",
      m_NoHolding := He.glo_ok X G (c.d.fact 52 (f := .glo "NoHolding") rfl),
      e_NoInner := He.ga K "NoInner",
      m_NoInner := He.glo_ok X G (c.d.fact 53 (f := .glo "NoInner") rfl),
      e_NoLine := He.ga K "NoLine",
      m_NoLine := He.glo_ok X G (c.d.fact 54 (f := .glo "NoLine") rfl),
      e_NoLoads := He.ga K "NoLoads",
      m_NoLoads := He.glo_ok X G (c.d.fact 55 (f := .glo "NoLoads") rfl),
      e_NoLot := He.ga K "NoLot",
      m_NoLot := He.glo_ok X G (c.d.fact 56 (f := .glo "NoLot") rfl),
      e_NoMotions := He.ga K "NoMotions",
      m_NoMotions := He.glo_ok X G (c.d.fact 57 (f := .glo "NoMotions") rfl),
      e_NoPiece := He.ga K "NoPiece",
      m_NoPiece := He.glo_ok X G (c.d.fact 58 (f := .glo "NoPiece") rfl),
      e_NoPlate := He.ga K "NoPlate",
      m_NoPlate := He.glo_ok X G (c.d.fact 59 (f := .glo "NoPlate") rfl),
      e_NoRest := He.ga K "NoRest",
      m_NoRest := He.glo_ok X G (c.d.fact 60 (f := .glo "NoRest") rfl),
      e_NoRounds := He.ga K "NoRounds",
      m_NoRounds := He.glo_ok X G (c.d.fact 61 (f := .glo "NoRounds") rfl),
      e_NoRows := He.ga K "NoRows",
      m_NoRows := He.glo_ok X G (c.d.fact 62 (f := .glo "NoRows") rfl),
      e_NoStresses := He.ga K "NoStresses",
      m_NoStresses := He.glo_ok X G (c.d.fact 63 (f := .glo "NoStresses") rfl),
      e_NoText := He.ga K "NoText",
      m_NoText := He.glo_ok X G (c.d.fact 64 (f := .glo "NoText") rfl),
      e_NoThick := He.ga K "NoThick",
      m_NoThick := He.glo_ok X G (c.d.fact 65 (f := .glo "NoThick") rfl),
      e_NoTurning := He.ga K "NoTurning",
      m_NoTurning := He.glo_ok X G (c.d.fact 66 (f := .glo "NoTurning") rfl),
      e_NoWay := He.ga K "NoWay",
      m_NoWay := He.glo_ok X G (c.d.fact 67 (f := .glo "NoWay") rfl),
      e_NoWays := He.ga K "NoWays",
      m_NoWays := He.glo_ok X G (c.d.fact 68 (f := .glo "NoWays") rfl),
      e_NoWhole := He.ga K "NoWhole",
      m_NoWhole := He.glo_ok X G (c.d.fact 69 (f := .glo "NoWhole") rfl),
      x_NoWhole := (He.exc_ok (c.d.fact 70 (f := .exc "NoWhole") rfl)).1,
      k_NoWhole := (He.exc_ok (c.d.fact 70 (f := .exc "NoWhole") rfl)).2.1,
      s_NoWhole := (He.exc_ok (c.d.fact 70 (f := .exc "NoWhole") rfl)).2.2.1,
      t_NoWhole := (He.exc_ok (c.d.fact 70 (f := .exc "NoWhole") rfl)).2.2.2,
      e_NotHeld := He.ga K "NotHeld",
      m_NotHeld := He.glo_ok X G (c.d.fact 71 (f := .glo "NotHeld") rfl),
      e_PlateError := He.ga K "PlateError",
      m_PlateError := He.glo_ok X G (c.d.fact 72 (f := .glo "PlateError") rfl),
      e_TooMany := He.ga K "TooMany",
      m_TooMany := He.glo_ok X G (c.d.fact 73 (f := .glo "TooMany") rfl),
      g_NOUGHT := fun hK hM hg => const_ok X G (c.x 0) hK hM hg (by decide),
      q__law_words := rfl,
      q_law := rfl,
      xt := (exTab_ok X G (c.x 1)).1,
      xe := (exTab_ok X G (c.x 1)).2,
      bk_made_1 := (FunD.zbn1 F11 1 [] [0, 1] (List.map Z.d [(.int 1)]) (by simp [He.DefD.dvs, d_made]) (fun H => .cons (.d (.int _)) (.nil)) fun _ _ _ _ _ _ _ us its ws h1 h2 h3 => match us, h1, its, h2, ws, h3 with | [_], _, [_], _, [], _ => ⟨_, rfl, rfl⟩),
      bk_made_2 := (FunD.zbn1 F11 2 [] [0, 1] (List.map Z.d [(.int 1)]) (by simp [He.DefD.dvs, d_made]) (fun H => .cons (.d (.int _)) (.nil)) fun _ _ _ _ _ _ _ us its ws h1 h2 h3 => match us, h1, its, h2, ws, h3 with | [_, _], _, [_], _, [], _ => ⟨_, rfl, rfl⟩) }, rfl, fun s u => FunD.bindsA (ps := ["_law_script"]) F31 (fun _ _ _ _ _ _ us hl => match us, hl with | [_], _ => rfl) s [u] rfl⟩
end Hd
open PySem PySem.W PySem.Calls PyProof.Rows
set_option maxRecDepth 100000 in
set_option maxHeartbeats 0 in
theorem PySem.Challenge.cw_platerest_k03_fractions_refused_holds : PySem.Challenge.rw_platerest_k03_fractions_refused.Holds := by
  w_on; o_law
  refine HandSHeadRun.head_any (r := OpenLaw.row PySem.Challenge.rw_platerest_k03_fractions_refused) (q := view (OpenLaw.row PySem.Challenge.rw_platerest_k03_fractions_refused).prog [62]) (H := Hd.hk) (ob := Hd.ob) (M := 9000) (loose := Hd.names) (d := HandSHeadRun.topDef (OpenLaw.row PySem.Challenge.rw_platerest_k03_fractions_refused).prog 62) (kwd := []) Hd.ob_eq
    (by kernel_rfl) (fun s => by kernel_rfl) Hd.run (by kernel_rfl) (by kernel_rfl) (by kernel_rfl) (by rfl) (by first | assumption | decide +kernel) (by decide +kernel) ⟨rfl, rfl, rfl, rfl, rfl, by decide +kernel⟩ ?hw ?hc
  case hw => w_witness2
  case hc =>
    refine ZL.zwalkL (l := PySem.Challenge.rw_platerest_k03_fractions_refused) (n := 63) (k := 34) (x := "_law_script") _root_.K.tfL rfl (by decide) (by kernel_rfl) ⟨rfl, by decide, by decide⟩ ?F
    intro w mg fa h Y G hmg0
    obtain ⟨K, KX, c⟩ := Y
    have hmg : mg ("law" : PySem.Str) = some (.ref fa) := by
      have e : (HandSHeadRun.topDef (OpenLaw.row PySem.Challenge.rw_platerest_k03_fractions_refused).prog 62).name = ("law" : PySem.Str) := by kernel_rfl
      rw [← e]
      exact hmg0
    obtain ⟨T, ea, hb⟩ := Hd.facts KX G c
    have e := hmg.symm.trans T.m_law
    cases e
    exact ⟨K, T.fd_law, _, KX, ZL.SaysL.tabs c, hb, fun ns hl => _root_.K.law_true ns hl, fun base _ _ TB => _root_.K.ok_law T TB⟩
