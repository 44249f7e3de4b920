import PyProof.Rows.All
import Wide.All
import OpenK.AllK
import Wide.FinOn
import HandS.Conv
import HandS.Deep
import HandS.Defaults
import HandS.DictComp
import HandS.ExcIs
import HandS.ForMost
import HandS.ForSpec
import HandS.Head0
import HandS.Head1
import HandS.Head2
import HandS.HeadEnd
import HandS.HeadHook1
import HandS.HeadHook2
import HandS.HotCalls
import HandS.IsInst
import HandS.Rev
import HandS.RevRange
import HandS.SetFor
import HandS.Style
import HandS.TryOnly
import HandS.TupAny
import HandS.TupLen
import HandS.TupMul
import HandS.Zip
import KE.KDictKeyed
import KE.KDictPairs
import KE.KDictSum
import KE.KTupSum
import KE.KeyNested
import KE.OsSortAny
import KE.SortData
import PySem.Challenge.RW_shownunseen_k52_fingerprints_and_halls
set_option Elab.async false
set_option linter.all false
set_option maxRecDepth 100000
namespace PP
open PySem PySem.Spec PyProof.Rows L2
abbrev St := L2.St
inductive Sl where
  | no | val (d : PyData) | own (xs : List PyData)
abbrev Sls := List Sl
inductive SV where
  | val (d : PyData) | var (i : Nat)
structure Exn where
  cls : String
  arg : Option Int
  deriving DecidableEq
inductive Out (α : Type) where
  | ok (a : α) (e : Sls) | err (x : Exn) (e : Sls) | stuck
def Sl.data : Sl → Option PyData
  | .no => none
  | .val d => some d
  | .own xs => some (.list xs)
def rd (e : Sls) : SV → PyData
  | .val d => d
  | .var i => ((e[i]?).bind Sl.data).getD .none
def keyD : Key → PyData
  | .inl i => .int i
  | .inr x => .str x
mutual
inductive Rp (K : PySem.W.Frag) (H : Hp) : V → PyData → Prop
  | non : Rp K H .non .none
  | bl (b : Bool) : Rp K H (.bl b) (.bool b)
  | int (i : Int) : Rp K H (.int i) (.int i)
  | str (x : Str) : Rp K H (.str x) (.str x)
  | lst {a : Addr} {xs : List V} {ds : List PyData} : SqL K H a xs → xs.length ≤ sizeLine → RpAll K H xs ds → Rp K H (.ref a) (.list ds)
  | tup {a : Addr} {xs : List V} {ds : List PyData} : SqT K H a xs → xs.length ≤ sizeLine → RpAll K H xs ds → Rp K H (.ref a) (.tuple ds)
  | dct {a : Addr} {xs : List (Key × V)} {ds : List (PyData × PyData)} : H a = some (.dK xs) → xs.length ≤ sizeLine → RpKV K H xs ds → Rp K H (.ref a) (.dict ds)
  | obj (a : Addr) : Rp K H (.ref a) (.dict [(.none, .int (a : Nat))])
  | dcT {a : Addr} {xs : List (List Key × V)} {ds : List (PyData × PyData)} : H a = some (.dT xs) → xs.length ≤ sizeLine → RpTV K H xs ds → Rp K H (.ref a) (.dict ds)
inductive RpAll (K : PySem.W.Frag) (H : Hp) : List V → List PyData → Prop
  | nil : RpAll K H [] []
  | cons {v : V} {vs : List V} {d : PyData} {ds : List PyData} : Rp K H v d → RpAll K H vs ds → RpAll K H (v :: vs) (d :: ds)
inductive RpKV (K : PySem.W.Frag) (H : Hp) : List (Key × V) → List (PyData × PyData) → Prop
  | nil : RpKV K H [] []
  | cons {k : Key} {v : V} {vs : List (Key × V)} {d : PyData} {ds : List (PyData × PyData)} : Rp K H v d → RpKV K H vs ds → RpKV K H ((k, v) :: vs) ((keyD k, d) :: ds)
inductive RpTV (K : PySem.W.Frag) (H : Hp) : List (List Key × V) → List (PyData × PyData) → Prop
  | nil : RpTV K H [] []
  | cons {k : List Key} {v : V} {vs : List (List Key × V)} {d : PyData} {ds : List (PyData × PyData)} : Rp K H v d → RpTV K H vs ds → RpTV K H ((k, v) :: vs) ((.tuple (k.map keyD), d) :: ds)
end
section
variable {K : PySem.W.Frag} {H H' : Hp}
theorem Same.seqT {a : Addr} {xs : List V} (e : Same H H') (h : SqT K H a xs) : SqT K H' a xs := by
  rcases h with (h | ⟨o, h⟩) | h
  · exact .inl (.inl (e _ _ h))
  · exact .inl (.inr ⟨o, e _ _ h⟩)
  · exact .inr h
mutual
theorem Rp.mono (s : Same H H') : ∀ {d : PyData} {v : V}, Rp K H v d → Rp K H' v d
  | _, _, .non => .non
  | _, _, .bl b => .bl b
  | _, _, .int i => .int i
  | _, _, .str x => .str x
  | _, _, .lst q l r => .lst (s.seq q) l (RpAll.mono s r)
  | _, _, .tup q l r => .tup (Same.seqT s q) l (RpAll.mono s r)
  | _, _, .dct q l r => .dct (s _ _ q) l (RpKV.mono s r)
  | _, _, .dcT q l r => .dcT (s _ _ q) l (RpTV.mono s r)
  | _, _, .obj a => .obj a
theorem RpAll.mono (s : Same H H') : ∀ {ds : List PyData} {vs : List V}, RpAll K H vs ds → RpAll K H' vs ds
  | _, _, .nil => .nil
  | _, _, .cons h t => .cons (Rp.mono s h) (RpAll.mono s t)
theorem RpKV.mono (s : Same H H') : ∀ {ds : List (PyData × PyData)} {vs : List (Key × V)}, RpKV K H vs ds → RpKV K H' vs ds
  | _, _, .nil => .nil
  | _, _, .cons h t => .cons (Rp.mono s h) (RpKV.mono s t)
theorem RpTV.mono (s : Same H H') : ∀ {ds : List (PyData × PyData)} {vs : List (List Key × V)}, RpTV K H vs ds → RpTV K H' vs ds
  | _, _, .nil => .nil
  | _, _, .cons h t => .cons (Rp.mono s h) (RpTV.mono s t)
end
theorem RpAll.length : ∀ {vs : List V} {ds : List PyData}, RpAll K H vs ds → vs.length = ds.length
  | _, _, .nil => rfl
  | _, _, .cons _ t => by rw [List.length_cons, List.length_cons, RpAll.length t]
theorem RpAll.get : ∀ {vs : List V} {ds : List PyData} {i : Nat} {d : PyData}, RpAll K H vs ds → ds[i]? = some d → ∃ v, vs[i]? = some v ∧ Rp K H v d
  | _, _, _, _, .nil, e => by simp at e
  | _, _, 0, _, .cons h _, e => by simp at e; subst e; exact ⟨_, rfl, h⟩
  | _, _, i + 1, _, .cons _ t, e => by
    obtain ⟨v, h1, h2⟩ := RpAll.get (i := i) t (by simpa using e)
    exact ⟨v, by simpa using h1, h2⟩
theorem RpAll.getV : ∀ {vs : List V} {ds : List PyData} {i : Nat} {v : V}, RpAll K H vs ds → vs[i]? = some v → ∃ d, ds[i]? = some d ∧ Rp K H v d
  | _, _, _, _, .nil, e => by simp at e
  | _, _, 0, _, .cons h _, e => by simp at e; subst e; exact ⟨_, rfl, h⟩
  | _, _, i + 1, _, .cons _ t, e => by
    obtain ⟨v, h1, h2⟩ := RpAll.getV (i := i) t (by simpa using e)
    exact ⟨v, by simpa using h1, h2⟩
theorem RpAll.append : ∀ {vs ws : List V} {ds es : List PyData}, RpAll K H vs ds → RpAll K H ws es → RpAll K H (vs ++ ws) (ds ++ es)
  | _, _, _, _, .nil, r => r
  | _, _, _, _, .cons h t, r => .cons h (RpAll.append t r)
theorem RpAll.take : ∀ {vs : List V} {ds : List PyData} (n : Nat), RpAll K H vs ds → RpAll K H (vs.take n) (ds.take n)
  | _, _, 0, _ => .nil
  | _, _, _ + 1, .nil => .nil
  | _, _, n + 1, .cons h t => .cons h (RpAll.take n t)
theorem RpAll.drop : ∀ {vs : List V} {ds : List PyData} (n : Nat), RpAll K H vs ds → RpAll K H (vs.drop n) (ds.drop n)
  | _, _, 0, r => r
  | _, _, _ + 1, .nil => .nil
  | _, _, n + 1, .cons _ t => RpAll.drop n t
theorem RpAll.reverse : ∀ {vs : List V} {ds : List PyData}, RpAll K H vs ds → RpAll K H vs.reverse ds.reverse
  | _, _, .nil => .nil
  | _, _, .cons h t => by
    rw [List.reverse_cons, List.reverse_cons]
    exact (RpAll.reverse t).append (.cons h .nil)
theorem RpAll.set {v : V} {d : PyData} (h : Rp K H v d) : ∀ {vs : List V} {ds : List PyData} (i : Nat), RpAll K H vs ds → RpAll K H (vs.set i v) (ds.set i d)
  | _, _, _, .nil => .nil
  | _, _, 0, .cons _ t => .cons h t
  | _, _, i + 1, .cons q t => .cons q (RpAll.set h i t)
theorem RpAll.eraseIdx : ∀ {vs : List V} {ds : List PyData} (i : Nat), RpAll K H vs ds → RpAll K H (vs.eraseIdx i) (ds.eraseIdx i)
  | _, _, _, .nil => .nil
  | _, _, 0, .cons _ t => t
  | _, _, i + 1, .cons q t => .cons q (RpAll.eraseIdx i t)
theorem RpAll.dropLast : ∀ {vs : List V} {ds : List PyData}, RpAll K H vs ds → RpAll K H vs.dropLast ds.dropLast
  | vs, ds, r => by
    rw [List.dropLast_eq_take, List.dropLast_eq_take, r.length]
    exact r.take _
theorem RpAll.rep {vs : List V} {ds : List PyData} (r : RpAll K H vs ds) : ∀ n : Nat, RpAll K H (List.replicate n vs).flatten (List.replicate n ds).flatten
  | 0 => .nil
  | n + 1 => by
    rw [List.replicate_succ, List.replicate_succ, List.flatten_cons, List.flatten_cons]
    exact r.append (RpAll.rep r n)
def flatD : PyData → Bool
  | .none | .bool _ | .int _ | .str _ => true
  | _ => false
theorem Rp.flat {v : V} {d : PyData} (h : Rp K H v d) (f : flatD d = true) (H'' : Hp) : Rp K H'' v d := by
  cases h with
  | non => exact .non
  | bl b => exact .bl b
  | int i => exact .int i
  | str x => exact .str x
  | lst _ _ _ => cases f
  | tup _ _ _ => cases f
  | dct _ _ _ => cases f
  | dcT _ _ _ => cases f
  | obj _ => cases f
mutual
theorem Rp.dp : ∀ {d : PyData} {v : V}, Rp K H v d → d.canLay0 = true → Dp K H v d
  | _, _, .non, _ => .non
  | _, _, .bl b, _ => .bl b
  | _, _, .int i, _ => .int i
  | _, _, .str x, _ => .str x
  | .list ds, _, .lst q l r, c => .lst q (RpAll.dp r (by simpa [PyData.canLay0] using c))
  | .tuple ds, _, .tup q l r, c => .tup q (RpAll.dp r (by simpa [PyData.canLay0] using c))
  | .dict _, _, .dct _ _ _, c => by simp [PyData.canLay0] at c
  | .dict _, _, .dcT _ _ _, c => by simp [PyData.canLay0] at c
  | .dict _, _, .obj _, c => by simp [PyData.canLay0] at c
theorem RpAll.dp : ∀ {ds : List PyData} {vs : List V}, RpAll K H vs ds → PyData.canLayAll0 ds = true → DpAll K H vs ds
  | _, _, .nil, _ => .nil
  | d :: ds, _, .cons h t, c => by
    have c' : d.canLay0 = true ∧ PyData.canLayAll0 ds = true := by simpa [PyData.canLayAll0] using c
    exact .cons (Rp.dp h c'.1) (RpAll.dp t c'.2)
end
end
open Classical in
noncomputable def msk (P : Addr → Prop) (H : Hp) : Hp := fun a => if P a then none else H a
theorem msk_some {P : Addr → Prop} {H : Hp} {a : Addr} {o : HO} : msk P H a = some o ↔ ¬ P a ∧ H a = some o := by
  unfold msk
  by_cases h : P a
  · simp [h]
  · simp [h]
theorem msk_sub {P : Addr → Prop} {H : Hp} : Same (msk P H) H := fun _ _ h => (msk_some.mp h).2
def OwnAt (σ : St) (e : Sls) (a : Addr) : Prop := ∃ (i : Nat) (xs : List PyData), e[i]? = some (Sl.own xs) ∧ σ[i]? = some (some (V.ref a))
def Hid (O : Addr → Prop) (σ : St) (e : Sls) (a : Addr) : Prop := O a ∨ OwnAt σ e a
structure Good (K : PySem.W.Frag) (O : Addr → Prop) (F : List (Nat × V)) (H : Hp) (σ : St) (e : Sls) : Prop where
  len : σ.length = e.length
  old : ∀ a, O a → H a ≠ none
  val : ∀ (i : Nat) (d : PyData), e[i]? = some (Sl.val d) → ∃ v, σ[i]? = some (some v) ∧ Rp K (msk (Hid O σ e) H) v d
  own : ∀ (i : Nat) (xs : List PyData), e[i]? = some (Sl.own xs) → ∃ p ys, σ[i]? = some (some (V.ref p)) ∧ H p = some (.lst ys) ∧ ys.length ≤ sizeLine ∧ RpAll K (msk (Hid O σ e) H) ys xs ∧ ¬ O p
  inj : ∀ (i j : Nat) (xs ys : List PyData) (p : Addr), e[i]? = some (Sl.own xs) → e[j]? = some (Sl.own ys) → σ[i]? = some (some (V.ref p)) → σ[j]? = some (some (V.ref p)) → i = j
  fix : ∀ p ∈ F, σ[p.1]? = some (some p.2)
def SVR (K : PySem.W.Frag) (O : Addr → Prop) (H : Hp) (σ : St) (e : Sls) (v : V) : SV → Prop
  | .val d => Rp K (msk (Hid O σ e) H) v d
  | .var i => σ[i]? = some (some v) ∧ ∃ s : Sl, e[i]? = some s ∧ s.data ≠ none
def Kp (σ : St) (e : Sls) (H : Hp) (σ' : St) (e' : Sls) (H' : Hp) : Prop := ∀ a o, H a = some o → ¬ OwnAt σ e a → H' a = some o ∧ ¬ OwnAt σ' e' a
theorem Kp.refl {σ : St} {e : Sls} {H : Hp} : Kp σ e H σ e H := fun _ _ h n => ⟨h, n⟩
theorem Kp.trans {σ σ1 σ2 : St} {e e1 e2 : Sls} {H H1 H2 : Hp} (a : Kp σ e H σ1 e1 H1) (b : Kp σ1 e1 H1 σ2 e2 H2) : Kp σ e H σ2 e2 H2 := fun c o h n => by
  obtain ⟨h1, n1⟩ := a c o h n
  exact b c o h1 n1
theorem Kp.same {σ : St} {e : Sls} {H H' : Hp} (s : Same H H') : Kp σ e H σ e H' := fun a o h n => ⟨s a o h, n⟩
theorem Kp.vis {O : Addr → Prop} {σ σ' : St} {e e' : Sls} {H H' : Hp} (k : Kp σ e H σ' e' H') : Same (msk (Hid O σ e) H) (msk (Hid O σ' e') H') := fun a o h => by
  obtain ⟨n, h⟩ := msk_some.mp h
  obtain ⟨h', n'⟩ := k a o h fun z => n (.inr z)
  exact msk_some.mpr ⟨fun z => z.elim (fun z => n (.inl z)) n', h'⟩
section
variable {K : PySem.W.Frag} {O : Addr → Prop} {F : List (Nat × V)} {H H' : Hp} {σ σ' : St} {e e' : Sls}
theorem OwnAt.some (g : Good K O F H σ e) {a : Addr} (h : OwnAt σ e a) : ∃ ys, H a = some (.lst ys) := by
  obtain ⟨i, xs, h1, h2⟩ := h
  obtain ⟨p, ys, h3, h4, _⟩ := g.own i xs h1
  rw [h2] at h3; cases h3
  exact ⟨ys, h4⟩
theorem Good.hid (g : Good K O F H σ e) {a : Addr} (h : Hid O σ e a) : H a ≠ none := by
  rcases h with h | h
  · exact g.old a h
  · obtain ⟨ys, q⟩ := OwnAt.some g h
    rw [q]; exact fun z => by cases z
theorem Good.fresh (g : Good K O F H σ e) {a : Addr} (h : H a = none) : ¬ Hid O σ e a := fun z => g.hid z h
theorem msk_same {P : Addr → Prop} (s : Same H H') : Same (msk P H) (msk P H') := fun a o h => by
  obtain ⟨n, h⟩ := msk_some.mp h
  exact msk_some.mpr ⟨n, s a o h⟩
theorem Good.ext (g : Good K O F H σ e) (s : Same H H') : Good K O F H' σ e where
  len := g.len
  old := fun a h z => g.old a h (s.free z)
  val := fun i d h => by
    obtain ⟨v, h1, h2⟩ := g.val i d h
    exact ⟨v, h1, h2.mono (msk_same s)⟩
  own := fun i xs h => by
    obtain ⟨p, ys, h1, h2, h3, h4, h5⟩ := g.own i xs h
    exact ⟨p, ys, h1, s _ _ h2, h3, h4.mono (msk_same s), h5⟩
  inj := g.inj
  fix := g.fix
theorem SVR.ext {v : V} {x : SV} (r : SVR K O H σ e v x) (s : Same H H') : SVR K O H' σ e v x := by
  cases x with
  | val d => exact Rp.mono (msk_same s) r
  | var i => exact r
theorem SVR.kp {v : V} {x : SV} (g : Good K O F H σ e) (g' : Good K O F H' σ e') (r : SVR K O H σ e v x) (k : Kp σ e H σ e' H') (st : ∀ (i : Nat) (s : Sl), e[i]? = some s → s.data ≠ none → ∃ s' : Sl, e'[i]? = some s' ∧ s'.data ≠ none) : SVR K O H' σ e' v x := by
  cases x with
  | val d => exact Rp.mono (k.vis) r
  | var i =>
    obtain ⟨h1, s, h2, h3⟩ := r
    exact ⟨h1, st i s h2 h3⟩
def RpT (K : PySem.W.Frag) (M H : Hp) (v : V) (d : PyData) : Prop :=
  Rp K M v d ∨ ∃ p ys xs, v = .ref p ∧ d = .list xs ∧ H p = some (.lst ys) ∧ ys.length ≤ sizeLine ∧ RpAll K M ys xs
theorem SVR.top {v : V} {x : SV} (g : Good K O F H σ e) (r : SVR K O H σ e v x) : RpT K (msk (Hid O σ e) H) H v (rd e x) := by
  cases x with
  | val d => exact .inl r
  | var i =>
    obtain ⟨h1, s, h2, h3⟩ := r
    cases s with
    | no => exact absurd rfl h3
    | val d =>
      obtain ⟨u, q1, q2⟩ := g.val i d h2
      rw [h1] at q1; cases q1
      refine .inl ?_
      show Rp K _ v (((e[i]?).bind Sl.data).getD .none)
      rw [h2]
      exact q2
    | own xs =>
      obtain ⟨p, ys, q1, q2, q3, q4, q5⟩ := g.own i xs h2
      rw [h1] at q1; cases q1
      refine .inr ⟨p, ys, xs, rfl, ?_, q2, q3, q4⟩
      show (((e[i]?).bind Sl.data).getD .none) = _
      rw [h2]
      rfl
theorem RpT.full {M : Hp} {v : V} {d : PyData} (r : RpT K M H v d) (s : Same M H) : Rp K H v d := by
  rcases r with r | ⟨p, ys, xs, rfl, rfl, h, l, q⟩
  · exact r.mono s
  · exact .lst (.inl (.inl h)) l (q.mono s)
theorem RpT.list {M : Hp} {v : V} {ds : List PyData} (r : RpT K M H v (.list ds)) (s : Same M H) : ∃ a xs, v = .ref a ∧ SqL K H a xs ∧ xs.length ≤ sizeLine ∧ RpAll K M xs ds := by
  rcases r with r | ⟨p, ys, xs, rfl, e, h, l, q⟩
  · cases r with
    | lst q l r => exact ⟨_, _, rfl, s.seq q, l, r⟩
  · cases e
    exact ⟨p, ys, rfl, .inl (.inl h), l, q⟩
theorem RpT.tuple {M : Hp} {v : V} {ds : List PyData} (r : RpT K M H v (.tuple ds)) (s : Same M H) : ∃ a xs, v = .ref a ∧ SqT K H a xs ∧ SqT K M a xs ∧ xs.length ≤ sizeLine ∧ RpAll K M xs ds := by
  rcases r with r | ⟨p, ys, xs, rfl, e, h, l, q⟩
  · cases r with
    | tup q l r => exact ⟨_, _, rfl, Same.seqT s q, q, l, r⟩
  · cases e
theorem RpT.int {M : Hp} {v : V} {i : Int} (r : RpT K M H v (.int i)) : v = .int i := by
  rcases r with r | ⟨p, ys, xs, rfl, e, h, l, q⟩
  · cases r; rfl
  · cases e
theorem RpT.str {M : Hp} {v : V} {i : Str} (r : RpT K M H v (.str i)) : v = .str i := by
  rcases r with r | ⟨p, ys, xs, rfl, e, h, l, q⟩
  · cases r; rfl
  · cases e
theorem RpT.bl {M : Hp} {v : V} {i : Bool} (r : RpT K M H v (.bool i)) : v = .bl i := by
  rcases r with r | ⟨p, ys, xs, rfl, e, h, l, q⟩
  · cases r; rfl
  · cases e
theorem RpT.non {M : Hp} {v : V} (r : RpT K M H v .none) : v = .non := by
  rcases r with r | ⟨p, ys, xs, rfl, e, h, l, q⟩
  · cases r; rfl
  · cases e
end
end PP
set_option maxRecDepth 100000
namespace PP
open PySem PySem.Spec PyProof.Rows L2
def Out.bind {α β : Type} (o : Out α) (g : α → Sls → Out β) : Out β :=
  match o with
  | .ok a e => g a e
  | .err x e => .err x e
  | .stuck => .stuck
def Out.of {α : Type} (o : Option α) (e : Sls) : Out α :=
  match o with
  | some a => .ok a e
  | none => .stuck
def errField (c : String) : Str := if c = "BadJournal" then "row" else "at"
def ER (mg : Str → Option Value) (x : Exn) (cls : Value) (d : Option Addr) (H : Hp) : Prop :=
  ∃ C, mg (Str.ofString x.cls) = some (.ref C) ∧ cls = .ref C ∧
    match x.arg with
    | none => d = none
    | some n => ∃ dd, d = some dd ∧ H dd = some (.xd [(errField x.cls, .int n)])
def Dn (e e' : Sls) : Prop := ∀ (i : Nat) (s : Sl), e[i]? = some s → s.data ≠ none → ∃ s' : Sl, e'[i]? = some s' ∧ s'.data ≠ none
theorem Dn.refl {e : Sls} : Dn e e := fun i s h1 h2 => ⟨s, h1, h2⟩
theorem Dn.trans {e e1 e2 : Sls} (a : Dn e e1) (b : Dn e1 e2) : Dn e e2 := fun i s h1 h2 => by
  obtain ⟨s1, q1, q2⟩ := a i s h1 h2
  exact b i s1 q1 q2
structure Md where
  K : PySem.W.Frag
  mg : Str → Option Value
abbrev _root_.L2.Cx.md (X : Cx) : Md := ⟨X.K, X.mg⟩
def Po {α : Type} (M : Md) (O : Addr → Prop) (F : List (Nat × V)) (σ : St) (e : Sls) (H : Hp) (W : WX) (R : α → Sls → Hp → Prop) : Out α → Prop
  | .ok a e' => ∀ H', Good M.K O F H' σ e' → Kp σ e H σ e' H' → Dn e e' → R a e' H'
  | .err x e' => ∀ cls d H', Good M.K O F H' σ e' → ER M.mg x cls d H' → Kp σ e H σ e' H' → W cls d σ H'
  | .stuck => False
section
variable {α β : Type} {M : Md} {O : Addr → Prop} {F : List (Nat × V)} {σ : St} {e : Sls} {H : Hp} {W : WX}
theorem Po.mono {R R' : α → Sls → Hp → Prop} {o : Out α} (h : Po M O F σ e H W R o) (k : ∀ a e' H', Good M.K O F H' σ e' → Kp σ e H σ e' H' → Dn e e' → R a e' H' → R' a e' H') : Po M O F σ e H W R' o := by
  cases o with
  | ok a e' => exact fun H' g kp d => k a e' H' g kp d (h H' g kp d)
  | err x e' => exact h
  | stuck => exact h
theorem Po.bind {R : β → Sls → Hp → Prop} {o : Out α} {f : α → Sls → Out β} (h : Po M O F σ e H W R (o.bind f)) : Po M O F σ e H W (fun a e1 H1 => Po M O F σ e1 H1 W R (f a e1)) o := by
  cases o with
  | ok a e1 =>
    intro H1 g1 k1 d1
    have h' : Po M O F σ e H W R (f a e1) := h
    show Po M O F σ e1 H1 W R (f a e1)
    cases q : f a e1 with
    | ok b e2 =>
      rw [q] at h'
      exact fun H2 g2 k2 d2 => h' H2 g2 (k1.trans k2) (d1.trans d2)
    | err x e2 =>
      rw [q] at h'
      exact fun cls d H2 g2 er k2 => h' cls d H2 g2 er (k1.trans k2)
    | stuck =>
      rw [q] at h'
      exact h'
  | err x e1 => exact h
  | stuck => exact h
theorem Po.of {R : α → Sls → Hp → Prop} {o : Option α} (h : Po M O F σ e H W R (.of o e)) : ∃ a, o = some a ∧ ∀ H', Same H H' → Good M.K O F H' σ e → R a e H' := by
  cases o with
  | none => exact h.elim
  | some a => exact ⟨a, rfl, fun H' s g => h H' g (Kp.same s) Dn.refl⟩
end
def Op (O : Addr → Prop) (p : Addr) : Addr → Prop := fun a => O a ∨ a = p
def PoN (M : Md) (O : Addr → Prop) (F : List (Nat × V)) (σ : St) (e : Sls) (H : Hp) (W : WX) (Q : VK) : Out (List PyData) → Prop
  | .ok xs e' => ∀ p ys H', Good M.K (Op O p) F H' σ e' → H' p = some (.lst ys) → ys.length ≤ sizeLine → RpAll M.K (msk (Hid (Op O p) σ e') H') ys xs → ¬ O p → (H p = none ∨ OwnAt σ e p) → Kp σ e H σ e' H' → Dn e e' → Q (.ref p) H'
  | .err x e' => ∀ cls d H', Good M.K O F H' σ e' → ER M.mg x cls d H' → Kp σ e H σ e' H' → W cls d σ H'
  | .stuck => False
theorem Kp.new {σ σ' : St} {e e' : Sls} {H H' : Hp} (k : Kp σ e H σ' e' H') {p : Addr} (h : H' p = none ∨ OwnAt σ' e' p) : H p = none ∨ OwnAt σ e p := by
  cases q : H p with
  | none => exact .inl rfl
  | some o =>
    refine .inr (Classical.byContradiction fun n => ?_)
    obtain ⟨h1, h2⟩ := k p o q n
    rcases h with h | h
    · rw [h] at h1; cases h1
    · exact h2 h
section
variable {α : Type} {M : Md} {O : Addr → Prop} {F : List (Nat × V)} {σ : St} {e : Sls} {H : Hp} {W : WX} {Q : VK}
theorem PoN.bind {o : Out α} {f : α → Sls → Out (List PyData)} (h : PoN M O F σ e H W Q (o.bind f)) : Po M O F σ e H W (fun a e1 H1 => PoN M O F σ e1 H1 W Q (f a e1)) o := by
  cases o with
  | ok a e1 =>
    intro H1 g1 k1 d1
    have h' : PoN M O F σ e H W Q (f a e1) := h
    show PoN M O F σ e1 H1 W Q (f a e1)
    cases q : f a e1 with
    | ok b e2 =>
      rw [q] at h'
      exact fun p ys H2 g2 hp hl hr ho hn k2 d2 => h' p ys H2 g2 hp hl hr ho (k1.new hn) (k1.trans k2) (d1.trans d2)
    | err x e2 =>
      rw [q] at h'
      exact fun cls d H2 g2 er k2 => h' cls d H2 g2 er (k1.trans k2)
    | stuck =>
      rw [q] at h'
      exact h'
  | err x e1 => exact h
  | stuck => exact h
theorem Good.bare {K : PySem.W.Frag} {p : Addr} (g : Good K (Op O p) F H σ e) : Good K O F H σ e := by
  have sub : Same (msk (Hid (Op O p) σ e) H) (msk (Hid O σ e) H) := fun a o q => by
    obtain ⟨n, q⟩ := msk_some.mp q
    exact msk_some.mpr ⟨fun z => n (z.elim (fun z => .inl (.inl z)) .inr), q⟩
  refine ⟨g.len, fun a h => g.old a (.inl h), fun i d h => ?_, fun i xs h => ?_, g.inj, g.fix⟩
  · obtain ⟨v, h1, h2⟩ := g.val i d h
    exact ⟨v, h1, h2.mono sub⟩
  · obtain ⟨q, ys, h1, h2, h3, h4, h5⟩ := g.own i xs h
    exact ⟨q, ys, h1, h2, h3, h4.mono sub, fun z => h5 (.inl z)⟩
theorem Good.laid {K : PySem.W.Frag} {p : Addr} {u : HO} (g : Good K O F H σ e) (np : H p = none) : Good K (Op O p) F (upd H p u) σ e ∧ Same (msk (Hid O σ e) H) (msk (Hid (Op O p) σ e) (upd H p u)) := by
  have sub : Same (msk (Hid O σ e) H) (msk (Hid (Op O p) σ e) (upd H p u)) := fun a o q => by
    obtain ⟨n, q⟩ := msk_some.mp q
    have ne : a ≠ p := ne_of_none q np
    refine msk_some.mpr ⟨fun z => ?_, by rw [upd_ne ne]; exact q⟩
    rcases z with (z | z) | z
    · exact n (.inl z)
    · exact ne z
    · exact n (.inr z)
  refine ⟨⟨g.len, fun a h => ?_, fun i d h => ?_, fun i xs h => ?_, g.inj, g.fix⟩, sub⟩
  · rcases h with h | h
    · by_cases c : a = p
      · subst c; rw [upd_same]; exact fun z => by cases z
      · rw [upd_ne c]; exact g.old a h
    · subst h; rw [upd_same]; exact fun z => by cases z
  · obtain ⟨v, h1, h2⟩ := g.val i d h
    exact ⟨v, h1, h2.mono sub⟩
  · obtain ⟨q, ys, h1, h2, h3, h4, h5⟩ := g.own i xs h
    have ne : q ≠ p := ne_of_none h2 np
    exact ⟨q, ys, h1, by rw [upd_ne ne]; exact h2, h3, h4.mono sub, fun z => z.elim h5 ne⟩
theorem PoN.of {o : Option (List PyData)} (g : Good M.K O F H σ e) (h : PoN M O F σ e H W Q (.of o e)) : ∃ d, o = some d ∧ ∀ p ys, H p = none → ys.length ≤ sizeLine → RpAll M.K (msk (Hid O σ e) H) ys d → Q (.ref p) (upd H p (.lst ys)) := by
  cases o with
  | none => exact h.elim
  | some d =>
    refine ⟨d, rfl, fun p ys np hl hr => ?_⟩
    obtain ⟨g', s⟩ := g.laid (u := .lst ys) np
    exact h p ys _ g' upd_same hl (hr.mono s) (fun z => g.old p z np) (.inl np) (Kp.same (fun a o ho => by rw [upd_ne (ne_of_none ho np)]; exact ho)) Dn.refl
end
section
variable (M : Md) (fx : List Nat) (W : WX)
def cE (f : Sls → Out SV) : TE := fun σ H Q => ∃ O F e, (∀ p ∈ F, p.1 ∈ fx) ∧ Good M.K O F H σ e ∧ Po M O F σ e H W (fun x e' H' => ∀ v, SVR M.K O H' σ e' v x → Q v H') (f e)
def cT (f : Sls → Out Bool) : TT := fun σ H Q => ∃ O F e, (∀ p ∈ F, p.1 ∈ fx) ∧ Good M.K O F H σ e ∧ Po M O F σ e H W (fun b _ H' => Q b H') (f e)
def cA (f : Sls → Out (List SV)) : TA := fun σ H Q => ∃ O F e, (∀ p ∈ F, p.1 ∈ fx) ∧ Good M.K O F H σ e ∧ Po M O F σ e H W (fun xs e' H' => ∀ vs, Paired (SVR M.K O H' σ e') vs xs → Q vs H') (f e)
def cN (f : Sls → Out (List PyData)) : TE := fun σ H Q => ∃ O F e, (∀ p ∈ F, p.1 ∈ fx) ∧ Good M.K O F H σ e ∧ PoN M O F σ e H W Q (f e)
def cO (f : Sls → Out (Option Int)) : TO := fun σ H Q => ∃ O F e, (∀ p ∈ F, p.1 ∈ fx) ∧ Good M.K O F H σ e ∧ Po M O F σ e H W (fun b _ H' => Q b H') (f e)
end
theorem _root_.L2.PE.weak {X : Cx} {e : Expr} {t t' : TE} (h : PE X e t) (k : ∀ σ H Q, t' σ H Q → t σ H Q) : PE X e t' := ⟨fun pins s σ H Q I q => h.run pins s σ H Q I (k σ H Q q)⟩
theorem _root_.L2.PT.weak {X : Cx} {e : Expr} {t t' : TT} (h : PT X e t) (k : ∀ σ H Q, t' σ H Q → t σ H Q) : PT X e t' := ⟨fun pins s σ H Q I q => h.run pins s σ H Q I (k σ H Q q)⟩
theorem _root_.L2.PW.weak {X : Cx} {e : Expr} {t t' : TT} (h : PW X e t) (k : ∀ σ H Q, t' σ H Q → t σ H Q) : PW X e t' := ⟨fun wh pins s σ H Q I q => h.run wh pins s σ H Q I (k σ H Q q)⟩
theorem _root_.L2.PA.weak {X : Cx} {e : List Expr} {t t' : TA} (h : PA X e t) (k : ∀ σ H Q, t' σ H Q → t σ H Q) : PA X e t' := ⟨fun pos pins s σ H Q I q => h.run pos pins s σ H Q I (k σ H Q q)⟩
theorem _root_.L2.PO.weak {X : Cx} {e : Option Expr} {t t' : TO} (h : PO X e t) (k : ∀ σ H Q, t' σ H Q → t σ H Q) : PO X e t' := ⟨fun pins s σ H Q I q => h.run pins s σ H Q I (k σ H Q q)⟩
theorem _root_.L2.PS.weak {X : Cx} {e : Stmt} {t t' : TS} (h : PS X e t) (k : ∀ D σ H, t' D σ H → t D σ H) : PS X e t' := ⟨fun pins s σ H D I q => h.run pins s σ H D I (k D σ H q)⟩
theorem _root_.L2.PSs.weak {X : Cx} {e : List Stmt} {t t' : TS} (h : PSs X e t) (k : ∀ D σ H, t' D σ H → t D σ H) : PSs X e t' := ⟨fun pins s σ H D I q => h.run pins s σ H D I (k D σ H q)⟩
def S2 (K : PySem.W.Frag) (r : R2) (op : PyData → PyData → Option PyData) : Prop := ∀ (P : Addr → Prop) (H : Hp) (v u : V) (a b d : PyData) (Q : VK), (∀ a, P a → H a ≠ none) → RpT K (msk P H) H v a → RpT K (msk P H) H u b → op a b = some d →
  (∀ w H', Same H H' → Rp K (msk P H') w d → Q w H') → r v u H Q
def S1 (K : PySem.W.Frag) (r : V → Hp → VK → Prop) (op : PyData → Option PyData) : Prop := ∀ (P : Addr → Prop) (H : Hp) (v : V) (a d : PyData) (Q : VK), (∀ a, P a → H a ≠ none) → RpT K (msk P H) H v a → op a = some d →
  (∀ w H', Same H H' → Rp K (msk P H') w d → Q w H') → r v H Q
def SN (K : PySem.W.Frag) (r : List V → Hp → VK → Prop) (op : List PyData → Option PyData) : Prop := ∀ (P : Addr → Prop) (H : Hp) (vs : List V) (as : List PyData) (d : PyData) (Q : VK), (∀ a, P a → H a ≠ none) → Paired (RpT K (msk P H) H) vs as → op as = some d →
  (∀ w H', Same H H' → Rp K (msk P H') w d → Q w H') → r vs H Q
def S2n (K : PySem.W.Frag) (r : R2) (op : PyData → PyData → Option (List PyData)) : Prop := ∀ (P : Addr → Prop) (H : Hp) (v u : V) (a b : PyData) (d : List PyData) (Q : VK), (∀ a, P a → H a ≠ none) → RpT K (msk P H) H v a → RpT K (msk P H) H u b → op a b = some d →
  (∀ p ys, H p = none → ys.length ≤ sizeLine → RpAll K (msk P H) ys d → Q (.ref p) (upd H p (.lst ys))) → r v u H Q
def SNn (K : PySem.W.Frag) (r : List V → Hp → VK → Prop) (op : List PyData → Option (List PyData)) : Prop := ∀ (P : Addr → Prop) (H : Hp) (vs : List V) (as : List PyData) (d : List PyData) (Q : VK), (∀ a, P a → H a ≠ none) → Paired (RpT K (msk P H) H) vs as → op as = some d →
  (∀ p ys, H p = none → ys.length ≤ sizeLine → RpAll K (msk P H) ys d → Q (.ref p) (upd H p (.lst ys))) → r vs H Q
def un1 (op : PyData → Option PyData) (f : Sls → Out SV) : Sls → Out SV := fun e => (f e).bind fun x e1 => (Out.of (op (rd e1 x)) e1).bind fun d e2 => .ok (.val d) e2
def bin2 (op : PyData → PyData → Option PyData) (f g : Sls → Out SV) : Sls → Out SV := fun e => (f e).bind fun x e1 => (g e1).bind fun y e2 => (Out.of (op (rd e2 x) (rd e2 y)) e2).bind fun d e3 => .ok (.val d) e3
def bin2n (op : PyData → PyData → Option (List PyData)) (f g : Sls → Out SV) : Sls → Out (List PyData) := fun e => (f e).bind fun x e1 => (g e1).bind fun y e2 => Out.of (op (rd e2 x) (rd e2 y)) e2
def argsN (op : List PyData → Option PyData) (f : Sls → Out (List SV)) : Sls → Out SV := fun e => (f e).bind fun xs e1 => (Out.of (op (xs.map (rd e1))) e1).bind fun d e2 => .ok (.val d) e2
def argsNn (op : List PyData → Option (List PyData)) (f : Sls → Out (List SV)) : Sls → Out (List PyData) := fun e => (f e).bind fun xs e1 => Out.of (op (xs.map (rd e1))) e1
def asVal (f : Sls → Out (List PyData)) : Sls → Out SV := fun e => (f e).bind fun xs e1 => .ok (.val (.list xs)) e1
section
variable {X : Cx} {fx : List Nat} {W : WX} {a b : Expr} {fa fb : Sls → Out SV} {pos : Pos}
theorem same_updN {H : Hp} {p : Addr} {o : HO} (h : H p = none) : Same H (upd H p o) := fun b x e => by
  rw [upd_ne (ne_of_none e h)]
  exact e
theorem Good.hd {K : PySem.W.Frag} {O : Addr → Prop} {F : List (Nat × V)} {H : Hp} {σ : St} {e : Sls} (g : Good K O F H σ e) : ∀ a, Hid O σ e a → H a ≠ none := fun _ h => g.hid h
theorem Paired.imp {α β : Type} {R R' : α → β → Prop} (f : ∀ a b, R a b → R' a b) : ∀ {xs : List α} {ys : List β}, Paired R xs ys → Paired R' xs ys
  | _, _, .nil => .nil
  | _, _, .cons h t => .cons (f _ _ h) (Paired.imp f t)
theorem Paired.mapR {α β γ : Type} {R : α → γ → Prop} {g : β → γ} : ∀ {xs : List α} {ys : List β}, Paired (fun a b => R a (g b)) xs ys → Paired R xs (ys.map g)
  | _, _, .nil => .nil
  | _, _, .cons h t => .cons h (Paired.mapR t)
theorem fin {K : PySem.W.Frag} {M : Md} {O : Addr → Prop} {F : List (Nat × V)} {σ : St} {e : Sls} {H : Hp} {W : WX} {Q : VK} {o : Option PyData} (hK : M.K = K) (g : Good M.K O F H σ e)
    (h : Po M O F σ e H W (fun x e' H' => ∀ v, SVR M.K O H' σ e' v x → Q v H') ((Out.of o e).bind fun d e3 => .ok (.val d) e3)) :
    ∃ d, o = some d ∧ ∀ w H', Same H H' → Rp K (msk (Hid O σ e) H') w d → Q w H' := by
  subst hK
  obtain ⟨d, e1, h1⟩ := Po.of (Po.bind h)
  refine ⟨d, e1, fun w H' s r => ?_⟩
  exact h1 H' s (g.ext s) H' (g.ext s) Kp.refl Dn.refl w r
theorem pp_op {op : Operator} {r : R2} {od : PyData → PyData → Option PyData} (ho : OpR X (binaryOp op) r) (hs : S2 X.K r od) (ha : PE X a (cE X.md fx W fa)) (hb : PE X b (cE X.md fx W fb)) : PE X (.BinOp a op b pos) (cE X.md fx W (bin2 od fa fb)) := by
  refine (pe_op ho ha hb).weak fun σ H Q ⟨O, F, e, hF, g, h⟩ => ?_
  refine ⟨O, F, e, hF, g, (Po.bind h).mono fun x e1 H1 g1 k1 d1 h1 v r1 => ?_⟩
  refine ⟨O, F, e1, hF, g1, (Po.bind h1).mono fun y e2 H2 g2 k2 d2 h2 u r2 => ?_⟩
  obtain ⟨d, hd, q⟩ := fin rfl g2 h2
  exact hs (Hid O σ e2) H2 v u _ _ d Q g2.hd ((r1.kp g1 g2 k2 d2).top g2) (r2.top g2) hd q
theorem pp_opn {op : Operator} {r : R2} {od : PyData → PyData → Option (List PyData)} (ho : OpR X (binaryOp op) r) (hs : S2n X.K r od) (ha : PE X a (cE X.md fx W fa)) (hb : PE X b (cE X.md fx W fb)) : PE X (.BinOp a op b pos) (cN X.md fx W (bin2n od fa fb)) := by
  refine (pe_op ho ha hb).weak fun σ H Q ⟨O, F, e, hF, g, h⟩ => ?_
  refine ⟨O, F, e, hF, g, (PoN.bind h).mono fun x e1 H1 g1 k1 d1 h1 v r1 => ?_⟩
  refine ⟨O, F, e1, hF, g1, (PoN.bind h1).mono fun y e2 H2 g2 k2 d2 h2 u r2 => ?_⟩
  obtain ⟨d, hd, q⟩ := PoN.of g2 h2
  exact hs (Hid O σ e2) H2 v u _ _ d Q g2.hd ((r1.kp g1 g2 k2 d2).top g2) (r2.top g2) hd q
theorem pp_val {x : Expr} {f : Sls → Out (List PyData)} (h : PE X x (cN X.md fx W f)) : PE X x (cE X.md fx W (asVal f)) := by
  refine h.weak fun σ H Q ⟨O, F, e, hF, g, h⟩ => ?_
  refine ⟨O, F, e, hF, g, ?_⟩
  have hb := Po.bind h
  cases q : f e with
  | ok xs e1 =>
    rw [q] at hb
    intro p ys H1 g1 hp hl hr ho hn k1 d1
    have g1' := g1.bare
    have np : ¬ Hid O σ e1 p := fun z => z.elim ho fun z => by
      obtain ⟨i, zs, z1, z2⟩ := z
      obtain ⟨p', _, q1, _, _, _, q5⟩ := g1.own i zs z1
      rw [z2] at q1; cases q1
      exact q5 (.inr rfl)
    have sub : Same (msk (Hid (Op O p) σ e1) H1) (msk (Hid O σ e1) H1) := fun a o q => by
      obtain ⟨n, q⟩ := msk_some.mp q
      exact msk_some.mpr ⟨fun z => n (z.elim (fun z => .inl (.inl z)) .inr), q⟩
    exact hb H1 g1' k1 d1 H1 g1' Kp.refl Dn.refl _ (.lst (.inl (.inl (msk_some.mpr ⟨np, hp⟩))) hl (hr.mono sub))
  | err x e1 =>
    rw [q] at hb
    exact hb
  | stuck =>
    rw [q] at hb
    exact hb
theorem pp_un {op : UnaryOp} {r : V → Hp → VK → Prop} {od : PyData → Option PyData} (ho : UnR X (unaryOp op) r) (hs : S1 X.K r od) (ha : PE X a (cE X.md fx W fa)) : PE X (.UnaryOp op a pos) (cE X.md fx W (un1 od fa)) := by
  refine (pe_un ho ha).weak fun σ H Q ⟨O, F, e, hF, g, h⟩ => ?_
  refine ⟨O, F, e, hF, g, (Po.bind h).mono fun x e1 H1 g1 k1 d1 h1 v r1 => ?_⟩
  obtain ⟨d, hd, q⟩ := fin rfl g1 h1
  exact hs (Hid O σ e1) H1 v _ d Q g1.hd (r1.top g1) hd q
theorem pp_cmp {op : CmpOp} {r : R2} {od : PyData → PyData → Option PyData} (ho : OpR X (compareOp op) r) (hs : S2 X.K r od) (ha : PE X a (cE X.md fx W fa)) (hb : PE X b (cE X.md fx W fb)) (hm : behindInMarks op b = false) : PE X (.Compare a [op] [b] pos) (cE X.md fx W (bin2 od fa fb)) := by
  refine (pe_cmpR ho ha hb hm).weak fun σ H Q ⟨O, F, e, hF, g, h⟩ => ?_
  refine ⟨O, F, e, hF, g, (Po.bind h).mono fun x e1 H1 g1 k1 d1 h1 v r1 => ?_⟩
  refine ⟨O, F, e1, hF, g1, (Po.bind h1).mono fun y e2 H2 g2 k2 d2 h2 u r2 => ?_⟩
  obtain ⟨d, hd, q⟩ := fin rfl g2 h2
  exact hs (Hid O σ e2) H2 v u _ _ d Q g2.hd ((r1.kp g1 g2 k2 d2).top g2) (r2.top g2) hd q
theorem pp_ix {r : R2} {od : PyData → PyData → Option PyData} (ho : IxR X r) (hs : S2 X.K r od) (ha : PE X a (cE X.md fx W fa)) (hb : PE X b (cE X.md fx W fb)) (hm : PlainIx b) : PE X (.Subscript a b pos) (cE X.md fx W (bin2 od fa fb)) := by
  refine (pe_ix ho ha hb hm).weak fun σ H Q ⟨O, F, e, hF, g, h⟩ => ?_
  refine ⟨O, F, e, hF, g, (Po.bind h).mono fun x e1 H1 g1 k1 d1 h1 v r1 => ?_⟩
  refine ⟨O, F, e1, hF, g1, (Po.bind h1).mono fun y e2 H2 g2 k2 d2 h2 u r2 => ?_⟩
  obtain ⟨d, hd, q⟩ := fin rfl g2 h2
  exact hs (Hid O σ e2) H2 v u _ _ d Q g2.hd ((r1.kp g1 g2 k2 d2).top g2) (r2.top g2) hd q
def cst (d : PyData) : Sls → Out SV := fun e => .ok (.val d) e
def var (i : Nat) : Sls → Out SV := fun e =>
  match e[i]? with
  | some (Sl.val d) => .ok (.val d) e
  | some (Sl.own _) => .ok (.var i) e
  | _ => .stuck
def frz (i : Nat) : Sls → Out SV := fun e =>
  match e[i]? with
  | some (Sl.val d) => .ok (.val d) e
  | some (Sl.own xs) => .ok (.val (.list xs)) (e.set i (.val (.list xs)))
  | _ => .stuck
theorem pp_cst {x : Expr} {v : V} {d : PyData} (h : PE X x (tC v)) (r : ∀ K H, Rp K H v d) : PE X x (cE X.md fx W (cst d)) := by
  refine h.weak fun σ H Q ⟨O, F, e, hF, g, h⟩ => ?_
  exact h H g Kp.refl Dn.refl v (r _ _)
theorem pp_int {i : Int} {j : Nat} : PE X (.Constant (.int i) j pos) (cE X.md fx W (cst (.int i))) := pp_cst pe_int fun _ _ => .int i
theorem pp_bl {i : Bool} {j : Nat} : PE X (.Constant (.bool i) j pos) (cE X.md fx W (cst (.bool i))) := pp_cst pe_bl fun _ _ => .bl i
theorem pp_non {j : Nat} : PE X (.Constant .none j pos) (cE X.md fx W (cst .none)) := pp_cst pe_non fun _ _ => .non
theorem pp_str {i : Str} {j : Nat} : PE X (.Constant (.str i) j pos) (cE X.md fx W (cst (.str i))) := pp_cst pe_str fun _ _ => .str i
theorem pp_var {i : Nat} {x : Str} (hN : X.N[i]? = some x := by rfl) (hv : Vis X.env.scope x := by first | exact .inl rfl | exact .inr (.inl rfl) | exact .inr (.inr rfl)) (hd : (x == ("__debug__" : Str)) = false := by decide) (hcd : (x == ("__classdict__" : Str)) = false := by decide) :
    PE X (.Name x pos) (cE X.md fx W (var i)) := by
  refine (pe_var (i := i) hN hv hd hcd).weak fun σ H Q ⟨O, F, e, hF, g, h⟩ => ?_
  unfold var at h
  cases q : e[i]? with
  | none => rw [q] at h; exact h.elim
  | some s =>
    rw [q] at h
    cases s with
    | no => exact h.elim
    | val d =>
      obtain ⟨v, h1, h2⟩ := g.val i d q
      exact ⟨v, h1, h H g Kp.refl Dn.refl v h2⟩
    | own xs =>
      obtain ⟨p, ys, h1, h2⟩ := g.own i xs q
      exact ⟨_, h1, h H g Kp.refl Dn.refl _ ⟨h1, _, q, fun z => by cases z⟩⟩
end
section
variable {K : PySem.W.Frag} {O : Addr → Prop} {F : List (Nat × V)} {H : Hp} {σ : St} {e : Sls}
theorem getset {α : Type} {l : List α} {i j : Nat} {x y : α} (h : (l.set i x)[j]? = some y) : (i = j ∧ y = x) ∨ (i ≠ j ∧ l[j]? = some y) := by
  by_cases c : i = j
  · subst c
    refine .inl ⟨rfl, ?_⟩
    rw [List.getElem?_set] at h
    split at h
    · split at h
      · exact (Option.some.inj h).symm
      · cases h
    · contradiction
  · rw [List.getElem?_set_ne c] at h
    exact .inr ⟨c, h⟩
theorem Good.freeze {i : Nat} {xs : List PyData} (g : Good K O F H σ e) (h : e[i]? = some (Sl.own xs)) : Good K O F H σ (e.set i (Sl.val (.list xs))) ∧ Kp σ e H σ (e.set i (Sl.val (.list xs))) H ∧ Dn e (e.set i (Sl.val (.list xs))) ∧ ∀ v, σ[i]? = some (some v) → Rp K (msk (Hid O σ (e.set i (Sl.val (.list xs)))) H) v (.list xs) := by
  have less : ∀ a, OwnAt σ (e.set i (Sl.val (.list xs))) a → OwnAt σ e a := fun a ⟨j, ys, h1, h2⟩ => by
    rcases getset h1 with ⟨_, z⟩ | ⟨_, z⟩
    · cases z
    · exact ⟨j, ys, z, h2⟩
  have sub : Same (msk (Hid O σ e) H) (msk (Hid O σ (e.set i (Sl.val (.list xs)))) H) := fun a o q => by
    obtain ⟨n, q⟩ := msk_some.mp q
    exact msk_some.mpr ⟨fun z => n (z.elim .inl fun z => .inr (less a z)), q⟩
  obtain ⟨p, ys, h1, h2, h3, h4, h5⟩ := g.own i xs h
  have np : ¬ Hid O σ (e.set i (Sl.val (.list xs))) p := fun z => by
    rcases z with z | ⟨j, zs, q1, q2⟩
    · exact h5 z
    · rcases getset q1 with ⟨_, z⟩ | ⟨c, z⟩
      · cases z
      · exact c (g.inj i j xs zs p h z h1 q2)
  have rp : Rp K (msk (Hid O σ (e.set i (Sl.val (.list xs)))) H) (V.ref p) (.list xs) := .lst (.inl (.inl (msk_some.mpr ⟨np, h2⟩))) h3 (h4.mono sub)
  refine ⟨⟨by rw [List.length_set]; exact g.len, g.old, fun j d q => ?_, fun j zs q => ?_, fun j k zs ws q h1 h2 h3 h4 => ?_, g.fix⟩, fun a o q n => ⟨q, fun z => n (less a z)⟩, fun j s q1 q2 => ?_, fun v hv => ?_⟩
  · rcases getset q with ⟨c, z⟩ | ⟨c, z⟩
    · subst c; cases z
      exact ⟨_, h1, rp⟩
    · obtain ⟨v, k1, k2⟩ := g.val j d z
      exact ⟨v, k1, k2.mono sub⟩
  · rcases getset q with ⟨c, z⟩ | ⟨c, z⟩
    · cases z
    · obtain ⟨p', ys', k1, k2, k3, k4, k5⟩ := g.own j zs z
      exact ⟨p', ys', k1, k2, k3, k4.mono sub, k5⟩
  · rcases getset h1 with ⟨c, z⟩ | ⟨c, z1⟩
    · cases z
    · rcases getset h2 with ⟨c, z⟩ | ⟨c, z2⟩
      · cases z
      · exact g.inj j k zs ws q z1 z2 h3 h4
  · by_cases c : i = j
    · subst c
      have hi : i < e.length := (List.getElem?_eq_some_iff.mp h).1
      exact ⟨_, List.getElem?_set_self hi, fun z => by cases z⟩
    · exact ⟨s, by rw [List.getElem?_set_ne c]; exact q1, q2⟩
  · rw [h1] at hv; cases hv
    exact rp
end
section
variable {X : Cx} {fx : List Nat} {W : WX} {a b : Expr} {fa fb : Sls → Out SV} {pos : Pos}
def frzO (x : SV) : Sls → Out SV := fun e =>
  match x with
  | .val d => .ok (.val d) e
  | .var i => frz i e
theorem SVR.freeze {M : Md} {O : Addr → Prop} {F : List (Nat × V)} {H : Hp} {σ : St} {e : Sls} {W : WX} {R : SV → Sls → Hp → Prop} {x : SV} {v : V} (g : Good M.K O F H σ e) (r : SVR M.K O H σ e v x)
    (h : Po M O F σ e H W R (frzO x e)) : ∃ d e', Good M.K O F H σ e' ∧ Kp σ e H σ e' H ∧ Dn e e' ∧ Rp M.K (msk (Hid O σ e') H) v d ∧ R (.val d) e' H ∧ frzO x e = Out.ok (.val d) e' := by
  cases x with
  | val d => exact ⟨d, e, g, Kp.refl, Dn.refl, r, h H g Kp.refl Dn.refl, rfl⟩
  | var i =>
    obtain ⟨h1, s, h2, h3⟩ := r
    have h' : Po M O F σ e H W R (frz i e) := h
    show ∃ d e', _ ∧ _ ∧ _ ∧ _ ∧ _ ∧ frz i e = _
    unfold frz at h' ⊢
    rw [h2] at h' ⊢
    cases s with
    | no => exact absurd rfl h3
    | val d =>
      obtain ⟨u, q1, q2⟩ := g.val i d h2
      rw [h1] at q1; cases q1
      exact ⟨d, e, g, Kp.refl, Dn.refl, q2, h' H g Kp.refl Dn.refl, rfl⟩
    | own xs =>
      obtain ⟨g', k', d', r'⟩ := g.freeze h2
      exact ⟨_, _, g', k', d', r' v h1, h' H g' k' d', rfl⟩
def aNil : Sls → Out (List SV) := fun e => .ok [] e
def aCons (f : Sls → Out SV) (g : Sls → Out (List SV)) : Sls → Out (List SV) := fun e => (f e).bind fun x e1 => (g e1).bind fun xs e2 => .ok (x :: xs) e2
theorem ppa_nil : PA X [] (cA X.md fx W aNil) := pa_nil.weak fun σ H Q ⟨O, F, e, hF, g, h⟩ => h H g Kp.refl Dn.refl [] .nil
theorem ppa_cons {x : Expr} {es : List Expr} {f : Sls → Out SV} {gs : Sls → Out (List SV)} (hx : PE X x (cE X.md fx W f)) (hr : PA X es (cA X.md fx W gs)) (hs : starEach (x :: es) X.env = (false, eval x X.env) :: starEach es X.env := by rfl) : PA X (x :: es) (cA X.md fx W (aCons f gs)) := by
  refine (pa_cons hx hr hs).weak fun σ H Q ⟨O, F, e, hF, g, h⟩ => ?_
  refine ⟨O, F, e, hF, g, (Po.bind h).mono fun x e1 H1 g1 k1 d1 h1 v r1 => ?_⟩
  refine ⟨O, F, e1, hF, g1, (Po.bind h1).mono fun y e2 H2 g2 k2 d2 h2 vs r2 => ?_⟩
  exact h2 H2 g2 Kp.refl Dn.refl _ (.cons (r1.kp g1 g2 k2 d2) r2)
theorem Paired.kp {K : PySem.W.Frag} {O : Addr → Prop} {F : List (Nat × V)} {H H' : Hp} {σ : St} {e e' : Sls} (g : Good K O F H σ e) (g' : Good K O F H' σ e') (k : Kp σ e H σ e' H') (d : Dn e e') {vs : List V} {xs : List SV} (r : Paired (SVR K O H σ e) vs xs) : Paired (SVR K O H' σ e') vs xs :=
  Paired.imp (fun _ _ q => q.kp g g' k d) r
theorem Paired.tops {K : PySem.W.Frag} {O : Addr → Prop} {F : List (Nat × V)} {H : Hp} {σ : St} {e : Sls} (g : Good K O F H σ e) {vs : List V} {xs : List SV} (r : Paired (SVR K O H σ e) vs xs) : Paired (RpT K (msk (Hid O σ e) H) H) vs (xs.map (rd e)) :=
  Paired.mapR (Paired.imp (fun _ _ q => q.top g) r)
theorem pp_callB {x : Str} {p : Pos} {id : String} {r : List V → Hp → VK → Prop} {od : List PyData → Option PyData} {es : List Expr} {fs : Sls → Out (List SV)} (hc : CallR X (.builtin id) r) (hs : SN X.K r od) (hg : Gl X x) (hm : X.mg x = none) (hv : bootBuiltins x = some (.builtin id))
    (ha : PA X (a :: es) (cA X.md fx W fs)) (hn : x ≠ "__name__" := by decide) (hdb : (x == ("__debug__" : Str)) = false := by decide)
    (he : starEach (a :: es) X.env = (false, eval a X.env) :: starEach es X.env := by rfl) (hpl : (backTo pos (starEach es X.env)).any (·.1) = false := by rfl) : PE X (.Call (.Name x p) (a :: es) [] pos) (cE X.md fx W (argsN od fs)) := by
  refine (pe_callB hc hg hm hv ha hn hdb he hpl).weak fun σ H Q ⟨O, F, e, hF, g, h⟩ => ?_
  refine ⟨O, F, e, hF, g, (Po.bind h).mono fun xs e1 H1 g1 k1 d1 h1 vs r1 => ?_⟩
  obtain ⟨d, hd, q⟩ := fin rfl g1 h1
  exact hs (Hid O σ e1) H1 vs _ d Q g1.hd (Paired.tops g1 r1) hd q
theorem pp_callBn {x : Str} {p : Pos} {id : String} {r : List V → Hp → VK → Prop} {od : List PyData → Option (List PyData)} {es : List Expr} {fs : Sls → Out (List SV)} (hc : CallR X (.builtin id) r) (hs : SNn X.K r od) (hg : Gl X x) (hm : X.mg x = none) (hv : bootBuiltins x = some (.builtin id))
    (ha : PA X (a :: es) (cA X.md fx W fs)) (hn : x ≠ "__name__" := by decide) (hdb : (x == ("__debug__" : Str)) = false := by decide)
    (he : starEach (a :: es) X.env = (false, eval a X.env) :: starEach es X.env := by rfl) (hpl : (backTo pos (starEach es X.env)).any (·.1) = false := by rfl) : PE X (.Call (.Name x p) (a :: es) [] pos) (cN X.md fx W (argsNn od fs)) := by
  refine (pe_callB hc hg hm hv ha hn hdb he hpl).weak fun σ H Q ⟨O, F, e, hF, g, h⟩ => ?_
  refine ⟨O, F, e, hF, g, (PoN.bind h).mono fun xs e1 H1 g1 k1 d1 h1 vs r1 => ?_⟩
  obtain ⟨d, hd, q⟩ := PoN.of g1 h1
  exact hs (Hid O σ e1) H1 vs _ d Q g1.hd (Paired.tops g1 r1) hd q
theorem pp_callTy {x : Str} {p : Pos} {T : String} {r : List V → Hp → VK → Prop} {od : List PyData → Option PyData} {es : List Expr} {fs : Sls → Out (List SV)} (hc : CallR X (.type T) r) (hs : SN X.K r od) (hg : Gl X x) (hm : X.mg x = none) (hv : bootBuiltins x = some (.type T))
    (ha : PA X (a :: es) (cA X.md fx W fs)) (hn : x ≠ "__name__" := by decide) (hdb : (x == ("__debug__" : Str)) = false := by decide)
    (he : starEach (a :: es) X.env = (false, eval a X.env) :: starEach es X.env := by rfl) (hpl : (backTo pos (starEach es X.env)).any (·.1) = false := by rfl) : PE X (.Call (.Name x p) (a :: es) [] pos) (cE X.md fx W (argsN od fs)) := by
  refine (pe_callTy hc hg hm hv ha hn hdb he hpl).weak fun σ H Q ⟨O, F, e, hF, g, h⟩ => ?_
  refine ⟨O, F, e, hF, g, (Po.bind h).mono fun xs e1 H1 g1 k1 d1 h1 vs r1 => ?_⟩
  obtain ⟨d, hd, q⟩ := fin rfl g1 h1
  exact hs (Hid O σ e1) H1 vs _ d Q g1.hd (Paired.tops g1 r1) hd q
theorem pp_callTyn {x : Str} {p : Pos} {T : String} {r : List V → Hp → VK → Prop} {od : List PyData → Option (List PyData)} {es : List Expr} {fs : Sls → Out (List SV)} (hc : CallR X (.type T) r) (hs : SNn X.K r od) (hg : Gl X x) (hm : X.mg x = none) (hv : bootBuiltins x = some (.type T))
    (ha : PA X (a :: es) (cA X.md fx W fs)) (hn : x ≠ "__name__" := by decide) (hdb : (x == ("__debug__" : Str)) = false := by decide)
    (he : starEach (a :: es) X.env = (false, eval a X.env) :: starEach es X.env := by rfl) (hpl : (backTo pos (starEach es X.env)).any (·.1) = false := by rfl) : PE X (.Call (.Name x p) (a :: es) [] pos) (cN X.md fx W (argsNn od fs)) := by
  refine (pe_callTy hc hg hm hv ha hn hdb he hpl).weak fun σ H Q ⟨O, F, e, hF, g, h⟩ => ?_
  refine ⟨O, F, e, hF, g, (PoN.bind h).mono fun xs e1 H1 g1 k1 d1 h1 vs r1 => ?_⟩
  obtain ⟨d, hd, q⟩ := PoN.of g1 h1
  exact hs (Hid O σ e1) H1 vs _ d Q g1.hd (Paired.tops g1 r1) hd q
def truD : PyData → Option Bool
  | .none => some false
  | .bool b => some b
  | .int i => some (i != 0)
  | .str x => if x.length ≤ sizeLine then some ((x.length : Int) != 0) else none
  | .list xs => some (!xs.isEmpty)
  | .tuple xs => some (!xs.isEmpty)
  | .dict _ => none
def asT (f : Sls → Out SV) : Sls → Out Bool := fun e => (f e).bind fun x e1 => Out.of (truD (rd e1 x)) e1
theorem isEmptyR {K : PySem.W.Frag} {H : Hp} {vs : List V} {ds : List PyData} (r : RpAll K H vs ds) : (!vs.isEmpty) = !ds.isEmpty := by cases r <;> rfl
theorem truV {K : PySem.W.Frag} {M H : Hp} (s : Same M H) {v : V} {d : PyData} {k : Bool} (r : RpT K M H v d) (h : truD d = some k) : TruV K v H k := by
  cases d with
  | none => rw [r.non]; exact (Option.some.inj h).symm
  | bool b => rw [r.bl]; exact (Option.some.inj h).symm
  | int i => rw [r.int]; exact (Option.some.inj h).symm
  | str x =>
    rw [r.str]
    have h' : (if x.length ≤ sizeLine then some ((x.length : Int) != 0) else none) = some k := h
    split at h'
    · exact ⟨by assumption, (Option.some.inj h').symm⟩
    · cases h'
  | list xs =>
    obtain ⟨a, ys, rfl, q, l, r⟩ := r.list s
    exact .inl ⟨ys, q, by rw [isEmptyR r]; exact (Option.some.inj h).symm⟩
  | tuple xs =>
    obtain ⟨a, ys, rfl, q, _, l, r⟩ := r.tuple s
    exact .inr (.inl ⟨ys, q, by rw [isEmptyR r]; exact (Option.some.inj h).symm⟩)
  | dict _ => cases h
theorem ppt_val (ha : PE X a (cE X.md fx W fa)) (he : ∀ whole, isTrue a X.env whole = (do let v ← whole; standAt a.pos; holding [v] (truthy v)) := by intro _; rfl) : PT X a (cT X.md fx W (asT fa)) := by
  refine (pt_truth ha he).weak fun σ H Q ⟨O, F, e, hF, g, h⟩ => ?_
  refine ⟨O, F, e, hF, g, (Po.bind h).mono fun x e1 H1 g1 k1 d1 h1 v r1 => ?_⟩
  obtain ⟨k, hk, q⟩ := Po.of h1
  exact ⟨k, truV msk_sub (r1.top g1) hk, q H1 (Same.refl _) g1⟩
def asB (f : Sls → Out SV) : Sls → Out Bool := fun e => (f e).bind fun x e1 =>
  match x with
  | .val (.bool b) => .ok b e1
  | _ => .stuck
theorem ppt_cmp {op : CmpOp} {r : R2} {od : PyData → PyData → Option PyData} (ho : OpR X (compareOp op) r) (hs : S2 X.K r od) (ha : PE X a (cE X.md fx W fa)) (hb : PE X b (cE X.md fx W fb)) (hm : behindInMarks op b = false) : PT X (.Compare a [op] [b] pos) (cT X.md fx W (asB (bin2 od fa fb))) := by
  refine (pt_cmpR ho ha hb hm).weak fun σ H Q ⟨O, F, e, hF, g, h⟩ => ?_
  have h0 := Po.bind h
  refine ⟨O, F, e, hF, g, (Po.bind h0).mono fun x e1 H1 g1 k1 d1 h1 v r1 => ?_⟩
  refine ⟨O, F, e1, hF, g1, (Po.bind h1).mono fun y e2 H2 g2 k2 d2 h2 u r2 => ?_⟩
  obtain ⟨d, hd, q⟩ := Po.of (Po.bind h2)
  refine hs (Hid O σ e2) H2 v u _ _ d _ g2.hd ((r1.kp g1 g2 k2 d2).top g2) (r2.top g2) hd fun w H' s rw' => ?_
  have q' := q H' s (g2.ext s) H' (g2.ext s) Kp.refl Dn.refl
  cases d with
  | bool k =>
    cases rw'
    exact ⟨k, rfl, q' H' (g2.ext s) Kp.refl Dn.refl⟩
  | _ => exact q'.elim
def chain (op op' : PyData → PyData → Option PyData) (f g h : Sls → Out SV) : Sls → Out SV := fun e => (f e).bind fun x e1 => (g e1).bind fun y e2 => (Out.of (op (rd e2 x) (rd e2 y)) e2).bind fun d e3 =>
  match d with
  | .bool true => (h e3).bind fun z e4 => (Out.of (op' (rd e4 y) (rd e4 z)) e4).bind fun d' e5 => .ok (.val d') e5
  | .bool false => .ok (.val (.bool false)) e3
  | _ => .stuck
end
end PP
set_option maxRecDepth 100000
namespace PP
open PySem PySem.Spec PyProof.Rows L2
section
variable {X : Cx} {fx : List Nat} {W : WX} {a b c : Expr} {fa fb fc : Sls → Out SV} {pos : Pos} {rest : List Expr}
theorem pp_chain {op op' : CmpOp} {r r' : R2} {od od' : PyData → PyData → Option PyData} (ho : OpR X (compareOp op) r) (ho' : OpR X (compareOp op') r') (hs : S2 X.K r od) (hs' : S2 X.K r' od') (ha : PE X a (cE X.md fx W fa)) (hb : PE X b (cE X.md fx W fb)) (hc : PE X c (cE X.md fx W fc))
    (hm : lastMarks [op, op'] [b, c] = false := by with_unfolding_all rfl) : PE X (.Compare a [op, op'] [b, c] pos) (cE X.md fx W (chain od od' fa fb fc)) := by
  refine (pe_chain ho ho' ha hb hc hm).weak fun σ H Q ⟨O, F, e, hF, g, h⟩ => ?_
  refine ⟨O, F, e, hF, g, (Po.bind h).mono fun x e1 H1 g1 k1 d1 h1 v r1 => ?_⟩
  refine ⟨O, F, e1, hF, g1, (Po.bind h1).mono fun y e2 H2 g2 k2 d2 h2 u r2 => ?_⟩
  obtain ⟨d, hd, q⟩ := Po.of (Po.bind h2)
  refine hs (Hid O σ e2) H2 v u _ _ d _ g2.hd ((r1.kp g1 g2 k2 d2).top g2) (r2.top g2) hd fun w H' s rw' => ?_
  have g3 := g2.ext s
  have q' := q H' s g3
  cases d with
  | bool k =>
    cases rw'
    refine ⟨k, rfl, ?_⟩
    cases k with
    | false => exact q' H' g3 Kp.refl Dn.refl _ (.bl false)
    | true =>
      rw [if_pos rfl]
      refine ⟨O, F, e2, hF, g3, (Po.bind q').mono fun z e4 H4 g4 k4 d4 h4 w' r4 => ?_⟩
      obtain ⟨d', hd', q4⟩ := fin rfl g4 h4
      exact hs' (Hid O σ e4) H4 u w' _ _ d' Q g4.hd (((r2.ext s).kp g3 g4 k4 d4).top g4) (r4.top g4) hd' q4
  | _ => exact q'.elim
theorem ppt_chain {op op' : CmpOp} {r r' : R2} {od od' : PyData → PyData → Option PyData} (ho : OpR X (compareOp op) r) (ho' : OpR X (compareOp op') r') (hs : S2 X.K r od) (hs' : S2 X.K r' od') (ha : PE X a (cE X.md fx W fa)) (hb : PE X b (cE X.md fx W fb)) (hc : PE X c (cE X.md fx W fc))
    (hm : lastMarks [op, op'] [b, c] = false := by with_unfolding_all rfl) : PT X (.Compare a [op, op'] [b, c] pos) (cT X.md fx W (asB (chain od od' fa fb fc))) := by
  refine (pt_chain ho ho' ha hb hc hm).weak fun σ H Q ⟨O, F, e, hF, g, h⟩ => ?_
  have h0 := Po.bind h
  refine ⟨O, F, e, hF, g, (Po.bind h0).mono fun x e1 H1 g1 k1 d1 h1 v r1 => ?_⟩
  refine ⟨O, F, e1, hF, g1, (Po.bind h1).mono fun y e2 H2 g2 k2 d2 h2 u r2 => ?_⟩
  obtain ⟨d, hd, q⟩ := Po.of (Po.bind h2)
  refine hs (Hid O σ e2) H2 v u _ _ d _ g2.hd ((r1.kp g1 g2 k2 d2).top g2) (r2.top g2) hd fun w H' s rw' => ?_
  have g3 := g2.ext s
  have q' := q H' s g3
  cases d with
  | bool k =>
    cases rw'
    refine ⟨k, rfl, ?_⟩
    cases k with
    | false => exact ⟨false, rfl, (q' H' g3 Kp.refl Dn.refl) H' g3 Kp.refl Dn.refl⟩
    | true =>
      rw [if_pos rfl]
      refine ⟨O, F, e2, hF, g3, (Po.bind q').mono fun z e4 H4 g4 k4 d4 h4 w' r4 => ?_⟩
      obtain ⟨d', hd', q4⟩ := Po.of (Po.bind h4)
      refine hs' (Hid O σ e4) H4 u w' _ _ d' _ g4.hd (((r2.ext s).kp g3 g4 k4 d4).top g4) (r4.top g4) hd' fun w2 H5 s5 r5 => ?_
      have g5 := g4.ext s5
      have q5 := q4 H5 s5 g5 H5 g5 Kp.refl Dn.refl
      cases d' with
      | bool k' =>
        cases r5
        exact ⟨k', rfl, q5 H5 g5 Kp.refl Dn.refl⟩
      | _ => exact q5.elim
  | _ => exact q'.elim
def andT (f g : Sls → Out Bool) : Sls → Out Bool := fun e => (f e).bind fun k e1 => if k then g e1 else .ok false e1
def orT (f g : Sls → Out Bool) : Sls → Out Bool := fun e => (f e).bind fun k e1 => if k then .ok true e1 else g e1
def notT (f : Sls → Out Bool) : Sls → Out Bool := fun e => (f e).bind fun k e1 => .ok (!k) e1
theorem ppw_and1 {f : Sls → Out Bool} (h : PT X a (cT X.md fx W f)) : PW X (.BoolOp .And [a] pos) (cT X.md fx W f) := pw_and1 h
theorem ppw_or1 {f : Sls → Out Bool} (h : PT X a (cT X.md fx W f)) : PW X (.BoolOp .Or [a] pos) (cT X.md fx W f) := pw_or1 h
theorem ppw_and {f g : Sls → Out Bool} (h : PT X a (cT X.md fx W f)) (k : PW X (.BoolOp .And (b :: rest) pos) (cT X.md fx W g)) : PW X (.BoolOp .And (a :: b :: rest) pos) (cT X.md fx W (andT f g)) := by
  refine (pw_and h k).weak fun σ H Q ⟨O, F, e, hF, g, h⟩ => ?_
  refine ⟨O, F, e, hF, g, (Po.bind h).mono fun x e1 H1 g1 k1 d1 h1 => ?_⟩
  cases x with
  | true => exact ⟨O, F, e1, hF, g1, h1⟩
  | false => exact h1 H1 g1 Kp.refl Dn.refl
theorem ppw_or {f g : Sls → Out Bool} (h : PT X a (cT X.md fx W f)) (k : PW X (.BoolOp .Or (b :: rest) pos) (cT X.md fx W g)) : PW X (.BoolOp .Or (a :: b :: rest) pos) (cT X.md fx W (orT f g)) := by
  refine (pw_or h k).weak fun σ H Q ⟨O, F, e, hF, g, h⟩ => ?_
  refine ⟨O, F, e, hF, g, (Po.bind h).mono fun x e1 H1 g1 k1 d1 h1 => ?_⟩
  cases x with
  | false => exact ⟨O, F, e1, hF, g1, h1⟩
  | true => exact h1 H1 g1 Kp.refl Dn.refl
theorem ppt_not {f : Sls → Out Bool} (h : PT X a (cT X.md fx W f)) : PT X (.UnaryOp .Not a pos) (cT X.md fx W (notT f)) := by
  refine (pt_not h).weak fun σ H Q ⟨O, F, e, hF, g, h⟩ => ?_
  exact ⟨O, F, e, hF, g, (Po.bind h).mono fun x e1 H1 g1 k1 d1 h1 => h1 H1 g1 Kp.refl Dn.refl⟩
def boolD : PyData → Option Bool
  | .bool b => some b
  | _ => none
theorem RpT.boolD {K : PySem.W.Frag} {M H : Hp} {v : V} {d : PyData} {k : Bool} (r : RpT K M H v d) (h : boolD d = some k) : v = .bl k := by
  cases d with
  | bool b =>
    have e : b = k := Option.some.inj h
    subst e
    exact r.bl
  | _ => cases h
def andV (f g : Sls → Out SV) : Sls → Out SV := fun e => (f e).bind fun x e1 => (Out.of (boolD (rd e1 x)) e1).bind fun k e2 => if k then g e2 else .ok (.val (.bool false)) e2
def orV (f g : Sls → Out SV) : Sls → Out SV := fun e => (f e).bind fun x e1 => (Out.of (boolD (rd e1 x)) e1).bind fun k e2 => if k then .ok (.val (.bool true)) e2 else g e2
def notV (f : Sls → Out SV) : Sls → Out SV := fun e => (f e).bind fun x e1 => (Out.of (boolD (rd e1 x)) e1).bind fun k e2 => .ok (.val (.bool (!k))) e2
theorem pp_one {op : BoolOp} (h : PE X a (cE X.md fx W fa)) : PE X (.BoolOp op [a] pos) (cE X.md fx W fa) := pe_one h
theorem pp_and {g : Sls → Out SV} (h : PE X a (cE X.md fx W fa)) (k : PE X (.BoolOp .And (b :: rest) pos) (cE X.md fx W g)) : PE X (.BoolOp .And (a :: b :: rest) pos) (cE X.md fx W (andV fa g)) := by
  refine (pe_and h k).weak fun σ H Q ⟨O, F, e, hF, g, h⟩ => ?_
  refine ⟨O, F, e, hF, g, (Po.bind h).mono fun x e1 H1 g1 k1 d1 h1 v r1 => ?_⟩
  obtain ⟨c, hc, q⟩ := Po.of (Po.bind h1)
  refine ⟨c, (r1.top g1).boolD hc, ?_⟩
  have q' := q H1 (Same.refl _) g1
  cases c with
  | true => exact ⟨O, F, e1, hF, g1, q'⟩
  | false => exact q' H1 g1 Kp.refl Dn.refl _ (.bl false)
theorem pp_or {g : Sls → Out SV} (h : PE X a (cE X.md fx W fa)) (k : PE X (.BoolOp .Or (b :: rest) pos) (cE X.md fx W g)) : PE X (.BoolOp .Or (a :: b :: rest) pos) (cE X.md fx W (orV fa g)) := by
  refine (pe_or h k).weak fun σ H Q ⟨O, F, e, hF, g, h⟩ => ?_
  refine ⟨O, F, e, hF, g, (Po.bind h).mono fun x e1 H1 g1 k1 d1 h1 v r1 => ?_⟩
  obtain ⟨c, hc, q⟩ := Po.of (Po.bind h1)
  refine ⟨c, (r1.top g1).boolD hc, ?_⟩
  have q' := q H1 (Same.refl _) g1
  cases c with
  | false => exact ⟨O, F, e1, hF, g1, q'⟩
  | true => exact q' H1 g1 Kp.refl Dn.refl _ (.bl true)
theorem pp_not (h : PE X a (cE X.md fx W fa)) : PE X (.UnaryOp .Not a pos) (cE X.md fx W (notV fa)) := by
  refine (pe_not h).weak fun σ H Q ⟨O, F, e, hF, g, h⟩ => ?_
  refine ⟨O, F, e, hF, g, (Po.bind h).mono fun x e1 H1 g1 k1 d1 h1 v r1 => ?_⟩
  obtain ⟨c, hc, q⟩ := Po.of (Po.bind h1)
  exact ⟨c, (r1.top g1).boolD hc, q H1 (Same.refl _) g1 H1 g1 Kp.refl Dn.refl _ (.bl _)⟩
def ifE (t : Sls → Out Bool) (f g : Sls → Out SV) : Sls → Out SV := fun e => (t e).bind fun k e1 => if k then f e1 else g e1
theorem pp_if {t : Sls → Out Bool} (ht : PT X c (cT X.md fx W t)) (ha : PE X a (cE X.md fx W fa)) (hb : PE X b (cE X.md fx W fb)) : PE X (.IfExp c a b pos) (cE X.md fx W (ifE t fa fb)) := by
  refine (pe_ifExp ht ha hb).weak fun σ H Q ⟨O, F, e, hF, g, h⟩ => ?_
  refine ⟨O, F, e, hF, g, (Po.bind h).mono fun x e1 H1 g1 k1 d1 h1 => ?_⟩
  cases x with
  | true => exact ⟨O, F, e1, hF, g1, h1⟩
  | false => exact ⟨O, F, e1, hF, g1, h1⟩
def ifN (t : Sls → Out Bool) (f g : Sls → Out (List PyData)) : Sls → Out (List PyData) := fun e => (t e).bind fun k e1 => if k then f e1 else g e1
theorem pp_ifn {t : Sls → Out Bool} {f g : Sls → Out (List PyData)} (ht : PT X c (cT X.md fx W t)) (ha : PE X a (cN X.md fx W f)) (hb : PE X b (cN X.md fx W g)) : PE X (.IfExp c a b pos) (cN X.md fx W (ifN t f g)) := by
  refine (pe_ifExp ht ha hb).weak fun σ H Q ⟨O, F, e, hF, g, h⟩ => ?_
  refine ⟨O, F, e, hF, g, (PoN.bind h).mono fun x e1 H1 g1 k1 d1 h1 => ?_⟩
  cases x with
  | true => exact ⟨O, F, e1, hF, g1, h1⟩
  | false => exact ⟨O, F, e1, hF, g1, h1⟩
def frzL : List SV → Sls → Out (List PyData)
  | [], e => .ok [] e
  | .val d :: r, e => (frzL r e).bind fun ds e1 => .ok (d :: ds) e1
  | .var i :: r, e => (frz i e).bind fun x e1 => (frzL r e1).bind fun ds e2 => .ok (rd e2 x :: ds) e2
theorem frzL_ok {M : Md} {O : Addr → Prop} {F : List (Nat × V)} {H : Hp} {σ : St} {W : WX} {R : List PyData → Sls → Hp → Prop} : ∀ {xs : List SV} {vs : List V} {e : Sls}, Good M.K O F H σ e → Paired (SVR M.K O H σ e) vs xs → Po M O F σ e H W R (frzL xs e) →
    ∃ ds e', frzL xs e = .ok ds e' ∧ Good M.K O F H σ e' ∧ Kp σ e H σ e' H ∧ Dn e e' ∧ RpAll M.K (msk (Hid O σ e') H) vs ds
  | [], _, e, g, r, h => by
    cases r
    exact ⟨[], e, rfl, g, Kp.refl, Dn.refl, .nil⟩
  | x :: xs, _, e, g, r, h => by
    cases r with
    | cons r1 r2 =>
      rename_i v vs
      have st : ∃ d e1, frzO x e = Out.ok (.val d) e1 ∧ Good M.K O F H σ e1 ∧ Kp σ e H σ e1 H ∧ Dn e e1 ∧ Rp M.K (msk (Hid O σ e1) H) v d := by
        cases x with
        | val d => exact ⟨d, e, rfl, g, Kp.refl, Dn.refl, r1⟩
        | var i =>
          have h' : Po M O F σ e H W (fun _ _ _ => True) (frz i e) := by
            have := Po.bind (show Po M O F σ e H W R ((frz i e).bind fun x e1 => (frzL xs e1).bind fun ds e2 => .ok (rd e2 x :: ds) e2) from h)
            exact this.mono fun _ _ _ _ _ _ _ => trivial
          obtain ⟨d, e1, q1, q2, q3, q4, _, q6⟩ := SVR.freeze (x := .var i) g r1 h'
          exact ⟨d, e1, q6, q1, q2, q3, q4⟩
      obtain ⟨d, e1, he, g1, k1, d1, rp⟩ := st
      have h2 : Po M O F σ e1 H W (fun _ _ _ => True) (frzL xs e1) := by
        cases x with
        | val d' =>
          injection he with z1 z2
          subst z2
          exact (Po.bind (show Po M O F σ e H W R ((frzL xs e).bind fun ds e1 => .ok (d' :: ds) e1) from h)).mono fun _ _ _ _ _ _ _ => trivial
        | var i =>
          have he' : frz i e = Out.ok (.val d) e1 := he
          have h' : Po M O F σ e H W R ((frz i e).bind fun x e1 => (frzL xs e1).bind fun ds e2 => .ok (rd e2 x :: ds) e2) := h
          have hb := Po.bind h'
          rw [he'] at hb
          exact (Po.bind (hb H g1 k1 d1)).mono fun _ _ _ _ _ _ _ => trivial
      obtain ⟨ds, e2, hl, g2, k2, d2, ra⟩ := frzL_ok g1 (Paired.kp g g1 k1 d1 r2) h2
      refine ⟨d :: ds, e2, ?_, g2, k1.trans k2, d1.trans d2, .cons (rp.mono k2.vis) ra⟩
      cases x with
      | val d' =>
        injection he with z1 z2
        subst z2
        injection z1 with z1
        subst z1
        show (frzL xs e).bind (fun ds e1 => .ok (d' :: ds) e1) = _
        rw [hl]
        rfl
      | var i =>
        have he' : frz i e = Out.ok (.val d) e1 := he
        show (frz i e).bind (fun x e1 => (frzL xs e1).bind fun ds e2 => .ok (rd e2 x :: ds) e2) = _
        rw [he']
        show (frzL xs e1).bind (fun ds e2 => .ok (rd e2 (.val d) :: ds) e2) = _
        rw [hl]
        rfl
def dispT (f : Sls → Out (List SV)) : Sls → Out SV := fun e => (f e).bind fun xs e1 => (frzL xs e1).bind fun ds e2 => if ds.length ≤ sizeLine then .ok (.val (.tuple ds)) e2 else .stuck
def dispL (f : Sls → Out (List SV)) : Sls → Out (List PyData) := fun e => (f e).bind fun xs e1 => (frzL xs e1).bind fun ds e2 => if ds.length ≤ sizeLine then .ok ds e2 else .stuck
theorem pp_tup {es : List Expr} {fs : Sls → Out (List SV)} {k : Nat} (h : PA X es (cA X.md fx W fs)) : PE X (.Tuple es k pos) (cE X.md fx W (dispT fs)) := by
  refine (pe_tup h).weak fun σ H Q ⟨O, F, e, hF, g, h⟩ => ?_
  refine ⟨O, F, e, hF, g, (Po.bind h).mono fun xs e1 H1 g1 k1 d1 h1 vs r1 => ?_⟩
  have hb := Po.bind h1
  obtain ⟨ds, e2, he, g2, k2, d2, ra⟩ := frzL_ok g1 r1 hb
  rw [he] at hb
  have hb' := hb H1 g2 k2 d2
  dsimp only at hb'
  by_cases c : ds.length ≤ sizeLine
  · rw [if_pos c] at hb'
    have hl : vs.length ≤ sizeLine := by rw [ra.length]; exact c
    refine ⟨hl, fun p np => ?_⟩
    have s := same_updN (o := .tup vs) np
    have g3 := g2.ext s
    exact hb' _ g3 (Kp.same s) Dn.refl _ (.tup (.inl (.inl (msk_some.mpr ⟨g2.fresh np, upd_same⟩))) hl (ra.mono (msk_same s)))
  · rw [if_neg c] at hb'
    exact hb'.elim
theorem pp_lst {es : List Expr} {fs : Sls → Out (List SV)} (h : PA X es (cA X.md fx W fs)) : PE X (.List es pos) (cN X.md fx W (dispL fs)) := by
  refine (pe_lst h).weak fun σ H Q ⟨O, F, e, hF, g, h⟩ => ?_
  refine ⟨O, F, e, hF, g, (PoN.bind h).mono fun xs e1 H1 g1 k1 d1 h1 vs r1 => ?_⟩
  have hb := PoN.bind h1
  obtain ⟨ds, e2, he, g2, k2, d2, ra⟩ := frzL_ok g1 r1 hb
  rw [he] at hb
  have hb' := hb H1 g2 k2 d2
  dsimp only at hb'
  by_cases c : ds.length ≤ sizeLine
  · rw [if_pos c] at hb'
    have hl : vs.length ≤ sizeLine := by rw [ra.length]; exact c
    refine ⟨hl, fun p np => ?_⟩
    obtain ⟨d, hd, q⟩ := PoN.of (o := some ds) g2 hb'
    cases hd
    exact q p vs np hl ra
  · rw [if_neg c] at hb'
    exact hb'.elim
def intD : PyData → Option Int
  | .int i => some i
  | _ => none
def noPart : Sls → Out (Option Int) := fun e => .ok none e
def part (f : Sls → Out SV) : Sls → Out (Option Int) := fun e => (f e).bind fun x e1 => (Out.of (intD (rd e1 x)) e1).bind fun i e2 => .ok (some i) e2
theorem ppo_none : PO X none (cO X.md fx W noPart) := po_none.weak fun σ H Q ⟨O, F, e, hF, g, h⟩ => h H g Kp.refl Dn.refl
theorem RpT.intD {K : PySem.W.Frag} {M H : Hp} {v : V} {d : PyData} {k : Int} (r : RpT K M H v d) (h : intD d = some k) : v = .int k := by
  cases d with
  | int b =>
    have e : b = k := Option.some.inj h
    subst e
    exact r.int
  | _ => cases h
theorem ppo_some (h : PE X a (cE X.md fx W fa)) : PO X (some a) (cO X.md fx W (part fa)) := by
  refine (po_some h).weak fun σ H Q ⟨O, F, e, hF, g, h⟩ => ?_
  refine ⟨O, F, e, hF, g, (Po.bind h).mono fun x e1 H1 g1 k1 d1 h1 v r1 => ?_⟩
  obtain ⟨c, hc, q⟩ := Po.of (Po.bind h1)
  exact ⟨c, (r1.top g1).intD hc, q H1 (Same.refl _) g1 H1 g1 Kp.refl Dn.refl⟩
def SS (K : PySem.W.Frag) (r : V → Option Int → Option Int → Hp → VK → Prop) (op : PyData → Option Int → Option Int → Option PyData) : Prop := ∀ (P : Addr → Prop) (H : Hp) (v : V) (a d : PyData) (l u : Option Int) (Q : VK), (∀ a, P a → H a ≠ none) → RpT K (msk P H) H v a → op a l u = some d →
  (∀ w H', Same H H' → Rp K (msk P H') w d → Q w H') → r v l u H Q
def SSn (K : PySem.W.Frag) (r : V → Option Int → Option Int → Hp → VK → Prop) (op : PyData → Option Int → Option Int → Option (List PyData)) : Prop := ∀ (P : Addr → Prop) (H : Hp) (v : V) (a : PyData) (d : List PyData) (l u : Option Int) (Q : VK), (∀ a, P a → H a ≠ none) → RpT K (msk P H) H v a → op a l u = some d →
  (∀ p ys, H p = none → ys.length ≤ sizeLine → RpAll K (msk P H) ys d → Q (.ref p) (upd H p (.lst ys))) → r v l u H Q
def slc (op : PyData → Option Int → Option Int → Option PyData) (f : Sls → Out SV) (l u : Sls → Out (Option Int)) : Sls → Out SV := fun e => (f e).bind fun x e1 => (l e1).bind fun i e2 => (u e2).bind fun j e3 => (Out.of (op (rd e3 x) i j) e3).bind fun d e4 => .ok (.val d) e4
def slcN (op : PyData → Option Int → Option Int → Option (List PyData)) (f : Sls → Out SV) (l u : Sls → Out (Option Int)) : Sls → Out (List PyData) := fun e => (f e).bind fun x e1 => (l e1).bind fun i e2 => (u e2).bind fun j e3 => Out.of (op (rd e3 x) i j) e3
theorem pp_slice {lo hi : Option Expr} {p2 : Pos} {r : V → Option Int → Option Int → Hp → VK → Prop} {op : PyData → Option Int → Option Int → Option PyData} {l u : Sls → Out (Option Int)} (hr : SlR X r) (hs : SS X.K r op) (ha : PE X a (cE X.md fx W fa)) (hl : PO X lo (cO X.md fx W l)) (hu : PO X hi (cO X.md fx W u)) :
    PE X (.Subscript a (.Slice lo hi none p2) pos) (cE X.md fx W (slc op fa l u)) := by
  refine (pe_slice hr ha hl hu).weak fun σ H Q ⟨O, F, e, hF, g, h⟩ => ?_
  refine ⟨O, F, e, hF, g, (Po.bind h).mono fun x e1 H1 g1 k1 d1 h1 v r1 => ?_⟩
  refine ⟨O, F, e1, hF, g1, (Po.bind h1).mono fun i e2 H2 g2 k2 d2 h2 => ?_⟩
  refine ⟨O, F, e2, hF, g2, (Po.bind h2).mono fun j e3 H3 g3 k3 d3 h3 => ?_⟩
  obtain ⟨d, hd, q⟩ := fin rfl g3 h3
  exact hs (Hid O σ e3) H3 v _ d i j Q g3.hd (((r1.kp g1 g2 k2 d2).kp g2 g3 k3 d3).top g3) hd q
theorem pp_sliceN {lo hi : Option Expr} {p2 : Pos} {r : V → Option Int → Option Int → Hp → VK → Prop} {op : PyData → Option Int → Option Int → Option (List PyData)} {l u : Sls → Out (Option Int)} (hr : SlR X r) (hs : SSn X.K r op) (ha : PE X a (cE X.md fx W fa)) (hl : PO X lo (cO X.md fx W l)) (hu : PO X hi (cO X.md fx W u)) :
    PE X (.Subscript a (.Slice lo hi none p2) pos) (cN X.md fx W (slcN op fa l u)) := by
  refine (pe_slice hr ha hl hu).weak fun σ H Q ⟨O, F, e, hF, g, h⟩ => ?_
  refine ⟨O, F, e, hF, g, (PoN.bind h).mono fun x e1 H1 g1 k1 d1 h1 v r1 => ?_⟩
  refine ⟨O, F, e1, hF, g1, (PoN.bind h1).mono fun i e2 H2 g2 k2 d2 h2 => ?_⟩
  refine ⟨O, F, e2, hF, g2, (PoN.bind h2).mono fun j e3 H3 g3 k3 d3 h3 => ?_⟩
  obtain ⟨d, hd, q⟩ := PoN.of g3 h3
  exact hs (Hid O σ e3) H3 v _ d i j Q g3.hd (((r1.kp g1 g2 k2 d2).kp g2 g3 k3 d3).top g3) hd q
def tyD (T : String) : PyData → Bool
  | .str _ => T == "str"
  | .int _ => T == "int"
  | .list _ => T == "list"
  | _ => false
theorem tyV_of {K : PySem.W.Frag} {M H : Hp} (s : Same M H) {T : String} {v : V} {d : PyData} (r : RpT K M H v d) (h : tyD T d = true) : tyV K T v H := by
  cases d with
  | str x => rw [r.str]; exact eq_of_beq h
  | int x => rw [r.int]; exact eq_of_beq h
  | list xs =>
    obtain ⟨a, ys, rfl, q, l, _⟩ := r.list s
    exact .inl ⟨eq_of_beq h, ys, q⟩
  | _ => cases h
def SM (K : PySem.W.Frag) (r : V → List V → Hp → VK → Prop) (op : PyData → List PyData → Option PyData) : Prop := ∀ (P : Addr → Prop) (H : Hp) (v : V) (vs : List V) (a : PyData) (as : List PyData) (d : PyData) (Q : VK), (∀ a, P a → H a ≠ none) → RpT K (msk P H) H v a → Paired (RpT K (msk P H) H) vs as → op a as = some d →
  (∀ w H', Same H H' → Rp K (msk P H') w d → Q w H') → r v vs H Q
def meth (T : String) (op : PyData → List PyData → Option PyData) (f : Sls → Out SV) (fs : Sls → Out (List SV)) : Sls → Out SV := fun e => (f e).bind fun x e1 => if tyD T (rd e1 x) then (fs e1).bind fun xs e2 => (Out.of (op (rd e2 x) (xs.map (rd e2))) e2).bind fun d e3 => .ok (.val d) e3 else .stuck
def meth0 (T : String) (op : PyData → List PyData → Option PyData) (f : Sls → Out SV) : Sls → Out SV := fun e => (f e).bind fun x e1 => if tyD T (rd e1 x) then (Out.of (op (rd e1 x) []) e1).bind fun d e3 => .ok (.val d) e3 else .stuck
theorem pp_meth {es : List Expr} {fs : Sls → Out (List SV)} {name : Str} {apos cpos : Pos} {T id : String} {r : V → List V → Hp → VK → Prop} {op : PyData → List PyData → Option PyData} (pa : PlainAttrs T) (slot : Slot T name id) (hty : typeOf (.builtin id) = pure (.type "method_descriptor")) (hm : MtR X id r) (hs : SM X.K r op)
    (ho : PE X a (cE X.md fx W fa)) (ha : PA X (b :: es) (cA X.md fx W fs)) (hbase : attributeBase a name X.env (eval a X.env) = eval a X.env := by rfl)
    (hfew : ((backTo cpos (starEach (b :: es) X.env)).all (fun x => !x.1) && (backToKw cpos (keywordEach [] X.env)).all (fun x => x.1.isSome)
      && decide ((b :: es).length + ([] : List Keyword).length + (if ([] : List Keyword).isEmpty then 0 else 1) < 30)) = true := by rfl)
    (hline : (apos.endLine == cpos.line) = true := by rfl) (hst : starEach (b :: es) X.env = (false, eval b X.env) :: starEach es X.env := by rfl) (hplain : (backTo cpos (starEach es X.env)).any (·.1) = false := by rfl) :
    PE X (.Call (.Attribute a name apos) (b :: es) [] cpos) (cE X.md fx W (meth T op fa fs)) := by
  refine (pe_bm pa slot hty hm ho ha hbase hfew hline hst hplain).weak fun σ H Q ⟨O, F, e, hF, g, h⟩ => ?_
  refine ⟨O, F, e, hF, g, (Po.bind h).mono fun x e1 H1 g1 k1 d1 h1 v r1 => ?_⟩
  by_cases c : tyD T (rd e1 x) = true
  · rw [if_pos c] at h1
    refine ⟨tyV_of msk_sub (r1.top g1) c, O, F, e1, hF, g1, (Po.bind h1).mono fun xs e2 H2 g2 k2 d2 h2 vs r2 => ?_⟩
    obtain ⟨d, hd, q⟩ := fin rfl g2 h2
    exact hs (Hid O σ e2) H2 v vs _ _ d Q g2.hd ((r1.kp g1 g2 k2 d2).top g2) (Paired.tops g2 r2) hd q
  · rw [if_neg c] at h1
    exact h1.elim
theorem pp_meth0 {name : Str} {apos cpos : Pos} {T id : String} {r : V → List V → Hp → VK → Prop} {op : PyData → List PyData → Option PyData} (pa : PlainAttrs T) (slot : Slot T name id) (hty : typeOf (.builtin id) = pure (.type "method_descriptor")) (hm : MtR X id r) (hs : SM X.K r op)
    (ho : PE X a (cE X.md fx W fa)) (hbase : attributeBase a name X.env (eval a X.env) = eval a X.env := by rfl) (hline : (apos.endLine == cpos.line) = true := by rfl) :
    PE X (.Call (.Attribute a name apos) [] [] cpos) (cE X.md fx W (meth0 T op fa)) := by
  refine (pe_bm0 pa slot hty hm ho hbase hline).weak fun σ H Q ⟨O, F, e, hF, g, h⟩ => ?_
  refine ⟨O, F, e, hF, g, (Po.bind h).mono fun x e1 H1 g1 k1 d1 h1 v r1 => ?_⟩
  by_cases c : tyD T (rd e1 x) = true
  · rw [if_pos c] at h1
    obtain ⟨d, hd, q⟩ := fin rfl g1 h1
    exact ⟨tyV_of msk_sub (r1.top g1) c, hs (Hid O σ e1) H1 v [] _ _ d Q g1.hd (r1.top g1) .nil hd q⟩
  · rw [if_neg c] at h1
    exact h1.elim
end
end PP
set_option maxRecDepth 100000
namespace PP
open PySem PySem.Spec PyProof.Rows L2
inductive OutS where
  | nx (e : Sls) | rt (d : PyData) (e : Sls) | rtN (xs : List PyData) (e : Sls) | bk (e : Sls) | ct (e : Sls) | err (x : Exn) (e : Sls) | stuck
def Out.toS {α : Type} (o : Out α) (f : α → Sls → OutS) : OutS :=
  match o with
  | .ok a e => f a e
  | .err x e => .err x e
  | .stuck => .stuck
def PoS (M : Md) (O : Addr → Prop) (F : List (Nat × V)) (σ : St) (e : Sls) (H : Hp) (W : WX) (D : Ends) : OutS → Prop
  | .nx e' => ∀ σ' H', Good M.K O F H' σ' e' → Kp σ e H σ' e' H' → D.nx σ' H'
  | .bk e' => ∀ σ' H', Good M.K O F H' σ' e' → Kp σ e H σ' e' H' → D.bk σ' H'
  | .ct e' => ∀ σ' H', Good M.K O F H' σ' e' → Kp σ e H σ' e' H' → D.ct σ' H'
  | .rt d e' => ∀ v σ' H', Good M.K O F H' σ' e' → Rp M.K (msk (Hid O σ' e') H') v d → Kp σ e H σ' e' H' → D.rt v H'
  | .rtN xs e' => ∀ p ys σ' H', Good M.K (Op O p) F H' σ' e' → H' p = some (.lst ys) → ys.length ≤ sizeLine → RpAll M.K (msk (Hid (Op O p) σ' e') H') ys xs → ¬ O p → (H p = none ∨ OwnAt σ e p) → Kp σ e H σ' e' H' → D.rt (.ref p) H'
  | .err x e' => ∀ cls d σ' H', Good M.K O F H' σ' e' → ER M.mg x cls d H' → Kp σ e H σ' e' H' → W cls d σ' H'
  | .stuck => False
section
variable {α : Type} {M : Md} {O : Addr → Prop} {F : List (Nat × V)} {σ σ1 : St} {e e1 : Sls} {H H1 : Hp} {W : WX} {D : Ends}
theorem PoS.later {o : OutS} (h : PoS M O F σ e H W D o) (k : Kp σ e H σ1 e1 H1) : PoS M O F σ1 e1 H1 W D o := by
  cases o with
  | nx e' => exact fun σ' H' g k' => h σ' H' g (k.trans k')
  | bk e' => exact fun σ' H' g k' => h σ' H' g (k.trans k')
  | ct e' => exact fun σ' H' g k' => h σ' H' g (k.trans k')
  | rt d e' => exact fun v σ' H' g r k' => h v σ' H' g r (k.trans k')
  | rtN xs e' => exact fun p ys σ' H' g hp hl hr ho hn k' => h p ys σ' H' g hp hl hr ho (k.new hn) (k.trans k')
  | err x e' => exact fun cls d σ' H' g er k' => h cls d σ' H' g er (k.trans k')
  | stuck => exact h
theorem PoS.bind {o : Out α} {f : α → Sls → OutS} (h : PoS M O F σ e H W D (o.toS f)) : Po M O F σ e H W (fun a e1 H1 => PoS M O F σ e1 H1 W D (f a e1)) o := by
  cases o with
  | ok a e1 => exact fun H1 g1 k1 d1 => PoS.later (show PoS M O F σ e H W D (f a e1) from h) k1
  | err x e1 => exact fun cls d H' g er k => h cls d σ H' g er k
  | stuck => exact h
theorem PoS.bindN {o : Out (List PyData)} {f : List PyData → Sls → OutS} {Q : VK} (h : PoS M O F σ e H W D (o.toS f))
    (k : ∀ xs e' p ys H', Good M.K (Op O p) F H' σ e' → H' p = some (.lst ys) → ys.length ≤ sizeLine → RpAll M.K (msk (Hid (Op O p) σ e') H') ys xs → ¬ O p → (H p = none ∨ OwnAt σ e p) → Kp σ e H σ e' H' → PoS M O F σ e H W D (f xs e') → Q (.ref p) H') : PoN M O F σ e H W Q o := by
  cases o with
  | ok xs e1 => exact fun p ys H' g hp hl hr ho hn kp _ => k xs e1 p ys H' g hp hl hr ho hn kp h
  | err x e1 => exact fun cls d H' g er k => h cls d σ H' g er k
  | stuck => exact h
end
def cS (M : Md) (fx : List Nat) (W : WX) (g : Sls → OutS) : TS := fun D σ H => ∃ O F e, (∀ p ∈ F, p.1 ∈ fx) ∧ Good M.K O F H σ e ∧ PoS M O F σ e H W D (g e)
section
variable {K : PySem.W.Frag} {O : Addr → Prop} {F : List (Nat × V)} {H : Hp} {σ : St} {e : Sls} {i : Nat}
theorem getset2 {α β : Type} {l : List α} {m : List β} {i j : Nat} {x y : α} {z : β} (hl : m.length = l.length) (h : (l.set i x)[j]? = some y) : (i = j ∧ y = x ∧ (m.set i z)[j]? = some z) ∨ (i ≠ j ∧ l[j]? = some y ∧ (m.set i z)[j]? = m[j]?) := by
  rcases getset h with ⟨c, q⟩ | ⟨c, q⟩
  · subst c
    have hi : i < l.length := by
      have := (List.getElem?_eq_some_iff.mp h).1
      simpa using this
    exact .inl ⟨rfl, q, List.getElem?_set_self (by omega)⟩
  · exact .inr ⟨c, q, List.getElem?_set_ne c⟩
theorem fixSet {v : V} (g : Good K O F H σ e) (hi : ∀ p ∈ F, p.1 ≠ i) : ∀ p ∈ F, (σ.set i (some v))[p.1]? = some (some p.2) := fun p hp => by
  rw [List.getElem?_set_ne (Ne.symm (hi p hp))]
  exact g.fix p hp
theorem Good.setV {v : V} {d : PyData} (g : Good K O F H σ e) (r : Rp K (msk (Hid O σ e) H) v d) (hi : ∀ p ∈ F, p.1 ≠ i) : Good K O F H (σ.set i (some v)) (e.set i (Sl.val d)) ∧ Kp σ e H (σ.set i (some v)) (e.set i (Sl.val d)) H := by
  have less : ∀ a, OwnAt (σ.set i (some v)) (e.set i (Sl.val d)) a → OwnAt σ e a := fun a ⟨j, ys, h1, h2⟩ => by
    rcases getset2 (m := σ) (z := some v) g.len h1 with ⟨_, z, _⟩ | ⟨_, z, z2⟩
    · cases z
    · rw [z2] at h2; exact ⟨j, ys, z, h2⟩
  have sub : Same (msk (Hid O σ e) H) (msk (Hid O (σ.set i (some v)) (e.set i (Sl.val d))) H) := fun a o q => by
    obtain ⟨n, q⟩ := msk_some.mp q
    exact msk_some.mpr ⟨fun z => n (z.elim .inl fun z => .inr (less a z)), q⟩
  refine ⟨⟨by rw [List.length_set, List.length_set]; exact g.len, g.old, fun j d' q => ?_, fun j zs q => ?_, fun j k zs ws p h1 h2 h3 h4 => ?_, fixSet g hi⟩, fun a o q n => ⟨q, fun z => n (less a z)⟩⟩
  · rcases getset2 (m := σ) (z := some v) g.len q with ⟨c, z, z2⟩ | ⟨c, z, z2⟩
    · cases z
      exact ⟨v, z2, r.mono sub⟩
    · obtain ⟨w, q1, q2⟩ := g.val j d' z
      exact ⟨w, by rw [z2]; exact q1, q2.mono sub⟩
  · rcases getset2 (m := σ) (z := some v) g.len q with ⟨c, z, z2⟩ | ⟨c, z, z2⟩
    · cases z
    · obtain ⟨p, ys, q1, q2, q3, q4, q5⟩ := g.own j zs z
      exact ⟨p, ys, by rw [z2]; exact q1, q2, q3, q4.mono sub, q5⟩
  · rcases getset2 (m := σ) (z := some v) g.len h1 with ⟨c, z, z2⟩ | ⟨c, z, z2⟩
    · cases z
    · rcases getset2 (m := σ) (z := some v) g.len h2 with ⟨c', z', z2'⟩ | ⟨c', z', z2'⟩
      · cases z'
      · rw [z2] at h3; rw [z2'] at h4
        exact g.inj j k zs ws p z z' h3 h4
theorem Good.setN {p : Addr} {ys : List V} {xs : List PyData} {σ0 : St} {e0 : Sls} {H0 : Hp} (g : Good K (Op O p) F H σ e) (hp : H p = some (.lst ys)) (hl : ys.length ≤ sizeLine) (hr : RpAll K (msk (Hid (Op O p) σ e) H) ys xs) (ho : ¬ O p)
    (hn : H0 p = none ∨ OwnAt σ0 e0 p) (k : Kp σ0 e0 H0 σ e H) (hi : ∀ q ∈ F, q.1 ≠ i) : Good K O F H (σ.set i (some (V.ref p))) (e.set i (Sl.own xs)) ∧ Kp σ0 e0 H0 (σ.set i (some (V.ref p))) (e.set i (Sl.own xs)) H := by
  have less : ∀ a, OwnAt (σ.set i (some (V.ref p))) (e.set i (Sl.own xs)) a → a = p ∨ OwnAt σ e a := fun a ⟨j, ys, h1, h2⟩ => by
    rcases getset2 (m := σ) (z := some (V.ref p)) g.len h1 with ⟨_, z, z2⟩ | ⟨_, z, z2⟩
    · rw [z2] at h2; cases h2; exact .inl rfl
    · rw [z2] at h2; exact .inr ⟨j, ys, z, h2⟩
  have sub : Same (msk (Hid (Op O p) σ e) H) (msk (Hid O (σ.set i (some (V.ref p))) (e.set i (Sl.own xs))) H) := fun a o q => by
    obtain ⟨n, q⟩ := msk_some.mp q
    exact msk_some.mpr ⟨fun z => n (z.elim (fun z => .inl (.inl z)) fun z => (less a z).elim (fun z => .inl (.inr z)) .inr), q⟩
  have np : ∀ (j : Nat) zs, e[j]? = some (Sl.own zs) → σ[j]? ≠ some (some (V.ref p)) := fun j zs h z => by
    obtain ⟨q, _, q1, _, _, _, q5⟩ := g.own j zs h
    rw [z] at q1; cases q1
    exact q5 (.inr rfl)
  refine ⟨⟨by rw [List.length_set, List.length_set]; exact g.len, fun a h => g.old a (.inl h), fun j d' q => ?_, fun j zs q => ?_, fun j k zs ws q h1 h2 h3 h4 => ?_, fixSet g hi⟩, fun a o q n => ?_⟩
  · rcases getset2 (m := σ) (z := some (V.ref p)) g.len q with ⟨c, z, z2⟩ | ⟨c, z, z2⟩
    · cases z
    · obtain ⟨w, q1, q2⟩ := g.val j d' z
      exact ⟨w, by rw [z2]; exact q1, q2.mono sub⟩
  · rcases getset2 (m := σ) (z := some (V.ref p)) g.len q with ⟨c, z, z2⟩ | ⟨c, z, z2⟩
    · cases z
      exact ⟨p, ys, z2, hp, hl, hr.mono sub, ho⟩
    · obtain ⟨q, ys', q1, q2, q3, q4, q5⟩ := g.own j zs z
      exact ⟨q, ys', by rw [z2]; exact q1, q2, q3, q4.mono sub, fun z => q5 (.inl z)⟩
  · rcases getset2 (m := σ) (z := some (V.ref p)) g.len h1 with ⟨c, z, z2⟩ | ⟨c, z, z2⟩
    · rcases getset2 (m := σ) (z := some (V.ref p)) g.len h2 with ⟨c', z', z2'⟩ | ⟨c', z', z2'⟩
      · exact c.symm.trans c'
      · rw [z2] at h3; cases h3
        rw [z2'] at h4
        exact absurd h4 (np k ws z')
    · rcases getset2 (m := σ) (z := some (V.ref p)) g.len h2 with ⟨c', z', z2'⟩ | ⟨c', z', z2'⟩
      · rw [z2'] at h4; cases h4
        rw [z2] at h3
        exact absurd h3 (np j zs z)
      · rw [z2] at h3; rw [z2'] at h4
        exact g.inj j k zs ws q z z' h3 h4
  · obtain ⟨q1, q2⟩ := k a o q n
    refine ⟨q1, fun z => ?_⟩
    rcases less a z with c | c
    · subst c
      rcases hn with hn | hn
      · rw [hn] at q; cases q
      · exact n hn
    · exact q2 c
theorem Good.drop {p : Addr} {xs : List PyData} (g : Good K O F H σ e) (h : e[i]? = some (Sl.own xs)) (hp : σ[i]? = some (some (V.ref p))) : Good K (Op O p) F H σ (e.set i Sl.no) ∧ (∀ a, Hid (Op O p) σ (e.set i Sl.no) a ↔ Hid O σ e a) ∧ Kp σ e H σ (e.set i Sl.no) H := by
  have less : ∀ a, OwnAt σ (e.set i Sl.no) a → OwnAt σ e a := fun a ⟨j, ys, h1, h2⟩ => by
    rcases getset h1 with ⟨_, z⟩ | ⟨_, z⟩
    · cases z
    · exact ⟨j, ys, z, h2⟩
  have hid : ∀ a, Hid (Op O p) σ (e.set i Sl.no) a ↔ Hid O σ e a := fun a => by
    constructor
    · rintro ((z | z) | z)
      · exact .inl z
      · subst z; exact .inr ⟨i, xs, h, hp⟩
      · exact .inr (less a z)
    · rintro (z | ⟨j, zs, q1, q2⟩)
      · exact .inl (.inl z)
      · by_cases c : i = j
        · subst c
          rw [hp] at q2; cases q2
          exact .inl (.inr rfl)
        · exact .inr ⟨j, zs, by rw [List.getElem?_set_ne c]; exact q1, q2⟩
  have sub : Same (msk (Hid O σ e) H) (msk (Hid (Op O p) σ (e.set i Sl.no)) H) := fun a o q => by
    obtain ⟨n, q⟩ := msk_some.mp q
    exact msk_some.mpr ⟨fun z => n ((hid a).mp z), q⟩
  refine ⟨⟨by rw [List.length_set]; exact g.len, fun a z => ?_, fun j d q => ?_, fun j zs q => ?_, fun j k zs ws q h1 h2 h3 h4 => ?_, g.fix⟩, hid, fun a o q n => ⟨q, fun z => n (less a z)⟩⟩
  · rcases z with z | z
    · exact g.old a z
    · subst z
      obtain ⟨ys, q⟩ := OwnAt.some g ⟨i, xs, h, hp⟩
      rw [q]; exact fun z => by cases z
  · rcases getset q with ⟨_, z⟩ | ⟨_, z⟩
    · cases z
    · obtain ⟨w, q1, q2⟩ := g.val j d z
      exact ⟨w, q1, q2.mono sub⟩
  · rcases getset q with ⟨_, z⟩ | ⟨c, z⟩
    · cases z
    · obtain ⟨q, ys', q1, q2, q3, q4, q5⟩ := g.own j zs z
      refine ⟨q, ys', q1, q2, q3, q4.mono sub, fun z' => z'.elim q5 fun z' => ?_⟩
      subst z'
      exact c (g.inj i j xs zs q h z hp q1)
  · rcases getset h1 with ⟨_, z⟩ | ⟨_, z⟩
    · cases z
    · rcases getset h2 with ⟨_, z'⟩ | ⟨_, z'⟩
      · cases z'
      · exact g.inj j k zs ws q z z' h3 h4
theorem Good.upd {p : Addr} {xs xs' : List PyData} {ys' : List V} (g : Good K O F H σ e) (h : e[i]? = some (Sl.own xs)) (hp : σ[i]? = some (some (V.ref p))) (hl : ys'.length ≤ sizeLine) (hr : RpAll K (msk (Hid O σ e) H) ys' xs') :
    Good K O F (L2.upd H p (.lst ys')) σ (e.set i (Sl.own xs')) ∧ Kp σ e H σ (e.set i (Sl.own xs')) (L2.upd H p (.lst ys')) ∧ Dn e (e.set i (Sl.own xs')) ∧ Same (msk (Hid O σ e) H) (msk (Hid O σ (e.set i (Sl.own xs'))) (L2.upd H p (.lst ys'))) := by
  have less : ∀ a, OwnAt σ (e.set i (Sl.own xs')) a → OwnAt σ e a := fun a ⟨j, ys, h1, h2⟩ => by
    rcases getset h1 with ⟨c, z⟩ | ⟨_, z⟩
    · subst c; exact ⟨i, xs, h, h2⟩
    · exact ⟨j, ys, z, h2⟩
  have own : OwnAt σ e p := ⟨i, xs, h, hp⟩
  have hi : i < e.length := (List.getElem?_eq_some_iff.mp h).1
  have sub : Same (msk (Hid O σ e) H) (msk (Hid O σ (e.set i (Sl.own xs'))) (L2.upd H p (.lst ys'))) := fun a o q => by
    obtain ⟨n, q⟩ := msk_some.mp q
    have ne : a ≠ p := fun z => n (by rw [z]; exact .inr own)
    exact msk_some.mpr ⟨fun z => n (z.elim .inl fun z => .inr (less a z)), by rw [upd_ne ne]; exact q⟩
  have hother : ∀ a, a ≠ p → L2.upd H p (.lst ys') a = H a := fun a ne => upd_ne ne
  refine ⟨⟨by rw [List.length_set]; exact g.len, fun a z => ?_, fun j d q => ?_, fun j zs q => ?_, fun j k zs ws q h1 h2 h3 h4 => ?_, g.fix⟩, fun a o q n => ?_, fun j s q1 q2 => ?_, sub⟩
  · by_cases c : a = p
    · subst c; rw [upd_same]; exact fun z => by cases z
    · rw [upd_ne c]; exact g.old a z
  · rcases getset q with ⟨_, z⟩ | ⟨_, z⟩
    · cases z
    · obtain ⟨w, q1, q2⟩ := g.val j d z
      exact ⟨w, q1, q2.mono sub⟩
  · rcases getset q with ⟨c, z⟩ | ⟨c, z⟩
    · cases z; subst c
      obtain ⟨q, ys2, q1, q2, q3, q4, q5⟩ := g.own i xs h
      rw [hp] at q1; cases q1
      exact ⟨p, ys', hp, upd_same, hl, hr.mono sub, q5⟩
    · obtain ⟨q, ys2, q1, q2, q3, q4, q5⟩ := g.own j zs z
      have ne : q ≠ p := fun z' => c (by subst z'; exact g.inj i j xs zs q h z hp q1)
      exact ⟨q, ys2, q1, by rw [upd_ne ne]; exact q2, q3, q4.mono sub, q5⟩
  · have k1 : ∃ zs', e[j]? = some (Sl.own zs') := by
      rcases getset h1 with ⟨c, z⟩ | ⟨_, z⟩
      · subst c; exact ⟨xs, h⟩
      · exact ⟨zs, z⟩
    have k2 : ∃ zs', e[k]? = some (Sl.own zs') := by
      rcases getset h2 with ⟨c, z⟩ | ⟨_, z⟩
      · subst c; exact ⟨xs, h⟩
      · exact ⟨ws, z⟩
    obtain ⟨z1, q1⟩ := k1
    obtain ⟨z2, q2⟩ := k2
    exact g.inj j k z1 z2 q q1 q2 h3 h4
  · have ne : a ≠ p := fun z => n (by rw [z]; exact own)
    exact ⟨by rw [upd_ne ne]; exact q, fun z => n (less a z)⟩
  · by_cases c : i = j
    · subst c
      exact ⟨_, List.getElem?_set_self hi, fun z => by cases z⟩
    · exact ⟨s, by rw [List.getElem?_set_ne c]; exact q1, q2⟩
end
section
variable {X : Cx} {fx : List Nat} {W : WX} {a b c : Expr} {fa fb : Sls → Out SV} {pos : Pos} {st : Stmt} {rest : List Stmt} {g1 g2 : Sls → OutS}
def nxS : Sls → OutS := fun e => .nx e
def seqS (g1 g2 : Sls → OutS) : Sls → OutS := fun e =>
  match g1 e with
  | .nx e' => g2 e'
  | r => r
theorem ppss_nil : PSs X [] (cS X.md fx W nxS) := pss_nil.weak fun D σ H ⟨O, F, e, hF, g, h⟩ => h σ H g Kp.refl
theorem ppss_one (h : PS X st (cS X.md fx W g1)) : PSs X [st] (cS X.md fx W g1) := pss_one h
theorem ppss_cons (h1 : PS X st (cS X.md fx W g1)) (h2 : PSs X rest (cS X.md fx W g2)) : PSs X (st :: rest) (cS X.md fx W (seqS g1 g2)) := by
  refine (pss_cons h1 h2).weak fun D σ H ⟨O, F, e, hF, g, h⟩ => ?_
  refine ⟨O, F, e, hF, g, ?_⟩
  have h' : PoS X.md O F σ e H W D (match g1 e with | .nx e' => g2 e' | r => r) := h
  cases q : g1 e with
  | nx e' =>
    rw [q] at h'
    exact fun σ' H' g' k' => ⟨O, F, e', hF, g', PoS.later h' k'⟩
  | rt d e' => rw [q] at h'; exact h'
  | rtN d e' => rw [q] at h'; exact h'
  | bk e' => rw [q] at h'; exact h'
  | ct e' => rw [q] at h'; exact h'
  | err x e' => rw [q] at h'; exact h'
  | stuck => rw [q] at h'; exact h'
theorem pps_pass : PS X (.Pass pos) (cS X.md fx W nxS) := ps_pass.weak fun D σ H ⟨O, F, e, hF, g, h⟩ => h σ H g Kp.refl
def bkS : Sls → OutS := fun e => .bk e
def ctS : Sls → OutS := fun e => .ct e
theorem pps_break : PS X (.Break pos) (cS X.md fx W bkS) := ps_break.weak fun D σ H ⟨O, F, e, hF, g, h⟩ => h σ H g Kp.refl
theorem pps_continue : PS X (.Continue pos) (cS X.md fx W ctS) := ps_continue.weak fun D σ H ⟨O, F, e, hF, g, h⟩ => h σ H g Kp.refl
def ifS (t : Sls → Out Bool) (g1 g2 : Sls → OutS) : Sls → OutS := fun e => (t e).toS fun k e1 => if k then g1 e1 else g2 e1
theorem pps_if {t : Sls → Out Bool} {sa sb : List Stmt} (ht : PT X c (cT X.md fx W t)) (ha : PSs X sa (cS X.md fx W g1)) (hb : PSs X sb (cS X.md fx W g2)) : PS X (.If c sa sb pos) (cS X.md fx W (ifS t g1 g2)) := by
  refine (ps_if ht ha hb).weak fun D σ H ⟨O, F, e, hF, g, h⟩ => ?_
  refine ⟨O, F, e, hF, g, (PoS.bind h).mono fun k e1 H1 g1 k1 d1 h1 => ?_⟩
  cases k with
  | true => exact ⟨O, F, e1, hF, g1, h1⟩
  | false => exact ⟨O, F, e1, hF, g1, h1⟩
def dropS (f : Sls → Out SV) : Sls → OutS := fun e => (f e).toS fun _ e1 => .nx e1
theorem pps_expr (h : PE X a (cE X.md fx W fa)) (hs : swapsWith a none pos.line X.env = pure false := by rfl) : PS X (.Expr a pos) (cS X.md fx W (dropS fa)) := by
  refine (ps_expr h hs).weak fun D σ H ⟨O, F, e, hF, g, h⟩ => ?_
  exact ⟨O, F, e, hF, g, (PoS.bind h).mono fun x e1 H1 g1 k1 d1 h1 v _ => h1 σ H1 g1 Kp.refl⟩
theorem pps_doc {x : Str} {j : Nat} {pos' : Pos} : PS X (.Expr (.Constant (.str x) j pos) pos') (cS X.md fx W nxS) := ps_doc.weak fun D σ H ⟨O, F, e, hF, g, h⟩ => h σ H g Kp.refl
def setS (i : Nat) (f : Sls → Out SV) : Sls → OutS := fun e => (f e).toS fun x e1 =>
  (frzO x e1).toS fun y e2 =>
    match y with
    | .val d => .nx (e2.set i (.val d))
    | _ => .stuck
theorem SVR.freezeS {M : Md} {O : Addr → Prop} {F : List (Nat × V)} {H : Hp} {σ : St} {e : Sls} {W : WX} {D : Ends} {f : SV → Sls → OutS} {x : SV} {v : V} (g : Good M.K O F H σ e) (r : SVR M.K O H σ e v x)
    (h : PoS M O F σ e H W D ((frzO x e).toS f)) : ∃ d e', Good M.K O F H σ e' ∧ Kp σ e H σ e' H ∧ Rp M.K (msk (Hid O σ e') H) v d ∧ PoS M O F σ e' H W D (f (.val d) e') := by
  have hb := PoS.bind h
  obtain ⟨d, e', q1, q2, q3, q4, q5, _⟩ := SVR.freeze g r hb
  exact ⟨d, e', q1, q2, q4, q5⟩
theorem pps_set {i : Nat} {x : Str} {pos' : Pos} (hi' : fx.contains i = false) (ha : PE X a (cE X.md fx W fa)) (hN : X.N.Nodup) (hi : X.N[i]? = some x := by rfl) (hx : Loc X.env.scope x := by first | exact .inl rfl | exact .inr rfl) (hs : swapsWith a (some (.Name x pos')) pos.line X.env = pure false := by rfl)
    (hf : X.fn x = true ∨ X.env.scope.names.lookup x = some .local := by first | exact .inl rfl | exact .inr rfl) : PS X (.Assign [.Name x pos'] a pos) (cS X.md fx W (setS i fa)) := by
  refine (ps_set hN hi hx ha hs hf).weak fun D σ H ⟨O, F, e, hF, g, h⟩ => ?_
  refine ⟨O, F, e, hF, g, (PoS.bind h).mono fun y e1 H1 g1 k1 d1 h1 v r1 => ?_⟩
  have ne : ∀ p ∈ F, p.1 ≠ i := fun p hp z => by
    have := hF p hp
    rw [z] at this
    rw [List.contains_iff_mem.mpr this] at hi'
    cases hi'
  obtain ⟨d, e2, g2, k2, r2, h2⟩ := SVR.freezeS g1 r1 h1
  obtain ⟨g3, k3⟩ := g2.setV r2 ne
  exact h2 _ H1 g3 k3
def setN (i : Nat) (f : Sls → Out (List PyData)) : Sls → OutS := fun e => (f e).toS fun xs e1 => .nx (e1.set i (.own xs))
theorem fx_ne {i : Nat} {F : List (Nat × V)} (hi' : fx.contains i = false) (hF : ∀ p ∈ F, p.1 ∈ fx) : ∀ p ∈ F, p.1 ≠ i := fun p hp z => by
  have := hF p hp
  rw [z] at this
  rw [List.contains_iff_mem.mpr this] at hi'
  cases hi'
theorem setN_ok {f : Sls → Out (List PyData)} {i : Nat} {D : Ends} {σ : St} {H : Hp} (hi' : fx.contains i = false) (h : cS X.md fx W (setN i f) D σ H) : cN X.md fx W f σ H (fun x H1 => gName i x σ H1 D.nx) := by
  obtain ⟨O, F, e, hF, g, h⟩ := h
  refine ⟨O, F, e, hF, g, PoS.bindN h fun xs e1 p ys H1 g1 hp hl hr ho hn k1 h1 => ?_⟩
  obtain ⟨g3, k3⟩ := g1.setN hp hl hr ho hn k1 (fx_ne hi' hF)
  exact h1 _ H1 g3 k3
theorem pps_setN {f : Sls → Out (List PyData)} {i : Nat} {x : Str} {pos' : Pos} (hi' : fx.contains i = false) (ha : PE X a (cN X.md fx W f)) (hN : X.N.Nodup) (hi : X.N[i]? = some x := by rfl) (hx : Loc X.env.scope x := by first | exact .inl rfl | exact .inr rfl) (hs : swapsWith a (some (.Name x pos')) pos.line X.env = pure false := by rfl)
    (hf : X.fn x = true ∨ X.env.scope.names.lookup x = some .local := by first | exact .inl rfl | exact .inr rfl) : PS X (.Assign [.Name x pos'] a pos) (cS X.md fx W (setN i f)) :=
  (ps_set hN hi hx ha hs hf).weak fun D σ H h => setN_ok hi' h
def retS (f : Sls → Out SV) : Sls → OutS := fun e => (f e).toS fun x e1 =>
  (frzO x e1).toS fun y e2 =>
    match y with
    | .val d => .rt d e2
    | _ => .stuck
theorem pps_ret (ha : PE X a (cE X.md fx W fa)) : PS X (.Return (some a) pos) (cS X.md fx W (retS fa)) := by
  refine (ps_ret ha).weak fun D σ H ⟨O, F, e, hF, g, h⟩ => ?_
  refine ⟨O, F, e, hF, g, (PoS.bind h).mono fun y e1 H1 g1 k1 d1 h1 v r1 => ?_⟩
  obtain ⟨d, e2, g2, k2, r2, h2⟩ := SVR.freezeS g1 r1 h1
  exact h2 v σ H1 g2 r2 Kp.refl
def retNone : Sls → OutS := fun e => .rt .none e
theorem pps_retN : PS X (.Return none pos) (cS X.md fx W retNone) := ps_retN.weak fun D σ H ⟨O, F, e, hF, g, h⟩ => h .non σ H g .non Kp.refl
def retL (f : Sls → Out (List PyData)) : Sls → OutS := fun e => (f e).toS fun xs e1 => .rtN xs e1
theorem pps_retL {f : Sls → Out (List PyData)} (ha : PE X a (cN X.md fx W f)) : PS X (.Return (some a) pos) (cS X.md fx W (retL f)) := by
  refine (ps_ret ha).weak fun D σ H ⟨O, F, e, hF, g, h⟩ => ?_
  refine ⟨O, F, e, hF, g, PoS.bindN h fun xs e1 p ys H1 g1 hp hl hr ho hn k1 h1 => h1 p ys σ H1 g1 hp hl hr ho hn k1⟩
def retO (i : Nat) : Sls → OutS := fun e =>
  match e[i]? with
  | some (Sl.own xs) => .rtN xs (e.set i .no)
  | _ => .stuck
theorem pps_retO {i : Nat} {x : Str} {pos' : Pos} (hN : X.N[i]? = some x := by rfl) (hv : Vis X.env.scope x := by first | exact .inl rfl | exact .inr (.inl rfl) | exact .inr (.inr rfl)) (hd : (x == ("__debug__" : Str)) = false := by decide) (hcd : (x == ("__classdict__" : Str)) = false := by decide) :
    PS X (.Return (some (.Name x pos')) pos) (cS X.md fx W (retO i)) := by
  refine (ps_ret (pe_var (i := i) hN hv hd hcd)).weak fun D σ H ⟨O, F, e, hF, g, h⟩ => ?_
  unfold retO at h
  cases q : e[i]? with
  | none => rw [q] at h; exact h.elim
  | some s =>
    rw [q] at h
    cases s with
    | no => exact h.elim
    | val d => exact h.elim
    | own xs =>
      obtain ⟨p, ys, h1, h2, h3, h4, h5⟩ := g.own i xs q
      obtain ⟨g', hid, k'⟩ := g.drop q h1
      refine ⟨_, h1, h p ys σ H g' h2 h3 (h4.mono fun a o z => ?_) h5 (.inr ⟨i, xs, q, h1⟩) k'⟩
      obtain ⟨n, z⟩ := msk_some.mp z
      exact msk_some.mpr ⟨fun w => n ((hid a).mp w), z⟩
def SMut (K : PySem.W.Frag) (r : V → List V → Hp → VK → Prop) (op : List PyData → List PyData → Option (PyData × List PyData)) : Prop := ∀ (P : Addr → Prop) (H : Hp) (p : Addr) (ys : List V) (xs : List PyData) (vs : List V) (as : List PyData) (d : PyData) (xs' : List PyData) (Q : VK),
  P p → H p = some (.lst ys) → ys.length ≤ sizeLine → RpAll K (msk P H) ys xs → Paired (fun v a => RpT K (msk P H) H v a) vs as → op xs as = some (d, xs') →
  (∀ w ys', ys'.length ≤ sizeLine → RpAll K (msk P H) ys' xs' → Rp K (msk P H) w d → Q w (upd H p (.lst ys'))) → r (.ref p) vs H Q
def SMutF (K : PySem.W.Frag) (r : V → List V → Hp → VK → Prop) (op : List PyData → List PyData → Option (PyData × List PyData)) : Prop := ∀ (P : Addr → Prop) (H : Hp) (p : Addr) (ys : List V) (xs : List PyData) (vs : List V) (as : List PyData) (d : PyData) (xs' : List PyData) (Q : VK),
  P p → H p = some (.lst ys) → ys.length ≤ sizeLine → RpAll K (msk P H) ys xs → RpAll K (msk P H) vs as → op xs as = some (d, xs') →
  (∀ w ys', ys'.length ≤ sizeLine → RpAll K (msk P H) ys' xs' → Rp K (msk P H) w d → Q w (upd H p (.lst ys'))) → r (.ref p) vs H Q
def mutL (i : Nat) (op : List PyData → List PyData → Option (PyData × List PyData)) (as : List PyData) : Sls → Out SV := fun e =>
  match e[i]? with
  | some (Sl.own xs) =>
    match op xs as with
    | some (d, xs') => .ok (.val d) (e.set i (.own xs'))
    | none => .stuck
  | _ => .stuck
def isOwn (i : Nat) (e : Sls) : Bool :=
  match e[i]? with
  | some (Sl.own _) => true
  | _ => false
def mutR (i : Nat) (op : List PyData → List PyData → Option (PyData × List PyData)) (fs : Sls → Out (List SV)) : Sls → Out SV := fun e => if isOwn i e then (fs e).bind fun vs e1 => mutL i op (vs.map (rd e1)) e1 else .stuck
def mutF (i : Nat) (op : List PyData → List PyData → Option (PyData × List PyData)) (fs : Sls → Out (List SV)) : Sls → Out SV := fun e => if isOwn i e then (fs e).bind fun vs e1 => (frzL vs e1).bind fun ds e2 => mutL i op ds e2 else .stuck
theorem isOwn_own {i : Nat} {e : Sls} (h : isOwn i e = true) : ∃ xs, e[i]? = some (Sl.own xs) := by
  unfold isOwn at h
  cases q : e[i]? with
  | none => rw [q] at h; cases h
  | some s =>
    rw [q] at h
    cases s with
    | own xs => exact ⟨xs, rfl⟩
    | _ => cases h
theorem tyV_own {K : PySem.W.Frag} {O : Addr → Prop} {F : List (Nat × V)} {H : Hp} {σ : St} {e : Sls} {i : Nat} (g : Good K O F H σ e) (h : isOwn i e = true) : ∃ p, σ[i]? = some (some (V.ref p)) ∧ tyV K "list" (.ref p) H := by
  obtain ⟨xs, q⟩ := isOwn_own h
  obtain ⟨p, ys, h1, h2, _⟩ := g.own i xs q
  exact ⟨p, h1, .inl ⟨rfl, ys, .inl (.inl h2)⟩⟩
theorem mut_ok {M : Md} {O : Addr → Prop} {F : List (Nat × V)} {H : Hp} {σ : St} {e : Sls} {W : WX} {Q : VK} {i : Nat} {p : Addr} {op : List PyData → List PyData → Option (PyData × List PyData)} {as : List PyData} (g : Good M.K O F H σ e) (hp : σ[i]? = some (some (V.ref p)))
    (h : Po M O F σ e H W (fun x e' H' => ∀ v, SVR M.K O H' σ e' v x → Q v H') (mutL i op as e)) :
    ∃ ys xs d xs', Hid O σ e p ∧ H p = some (.lst ys) ∧ ys.length ≤ sizeLine ∧ RpAll M.K (msk (Hid O σ e) H) ys xs ∧ op xs as = some (d, xs') ∧ ∀ w ys', ys'.length ≤ sizeLine → RpAll M.K (msk (Hid O σ e) H) ys' xs' → Rp M.K (msk (Hid O σ e) H) w d → Q w (upd H p (.lst ys')) := by
  unfold mutL at h
  cases q : e[i]? with
  | none => rw [q] at h; exact h.elim
  | some s =>
    rw [q] at h
    cases s with
    | no => exact h.elim
    | val _ => exact h.elim
    | own xs =>
      dsimp only at h
      obtain ⟨p', ys, h1, h2, h3, h4, h5⟩ := g.own i xs q
      rw [hp] at h1; cases h1
      cases q2 : op xs as with
      | none => rw [q2] at h; exact h.elim
      | some r =>
        obtain ⟨d, xs'⟩ := r
        rw [q2] at h
        refine ⟨ys, xs, d, xs', .inr ⟨i, xs, q, hp⟩, h2, h3, h4, q2, fun w ys' hl hr hw => ?_⟩
        obtain ⟨g', k', d', s'⟩ := g.upd q hp hl hr
        exact h _ g' k' d' w (hw.mono s')
theorem pp_mutR {es : List Expr} {fs : Sls → Out (List SV)} {i : Nat} {x name : Str} {xp apos cpos : Pos} {id : String} {r : V → List V → Hp → VK → Prop} {op : List PyData → List PyData → Option (PyData × List PyData)} (pa : PlainAttrs "list") (slot : Slot "list" name id) (hty : typeOf (.builtin id) = pure (.type "method_descriptor")) (hm : MtR X id r) (hs : SMut X.K r op)
    (ha : PA X (b :: es) (cA X.md fx W fs)) (hN : X.N[i]? = some x := by rfl) (hv : Vis X.env.scope x := by first | exact .inl rfl | exact .inr (.inl rfl) | exact .inr (.inr rfl)) (hd : (x == ("__debug__" : Str)) = false := by decide) (hcd : (x == ("__classdict__" : Str)) = false := by decide)
    (hbase : attributeBase (.Name x xp) name X.env (eval (.Name x xp) X.env) = eval (.Name x xp) X.env := by rfl)
    (hfew : ((backTo cpos (starEach (b :: es) X.env)).all (fun x => !x.1) && (backToKw cpos (keywordEach [] X.env)).all (fun x => x.1.isSome)
      && decide ((b :: es).length + ([] : List Keyword).length + (if ([] : List Keyword).isEmpty then 0 else 1) < 30)) = true := by rfl)
    (hline : (apos.endLine == cpos.line) = true := by rfl) (hst : starEach (b :: es) X.env = (false, eval b X.env) :: starEach es X.env := by rfl) (hplain : (backTo cpos (starEach es X.env)).any (·.1) = false := by rfl) :
    PE X (.Call (.Attribute (.Name x xp) name apos) (b :: es) [] cpos) (cE X.md fx W (mutR i op fs)) := by
  refine (pe_bm pa slot hty hm (pe_var (i := i) hN hv hd hcd) ha hbase hfew hline hst hplain).weak fun σ H Q ⟨O, F, e, hF, g, h⟩ => ?_
  unfold mutR at h
  by_cases c : isOwn i e = true
  · rw [if_pos c] at h
    obtain ⟨p, hp, ty⟩ := tyV_own g c
    refine ⟨_, hp, ty, O, F, e, hF, g, (Po.bind h).mono fun xs e2 H2 g2 k2 d2 h2 vs r2 => ?_⟩
    obtain ⟨ys, zs, d, zs', z1, z2, z3, z4, z5, z6⟩ := mut_ok g2 hp h2
    exact hs _ H2 p ys zs vs _ d zs' Q z1 z2 z3 z4 (Paired.tops g2 r2) z5 z6
  · rw [if_neg c] at h
    exact h.elim
theorem pp_mutF {es : List Expr} {fs : Sls → Out (List SV)} {i : Nat} {x name : Str} {xp apos cpos : Pos} {id : String} {r : V → List V → Hp → VK → Prop} {op : List PyData → List PyData → Option (PyData × List PyData)} (pa : PlainAttrs "list") (slot : Slot "list" name id) (hty : typeOf (.builtin id) = pure (.type "method_descriptor")) (hm : MtR X id r) (hs : SMutF X.K r op)
    (ha : PA X (b :: es) (cA X.md fx W fs)) (hN : X.N[i]? = some x := by rfl) (hv : Vis X.env.scope x := by first | exact .inl rfl | exact .inr (.inl rfl) | exact .inr (.inr rfl)) (hd : (x == ("__debug__" : Str)) = false := by decide) (hcd : (x == ("__classdict__" : Str)) = false := by decide)
    (hbase : attributeBase (.Name x xp) name X.env (eval (.Name x xp) X.env) = eval (.Name x xp) X.env := by rfl)
    (hfew : ((backTo cpos (starEach (b :: es) X.env)).all (fun x => !x.1) && (backToKw cpos (keywordEach [] X.env)).all (fun x => x.1.isSome)
      && decide ((b :: es).length + ([] : List Keyword).length + (if ([] : List Keyword).isEmpty then 0 else 1) < 30)) = true := by rfl)
    (hline : (apos.endLine == cpos.line) = true := by rfl) (hst : starEach (b :: es) X.env = (false, eval b X.env) :: starEach es X.env := by rfl) (hplain : (backTo cpos (starEach es X.env)).any (·.1) = false := by rfl) :
    PE X (.Call (.Attribute (.Name x xp) name apos) (b :: es) [] cpos) (cE X.md fx W (mutF i op fs)) := by
  refine (pe_bm pa slot hty hm (pe_var (i := i) hN hv hd hcd) ha hbase hfew hline hst hplain).weak fun σ H Q ⟨O, F, e, hF, g, h⟩ => ?_
  unfold mutF at h
  by_cases c : isOwn i e = true
  · rw [if_pos c] at h
    obtain ⟨p, hp, ty⟩ := tyV_own g c
    refine ⟨_, hp, ty, O, F, e, hF, g, (Po.bind h).mono fun xs e2 H2 g2 k2 d2 h2 vs r2 => ?_⟩
    have hb := Po.bind h2
    obtain ⟨ds, e3, he, g3, k3, d3, ra⟩ := frzL_ok g2 r2 hb
    rw [he] at hb
    have hb' := hb H2 g3 k3 d3
    obtain ⟨ys, zs, d, zs', z1, z2, z3, z4, z5, z6⟩ := mut_ok g3 hp hb'
    exact hs _ H2 p ys zs vs _ d zs' Q z1 z2 z3 z4 ra z5 z6
  · rw [if_neg c] at h
    exact h.elim
def mut0 (i : Nat) (op : List PyData → List PyData → Option (PyData × List PyData)) : Sls → Out SV := fun e => mutL i op [] e
theorem pp_mut0 {i : Nat} {x name : Str} {xp apos cpos : Pos} {id : String} {r : V → List V → Hp → VK → Prop} {op : List PyData → List PyData → Option (PyData × List PyData)} (pa : PlainAttrs "list") (slot : Slot "list" name id) (hty : typeOf (.builtin id) = pure (.type "method_descriptor")) (hm : MtR X id r) (hs : SMut X.K r op)
    (hN : X.N[i]? = some x := by rfl) (hv : Vis X.env.scope x := by first | exact .inl rfl | exact .inr (.inl rfl) | exact .inr (.inr rfl)) (hd : (x == ("__debug__" : Str)) = false := by decide) (hcd : (x == ("__classdict__" : Str)) = false := by decide)
    (hbase : attributeBase (.Name x xp) name X.env (eval (.Name x xp) X.env) = eval (.Name x xp) X.env := by rfl) (hline : (apos.endLine == cpos.line) = true := by rfl) :
    PE X (.Call (.Attribute (.Name x xp) name apos) [] [] cpos) (cE X.md fx W (mut0 i op)) := by
  refine (pe_bm0 pa slot hty hm (pe_var (i := i) hN hv hd hcd) hbase hline).weak fun σ H Q ⟨O, F, e, hF, g, h⟩ => ?_
  have c : isOwn i e = true := by
    have h' : Po X.md O F σ e H W _ (mutL i op [] e) := h
    unfold mutL at h'
    unfold isOwn
    cases q : e[i]? with
    | none => rw [q] at h'; exact h'.elim
    | some s =>
      rw [q] at h'
      cases s with
      | own xs => rfl
      | _ => exact h'.elim
  obtain ⟨p, hp, ty⟩ := tyV_own g c
  obtain ⟨ys, zs, d, zs', z1, z2, z3, z4, z5, z6⟩ := mut_ok g hp h
  exact ⟨_, hp, ty, hs _ H p ys zs [] _ d zs' Q z1 z2 z3 z4 .nil z5 z6⟩
end
end PP
set_option maxRecDepth 100000
namespace PP
open PySem PySem.Spec PyProof.Rows L2
structure WalkD (K : PySem.W.Frag) (P : Addr → Prop) (H1 : Hp) (J : It) (ds : List PyData) : Prop where
  goes : ∀ i H, i < ds.length → Same (msk P H1) H → J.go i H
  stops : ∀ H, Same (msk P H1) H → J.stop ds.length H
  yields : ∀ i H x H', i < ds.length → Same (msk P H1) H → J.yld i H x H' → ∃ d, ds[i]? = some d ∧ Same H H' ∧ ∀ M, Same (msk P H1) M → (∀ a o, H a = none → H' a = some o → M a = some o) → Rp K M x d
def cI (M : Md) (fx : List Nat) (W : WX) (f : Sls → Out (List PyData)) : TI := fun σ H R => ∃ O F e, (∀ p ∈ F, p.1 ∈ fx) ∧ Good M.K O F H σ e ∧ Po M O F σ e H W (fun ds e' H' => ∀ J, WalkD M.K (Hid O σ e') H' J ds → R J H') (f e)
theorem _root_.L2.PI.weak {X : Cx} {tg it : Expr} {t t' : TI} (h : PI X tg it t) (k : ∀ σ H Q, t' σ H Q → t σ H Q) : PI X tg it t' := ⟨fun pins s σ H Q I q => h.run pins s σ H Q I (k σ H Q q)⟩
section
variable {K : PySem.W.Frag} {P : Addr → Prop} {H1 : Hp}
theorem walk_of_at {J : It} {xs : List V} {ds : List PyData} (hr : RpAll K (msk P H1) xs ds) (go : ∀ i H, i < xs.length → Same (msk P H1) H → J.go i H) (stop : ∀ H, Same (msk P H1) H → J.stop xs.length H)
    (yld : ∀ i H x H', Same (msk P H1) H → J.yld i H x H' → H' = H ∧ xs[i]? = some x) : WalkD K P H1 J ds := by
  have hl := hr.length
  refine ⟨fun i H hi s => go i H (by omega) s, fun H s => by rw [← hl]; exact stop H s, fun i H x H' hi s y => ?_⟩
  obtain ⟨rfl, hx⟩ := yld i H x H' s y
  obtain ⟨d, h1, h2⟩ := hr.getV hx
  exact ⟨d, h1, Same.refl _, fun M sm _ => h2.mono sm⟩
theorem WalkD.list {a : Addr} {xs : List V} {ds : List PyData} (hq : SqL K (msk P H1) a xs) (hr : RpAll K (msk P H1) xs ds) : WalkD K P H1 (Itl K a) ds :=
  walk_of_at hr (fun i H hi s => ⟨xs, xs[i], s.seq hq, by simp [hi]⟩) (fun H s => ⟨xs, s.seq hq, Nat.le_refl _⟩) fun i H x H' s y => ⟨y.1, y.2 xs (s.seq hq)⟩
theorem WalkD.tup {a : Addr} {xs : List V} {ds : List PyData} (hq : SqT K (msk P H1) a xs) (hr : RpAll K (msk P H1) xs ds) : WalkD K P H1 (Itt K a) ds :=
  walk_of_at hr (fun i H hi s => ⟨xs, xs[i], Same.seqT s hq, by simp [hi]⟩) (fun H s => ⟨xs, Same.seqT s hq, Nat.le_refl _⟩) fun i H x H' s y => ⟨y.1, y.2 xs (Same.seqT s hq)⟩
def intsFrom (lo : Int) (n : Nat) : List PyData := (List.range n).map fun i => .int (lo + (i : Nat))
theorem WalkD.rng {lo : Int} {n : Nat} : WalkD K P H1 (Itr lo n) (intsFrom lo n) := by
  have hl : (intsFrom lo n).length = n := by unfold intsFrom; simp
  refine ⟨fun i H hi _ => ?_, fun H _ => ?_, fun i H x H' hi _ y => ?_⟩
  · rw [hl] at hi; exact hi
  · rw [hl]; exact Nat.le_refl _
  · rw [hl] at hi
    obtain ⟨rfl, rfl⟩ := y
    exact ⟨.int (lo + (i : Nat)), by unfold intsFrom; simp [hi], Same.refl _, fun M _ _ => .int _⟩
def intsBy (lo c : Int) (n : Nat) : List PyData := (List.range n).map fun i => .int (lo + (i : Nat) * c)
theorem WalkD.rngC {lo c : Int} {n : Nat} : WalkD K P H1 (Itc lo c n) (intsBy lo c n) := by
  have hl : (intsBy lo c n).length = n := by unfold intsBy; simp
  refine ⟨fun i H hi _ => ?_, fun H _ => ?_, fun i H x H' hi _ y => ?_⟩
  · rw [hl] at hi; exact hi
  · rw [hl]; exact Nat.le_refl _
  · rw [hl] at hi
    obtain ⟨rfl, rfl⟩ := y
    exact ⟨.int (lo + (i : Nat) * c), by unfold intsBy; simp [hi], Same.refl _, fun M _ _ => .int _⟩
def signsD (x : Str) : List PyData := x.cps.toList.map fun c => .str ⟨#[c]⟩
theorem WalkD.str {x : Str} : WalkD K P H1 (Its x) (signsD x) := by
  have hl : (signsD x).length = x.cps.size := by unfold signsD; simp
  refine ⟨fun i H hi _ => ?_, fun H _ => ?_, fun i H v H' hi _ y => ?_⟩
  · rw [hl] at hi; exact hi
  · rw [hl]; exact Nat.le_refl _
  · obtain ⟨rfl, c, hc, rfl⟩ := y
    exact ⟨.str ⟨#[c]⟩, by unfold signsD; simp [hc], Same.refl _, fun M _ _ => .str _⟩
def pairsD : List PyData → List PyData → List PyData
  | x :: xs, y :: ys => .tuple [x, y] :: pairsD xs ys
  | _, _ => []
theorem pairsD_length : ∀ xs ys : List PyData, (pairsD xs ys).length = min xs.length ys.length
  | [], ys => by simp [pairsD]
  | _ :: _, [] => by simp [pairsD]
  | x :: xs, y :: ys => by simp only [pairsD, List.length_cons, pairsD_length xs ys]; omega
theorem pairsD_get : ∀ {xs ys : List PyData} {i : Nat} {x y : PyData}, xs[i]? = some x → ys[i]? = some y → (pairsD xs ys)[i]? = some (.tuple [x, y])
  | [], _, _, _, _, h, _ => by simp at h
  | _ :: _, [], _, _, _, _, h => by simp at h
  | a :: xs, b :: ys, 0, x, y, h1, h2 => by simp at h1 h2; subst h1; subst h2; rfl
  | a :: xs, b :: ys, i + 1, x, y, h1, h2 => by
    show (pairsD xs ys)[i]? = _
    exact pairsD_get (by simpa using h1) (by simpa using h2)
theorem rp_pair {M : Hp} {T : Addr} {v w : V} {d d' : PyData} (h : M T = some (.tup [v, w])) (r : Rp K M v d) (r' : Rp K M w d') : Rp K M (.ref T) (.tuple [d, d']) :=
  .tup (.inl (.inl h)) (by rw [sizeLine_eq]; exact (by decide : 2 ≤ 16777216)) (.cons r (.cons r' .nil))
theorem WalkD.zipL {a b : Addr} {xs ys : List V} {ds es : List PyData} (ha : SqL K (msk P H1) a xs) (hb : SqL K (msk P H1) b ys) (hr : RpAll K (msk P H1) xs ds) (hr' : RpAll K (msk P H1) ys es) : WalkD K P H1 (Itz K a b) (pairsD ds es) := by
  have l1 := hr.length
  have l2 := hr'.length
  have hl := pairsD_length ds es
  refine ⟨fun i H hi s => ?_, fun H s => ⟨xs, ys, s.seq ha, s.seq hb, by omega⟩, fun i H v H' hi s y => ?_⟩
  · have h1 : i < xs.length := by omega
    have h2 : i < ys.length := by omega
    exact ⟨xs, ys, xs[i], ys[i], s.seq ha, s.seq hb, by simp [h1], by simp [h2]⟩
  · obtain ⟨T, x, z, rfl, nT, rfl, h4, h5⟩ := y
    obtain ⟨d, q1, q2⟩ := hr.getV (h4 xs (s.seq ha))
    obtain ⟨d', q3, q4⟩ := hr'.getV (h5 ys (s.seq hb))
    exact ⟨_, pairsD_get q1 q3, same_updN nT, fun M sm new => rp_pair (new T _ nT upd_same) (q2.mono sm) (q4.mono sm)⟩
theorem WalkD.zipT {a b : Addr} {xs ys : List V} {ds es : List PyData} (ha : SqT K (msk P H1) a xs) (hb : SqT K (msk P H1) b ys) (hr : RpAll K (msk P H1) xs ds) (hr' : RpAll K (msk P H1) ys es) : WalkD K P H1 (RZ.ItzT K a b) (pairsD ds es) := by
  have l1 := hr.length
  have l2 := hr'.length
  have hl := pairsD_length ds es
  refine ⟨fun i H hi s => ?_, fun H s => ⟨xs, ys, Same.seqT s ha, Same.seqT s hb, by omega⟩, fun i H v H' hi s y => ?_⟩
  · have h1 : i < xs.length := by omega
    have h2 : i < ys.length := by omega
    exact ⟨xs, ys, xs[i], ys[i], Same.seqT s ha, Same.seqT s hb, by simp [h1], by simp [h2]⟩
  · obtain ⟨T, x, z, rfl, nT, rfl, h4, h5⟩ := y
    obtain ⟨d, q1, q2⟩ := hr.getV (h4 xs (Same.seqT s ha))
    obtain ⟨d', q3, q4⟩ := hr'.getV (h5 ys (Same.seqT s hb))
    exact ⟨_, pairsD_get q1 q3, same_updN nT, fun M sm new => rp_pair (new T _ nT upd_same) (q2.mono sm) (q4.mono sm)⟩
def numbered (n : Nat) : List PyData → List PyData
  | [] => []
  | x :: xs => .tuple [.int (n : Nat), x] :: numbered (n + 1) xs
theorem numbered_length : ∀ (n : Nat) (xs : List PyData), (numbered n xs).length = xs.length
  | _, [] => rfl
  | n, _ :: xs => by simp only [numbered, List.length_cons, numbered_length (n + 1) xs]
theorem numbered_get : ∀ {n : Nat} {xs : List PyData} {i : Nat} {x : PyData}, xs[i]? = some x → (numbered n xs)[i]? = some (.tuple [.int ((n + i : Nat) : Int), x])
  | _, [], _, _, h => by simp at h
  | n, a :: xs, 0, x, h => by simp at h; subst h; rfl
  | n, a :: xs, i + 1, x, h => by
    show (numbered (n + 1) xs)[i]? = _
    rw [numbered_get (n := n + 1) (by simpa using h)]
    rw [show n + 1 + i = n + (i + 1) by omega]
theorem WalkD.enum {a : Addr} {xs : List V} {ds : List PyData} (ha : SqL K (msk P H1) a xs) (hr : RpAll K (msk P H1) xs ds) : WalkD K P H1 (Ite K a) (numbered 0 ds) := by
  have l1 := hr.length
  have hl := numbered_length 0 ds
  refine ⟨fun i H hi s => ⟨xs, xs[i]'(by omega), s.seq ha, by simp [show i < xs.length by omega]⟩, fun H s => ⟨xs, s.seq ha, by omega⟩, fun i H v H' hi s y => ?_⟩
  obtain ⟨T, x, rfl, nT, rfl, h4⟩ := y
  obtain ⟨d, q1, q2⟩ := hr.getV (h4 xs (s.seq ha))
  refine ⟨_, numbered_get q1, same_updN nT, fun M sm new => rp_pair (new T _ nT upd_same) ?_ (q2.mono sm)⟩
  rw [Nat.zero_add]
  exact .int _
theorem rev_get {α : Type} {xs : List α} {i : Nat} (h : i < xs.length) : xs.reverse[i]? = xs[xs.length - 1 - i]? := List.getElem?_reverse h
theorem WalkD.rev {a : Addr} {xs : List V} {ds : List PyData} (ha : SqL K (msk P H1) a xs) (hr : RpAll K (msk P H1) xs ds) : WalkD K P H1 (Itv K a xs.length) ds.reverse := by
  have l1 := hr.length
  have hl : ds.reverse.length = xs.length := by rw [List.length_reverse]; omega
  refine ⟨fun i H hi s => ⟨by omega, xs, xs[xs.length - 1 - i]'(by omega), s.seq ha, by simp [show xs.length - 1 - i < xs.length by omega]⟩, fun H s => by rw [hl]; exact Nat.le_refl _, fun i H v H' hi s y => ?_⟩
  obtain ⟨rfl, y⟩ := y
  have hx := y xs (s.seq ha)
  rw [← rev_get (by omega)] at hx
  obtain ⟨d, q1, q2⟩ := hr.reverse.getV hx
  exact ⟨d, q1, Same.refl _, fun M sm _ => q2.mono sm⟩
end
def seqD : PyData → Option (List PyData)
  | .list xs => some xs
  | .tuple xs => some xs
  | .str x => some (signsD x)
  | _ => none
def itSeq (f : Sls → Out SV) : Sls → Out (List PyData) := fun e => (f e).bind fun x e1 => (frzO x e1).bind fun y e2 => Out.of (seqD (rd e2 y)) e2
section
variable {X : Cx} {fx : List Nat} {W : WX} {a b c tg : Expr} {fa fb : Sls → Out SV} {pos : Pos}
theorem ppi_seq (ha : PE X a (cE X.md fx W fa)) : PI X tg a (cI X.md fx W (itSeq fa)) := by
  have gen : ∀ {wi : TI}, PI X tg a wi → ∀ pins s σ H R, Inv X pins σ H s → wi σ H R → wpAny (model X.prog X.w) X.A (eval a X.env) (fun v s1 => wpAny (model X.prog X.w) X.A (pyIter v) (PIE X pins σ tg R) X.xe s1) X.xe s := fun h => h.run
  refine ⟨fun pins s σ H R I ⟨O, F, e, hF, g, h⟩ => ?_⟩
  have hb := Po.bind h
  have main : ∀ {ty : VK → VK → Prop}, True := fun {_} => trivial
  cases q : fa e with
  | stuck => rw [q] at hb; exact hb.elim
  | err x e1 =>
    rw [q] at hb
    refine gen (pi_list ha) pins s σ H R I ?_
    refine ⟨O, F, e, hF, g, ?_⟩
    rw [q]
    exact hb
  | ok x e1 =>
    rw [q] at hb
    have fz : ∀ {H1 : Hp} {v : V}, Good X.md.K O F H1 σ e1 → Kp σ e H σ e1 H1 → Dn e e1 → SVR X.md.K O H1 σ e1 v x → ∃ d e2 ds, frzO x e1 = .ok (.val d) e2 ∧ seqD d = some ds ∧ Rp X.md.K (msk (Hid O σ e2) H1) v d ∧ Good X.md.K O F H1 σ e2 ∧ ∀ J, WalkD X.md.K (Hid O σ e2) H1 J ds → R J H1 := by
      intro H1 v g1 k1 d1 r1
      obtain ⟨d, e2, g2, k2, d2, r2, h2, he⟩ := SVR.freeze g1 r1 (Po.bind (hb H1 g1 k1 d1))
      obtain ⟨ds, hd, hk⟩ := Po.of h2
      exact ⟨d, e2, ds, he, hd, r2, g2, hk H1 (Same.refl _) g2⟩
    have kind : (∃ d e2, frzO x e1 = .ok (.val d) e2 ∧ ∃ xs, d = .list xs) ∨ (∃ d e2, frzO x e1 = .ok (.val d) e2 ∧ ∃ xs, d = .tuple xs) ∨ (∃ d e2, frzO x e1 = .ok (.val d) e2 ∧ ∃ z, d = .str z) ∨ ∀ d e2, frzO x e1 = .ok (.val d) e2 → seqD d = none := by
      cases q2 : frzO x e1 with
      | stuck => exact .inr (.inr (.inr fun _ _ z => by cases z))
      | err _ _ => exact .inr (.inr (.inr fun _ _ z => by cases z))
      | ok y e2 =>
        cases y with
        | var _ => exact .inr (.inr (.inr fun _ _ z => by cases z))
        | val d =>
          cases d with
          | list xs => exact .inl ⟨_, _, rfl, xs, rfl⟩
          | tuple xs => exact .inr (.inl ⟨_, _, rfl, xs, rfl⟩)
          | str z => exact .inr (.inr (.inl ⟨_, _, rfl, z, rfl⟩))
          | none => exact .inr (.inr (.inr fun _ _ z => by cases z; rfl))
          | bool _ => exact .inr (.inr (.inr fun _ _ z => by cases z; rfl))
          | int _ => exact .inr (.inr (.inr fun _ _ z => by cases z; rfl))
          | dict _ => exact .inr (.inr (.inr fun _ _ z => by cases z; rfl))
    rcases kind with ⟨d, e2, h2, xs, rfl⟩ | ⟨d, e2, h2, xs, rfl⟩ | ⟨d, e2, h2, z, rfl⟩ | no
    · refine gen (pi_list ha) pins s σ H R I ⟨O, F, e, hF, g, ?_⟩
      rw [q]
      intro H1 g1 k1 d1 v r1
      obtain ⟨d', e2', ds, he, hd, r2, g2, hk⟩ := fz g1 k1 d1 r1
      rw [h2] at he; cases he
      cases hd
      cases r2 with
      | lst sq hl hr => exact ⟨_, rfl, ⟨_, msk_sub.seq sq⟩, hk _ (WalkD.list sq hr)⟩
    · refine gen (pi_tup ha) pins s σ H R I ⟨O, F, e, hF, g, ?_⟩
      rw [q]
      intro H1 g1 k1 d1 v r1
      obtain ⟨d', e2', ds, he, hd, r2, g2, hk⟩ := fz g1 k1 d1 r1
      rw [h2] at he; cases he
      cases hd
      cases r2 with
      | tup sq hl hr => exact ⟨_, rfl, ⟨_, Same.seqT msk_sub sq⟩, hk _ (WalkD.tup sq hr)⟩
    · refine gen (pi_str ha) pins s σ H R I ⟨O, F, e, hF, g, ?_⟩
      rw [q]
      intro H1 g1 k1 d1 v r1
      obtain ⟨d', e2', ds, he, hd, r2, g2, hk⟩ := fz g1 k1 d1 r1
      rw [h2] at he; cases he
      cases hd
      cases r2
      exact ⟨z, rfl, hk _ WalkD.str⟩
    · refine gen (pi_list ha) pins s σ H R I ⟨O, F, e, hF, g, ?_⟩
      rw [q]
      intro H1 g1 k1 d1 v r1
      obtain ⟨d', e2', ds, he, hd, r2, g2, hk⟩ := fz g1 k1 d1 r1
      rw [no _ _ he] at hd
      cases hd
def okB (i : Int) : Bool := decide (-(2 ^ 62) ≤ i) && decide (i < 2 ^ 62)
theorem okB_of {i : Int} (h : okB i = true) : -(2 ^ 62) ≤ i ∧ i < 2 ^ 62 := by
  unfold okB at h
  rw [Bool.and_eq_true] at h
  exact ⟨of_decide_eq_true h.1, of_decide_eq_true h.2⟩
def rng1D : List PyData → Option (List PyData)
  | [.int j] => if okB j then some (intsFrom 0 j.toNat) else none
  | _ => none
def rng2D : List PyData → Option (List PyData)
  | [.int i, .int j] => if okB i && okB j then some (intsFrom i (j - i).toNat) else none
  | _ => none
def itArgs (op : List PyData → Option (List PyData)) (fs : Sls → Out (List SV)) : Sls → Out (List PyData) := fun e => (fs e).bind fun xs e1 => Out.of (op (xs.map (rd e1))) e1
theorem Paired.ints1 {K : PySem.W.Frag} {M H : Hp} {vs : List V} {i : Int} (r : Paired (RpT K M H) vs [.int i]) : vs = [.int i] := by
  cases r with
  | cons h t =>
    cases t
    rw [h.int]
theorem Paired.ints2 {K : PySem.W.Frag} {M H : Hp} {vs : List V} {i j : Int} (r : Paired (RpT K M H) vs [.int i, .int j]) : vs = [.int i, .int j] := by
  cases r with
  | cons h t =>
    cases t with
    | cons h' t' =>
      cases t'
      rw [h.int, h'.int]
theorem ppi_range1 {p : Pos} {fs : Sls → Out (List SV)} (hm : X.mg "range" = none) (ha : PA X [a] (cA X.md fx W fs)) (hg : Gl X "range" := by rfl) (hs : starEach [a] X.env = [(false, eval a X.env)] := by rfl) : PI X tg (.Call (.Name "range" p) [a] [] pos) (cI X.md fx W (itArgs rng1D fs)) := by
  refine (pi_range1 hg hm ha hs).weak fun σ H R ⟨O, F, e, hF, g, h⟩ => ?_
  refine ⟨O, F, e, hF, g, (Po.bind h).mono fun xs e1 H1 g1 k1 d1 h1 vs r1 => ?_⟩
  obtain ⟨ds, hd, hk⟩ := Po.of h1
  have rt := Paired.tops g1 r1
  obtain ⟨j, ej, hb, rfl⟩ : ∃ j, xs.map (rd e1) = [.int j] ∧ okB j = true ∧ ds = intsFrom 0 j.toNat := by
    unfold rng1D at hd
    split at hd
    · rename_i j ej
      split at hd
      · exact ⟨j, ej, by assumption, (Option.some.inj hd).symm⟩
      · cases hd
    · cases hd
  rw [ej] at rt
  obtain ⟨b1, b2⟩ := okB_of hb
  exact ⟨j, Paired.ints1 rt, b1, b2, hk H1 (Same.refl _) g1 _ WalkD.rng⟩
theorem ppi_range2 {p : Pos} {fs : Sls → Out (List SV)} (hm : X.mg "range" = none) (ha : PA X [a, b] (cA X.md fx W fs)) (hg : Gl X "range" := by rfl) (hs : starEach [a, b] X.env = [(false, eval a X.env), (false, eval b X.env)] := by rfl) (hs2 : starEach [b] X.env = [(false, eval b X.env)] := by rfl) : PI X tg (.Call (.Name "range" p) [a, b] [] pos) (cI X.md fx W (itArgs rng2D fs)) := by
  refine (pi_range2 hg hm ha hs hs2).weak fun σ H R ⟨O, F, e, hF, g, h⟩ => ?_
  refine ⟨O, F, e, hF, g, (Po.bind h).mono fun xs e1 H1 g1 k1 d1 h1 vs r1 => ?_⟩
  obtain ⟨ds, hd, hk⟩ := Po.of h1
  have rt := Paired.tops g1 r1
  obtain ⟨i, j, ej, hb, rfl⟩ : ∃ i j, xs.map (rd e1) = [.int i, .int j] ∧ (okB i && okB j) = true ∧ ds = intsFrom i (j - i).toNat := by
    unfold rng2D at hd
    split at hd
    · rename_i i j ej
      split at hd
      · exact ⟨i, j, ej, by assumption, (Option.some.inj hd).symm⟩
      · cases hd
    · cases hd
  rw [ej] at rt
  rw [Bool.and_eq_true] at hb
  obtain ⟨b1, b2⟩ := okB_of hb.1
  obtain ⟨b3, b4⟩ := okB_of hb.2
  exact ⟨i, j, Paired.ints2 rt, ⟨b1, b2, b3, b4⟩, hk H1 (Same.refl _) g1 _ WalkD.rng⟩
def zipD : List PyData → Option (List PyData)
  | [.list xs, .list ys] => some (pairsD xs ys)
  | [.tuple xs, .tuple ys] => some (pairsD xs ys)
  | _ => none
def itFrz (op : List PyData → Option (List PyData)) (fs : Sls → Out (List SV)) : Sls → Out (List PyData) := fun e => (fs e).bind fun xs e1 => (frzL xs e1).bind fun ds e2 => Out.of (op ds) e2
theorem ppi_zip {p tpos : Pos} {elts : List Expr} {kk : Nat} {fs : Sls → Out (List SV)} (hm : X.mg "zip" = none) (ha : PA X [a, b] (cA X.md fx W fs)) (hg : Gl X "zip" := by rfl) (hs : starEach [a, b] X.env = (false, eval a X.env) :: starEach [b] X.env := by rfl) (hpl : (backTo pos (starEach [b] X.env)).any (·.1) = false := by rfl) :
    PI X (.Tuple elts kk tpos) (.Call (.Name "zip" p) [a, b] [] pos) (cI X.md fx W (itFrz zipD fs)) := by
  refine (RZ.pi_zipA hg hm ha hs hpl).weak fun σ H R ⟨O, F, e, hF, g, h⟩ => ?_
  refine ⟨O, F, e, hF, g, (Po.bind h).mono fun xs e1 H1 g1 k1 d1 h1 vs r1 => ?_⟩
  have hb := Po.bind h1
  obtain ⟨ds, e2, he, g2, k2, d2, ra⟩ := frzL_ok g1 r1 hb
  rw [he] at hb
  obtain ⟨zs, hd, hk⟩ := Po.of (hb H1 g2 k2 d2)
  have hk' := hk H1 (Same.refl _) g2
  unfold zipD at hd
  split at hd
  · cases hd
    cases ra with
    | cons ra1 t =>
      cases t with
      | cons ra2 t2 =>
        cases t2
        cases ra1 with
        | lst q1 l1 z1 =>
          cases ra2 with
          | lst q2 l2 z2 => exact ⟨_, _, _, _, rfl, .inl ⟨msk_sub.seq q1, msk_sub.seq q2, hk' _ (WalkD.zipL q1 q2 z1 z2)⟩⟩
  · cases hd
    cases ra with
    | cons ra1 t =>
      cases t with
      | cons ra2 t2 =>
        cases t2
        cases ra1 with
        | tup q1 l1 z1 =>
          cases ra2 with
          | tup q2 l2 z2 => exact ⟨_, _, _, _, rfl, .inr ⟨Same.seqT msk_sub q1, Same.seqT msk_sub q2, hk' _ (WalkD.zipT q1 q2 z1 z2)⟩⟩
  · cases hd
def enumD : List PyData → Option (List PyData)
  | [.list xs] => some (numbered 0 xs)
  | _ => none
theorem ppi_enum {p tpos : Pos} {elts : List Expr} {kk : Nat} {fs : Sls → Out (List SV)} (hm : X.mg "enumerate" = none) (ha : PA X [a] (cA X.md fx W fs)) (hg : Gl X "enumerate" := by rfl) (hs : starEach [a] X.env = [(false, eval a X.env)] := by rfl) :
    PI X (.Tuple elts kk tpos) (.Call (.Name "enumerate" p) [a] [] pos) (cI X.md fx W (itFrz enumD fs)) := by
  refine (pi_enum hg hm ha hs).weak fun σ H R ⟨O, F, e, hF, g, h⟩ => ?_
  refine ⟨O, F, e, hF, g, (Po.bind h).mono fun xs e1 H1 g1 k1 d1 h1 vs r1 => ?_⟩
  have hb := Po.bind h1
  obtain ⟨ds, e2, he, g2, k2, d2, ra⟩ := frzL_ok g1 r1 hb
  rw [he] at hb
  obtain ⟨zs, hd, hk⟩ := Po.of (hb H1 g2 k2 d2)
  have hk' := hk H1 (Same.refl _) g2
  unfold enumD at hd
  split at hd
  · cases hd
    cases ra with
    | cons ra1 t =>
      cases t
      cases ra1 with
      | lst q1 l1 z1 => exact ⟨_, _, rfl, msk_sub.seq q1, hk' _ (WalkD.enum q1 z1)⟩
  · cases hd
def Agr (ts : List Nat) (σ σ' : St) : Prop := σ'.length = σ.length ∧ ∀ j, j ∉ ts → σ'[j]? = σ[j]?
theorem Agr.refl {ts : List Nat} {σ : St} : Agr ts σ σ := ⟨rfl, fun _ _ => rfl⟩
theorem Agr.trans {ts : List Nat} {σ σ1 σ2 : St} (a : Agr ts σ σ1) (b : Agr ts σ1 σ2) : Agr ts σ σ2 := ⟨b.1.trans a.1, fun j h => (b.2 j h).trans (a.2 j h)⟩
theorem Agr.set {ts : List Nat} {σ : St} {i : Nat} {v : Option V} (h : i ∈ ts) : Agr ts σ (σ.set i v) := ⟨List.length_set .., fun j hj => List.getElem?_set_ne (fun z => hj (by rw [← z]; exact h))⟩
def cG (M : Md) (fx ts : List Nat) (t : PyData → Sls → Option Sls) : TG := fun v σ H Q => ∃ O F e d, (∀ p ∈ F, p.1 ∈ fx) ∧ Good M.K O F H σ e ∧ Rp M.K (msk (Hid O σ e) H) v d ∧
  match t d e with
  | some e' => ∀ σ', Good M.K O F H σ' e' → Kp σ e H σ' e' H → Agr ts σ σ' → Q σ' H
  | none => False
def cGs (M : Md) (fx ts : List Nat) (t : List PyData → Sls → Option Sls) : TGs := fun vs σ H Q => ∃ O F e ds, (∀ p ∈ F, p.1 ∈ fx) ∧ Good M.K O F H σ e ∧ RpAll M.K (msk (Hid O σ e) H) vs ds ∧
  match t ds e with
  | some e' => ∀ σ', Good M.K O F H σ' e' → Kp σ e H σ' e' H → Agr ts σ σ' → Q σ' H
  | none => False
theorem _root_.L2.PG.weak {X : Cx} {tg : Expr} {t t' : TG} (h : PG X tg t) (k : ∀ v σ H Q, t' v σ H Q → t v σ H Q) : PG X tg t' := ⟨fun pins s σ H v u Q I r q => h.run pins s σ H v u Q I r (k v σ H Q q)⟩
def tgN (i : Nat) : PyData → Sls → Option Sls := fun d e => some (e.set i (.val d))
def tgsNil : List PyData → Sls → Option Sls := fun ds e =>
  match ds with
  | [] => some e
  | _ => none
def tgsCons (t : PyData → Sls → Option Sls) (u : List PyData → Sls → Option Sls) : List PyData → Sls → Option Sls := fun ds e =>
  match ds with
  | d :: r => (t d e).bind fun e1 => u r e1
  | [] => none
def tgT (n : Nat) (t : List PyData → Sls → Option Sls) : PyData → Sls → Option Sls := fun d e =>
  match d with
  | .tuple ds => if ds.length = n then t ds e else none
  | .list ds => if ds.length = n then t ds e else none
  | _ => none
theorem ppg_name {i : Nat} {x : Str} (ts : List Nat) (hi' : fx.contains i = false) (hN : X.N.Nodup) (ht : i ∈ ts := by decide) (hi : X.N[i]? = some x := by rfl) (hx : Loc X.env.scope x := by first | exact .inl rfl | exact .inr rfl) (hf : X.fn x = true ∨ X.env.scope.names.lookup x = some .local := by first | exact .inl rfl | exact .inr rfl) : PG X (.Name x pos) (cG X.md fx ts (tgN i)) := by
  refine (pg_name hN hi hx hf).weak fun v σ H Q ⟨O, F, e, d, hF, g, r, h⟩ => ?_
  obtain ⟨g', k'⟩ := g.setV r (fx_ne hi' hF)
  exact h _ g' k' (Agr.set ht)
theorem ppgs_nil {ts : List Nat} : PGs X [] (cGs X.md fx ts tgsNil) := by
  refine ⟨fun pins s σ H vs us Q I r ⟨O, F, e, ds, hF, g, ra, h⟩ => pgs_nil.run pins s σ H vs us Q I r ?_⟩
  cases ra with
  | nil => exact ⟨rfl, h σ g Kp.refl Agr.refl⟩
  | cons _ _ => exact h.elim
theorem ppgs_cons {x : Expr} {es : List Expr} {ts : List Nat} {t : PyData → Sls → Option Sls} {u : List PyData → Sls → Option Sls} (h1 : PG X x (cG X.md fx ts t)) (h2 : PGs X es (cGs X.md fx ts u)) (hs : (assignEach (x :: es) X.env).map (·.2) = assign x X.env :: (assignEach es X.env).map (·.2) := by rfl) : PGs X (x :: es) (cGs X.md fx ts (tgsCons t u)) := by
  refine ⟨fun pins s σ H vs us Q I r ⟨O, F, e, ds, hF, g, ra, h⟩ => (pgs_cons h1 h2 hs).run pins s σ H vs us Q I r ?_⟩
  cases ra with
  | nil => exact h.elim
  | cons rv rr =>
    rename_i v vs' d ds' _
    refine ⟨v, vs', rfl, O, F, e, d, hF, g, rv, ?_⟩
    have h' : match (t d e).bind fun e1 => u ds' e1 with | some e' => ∀ σ', Good X.md.K O F H σ' e' → Kp σ e H σ' e' H → Agr ts σ σ' → Q σ' H | none => False := h
    cases q : t d e with
    | none => rw [q] at h'; exact h'.elim
    | some e1 =>
      intro σ1 g1 k1 a1
      refine ⟨O, F, e1, ds', hF, g1, rr.mono k1.vis, ?_⟩
      rw [q] at h'
      have h2' : match u ds' e1 with | some e' => ∀ σ', Good X.md.K O F H σ' e' → Kp σ e H σ' e' H → Agr ts σ σ' → Q σ' H | none => False := h'
      cases q2 : u ds' e1 with
      | none => rw [q2] at h2'; exact h2'.elim
      | some e2 =>
        rw [q2] at h2'
        exact fun σ2 g2 k2 a2 => h2' σ2 g2 (k1.trans k2) (a1.trans a2)
theorem ppg_tup {es : List Expr} {k n : Nat} {ts : List Nat} {t : List PyData → Sls → Option Sls} (hc : X.calm = true) (h : PGs X es (cGs X.md fx ts t)) (hn : (assignEach es X.env).length = n := by rfl) (hst : (assignEach es X.env).findIdx? (·.1) = none := by rfl) : PG X (.Tuple es k pos) (cG X.md fx ts (tgT n t)) := by
  refine ⟨fun pins s σ H v u Q I r ⟨O, F, e, d, hF, g, rv, hh⟩ => ?_⟩
  cases rv with
  | tup sq hl hr =>
    rename_i a xs ds _
    refine (pg_tup (n := n) hc h hn hst).run pins s σ H _ u Q I r ⟨a, xs, rfl, Same.seqT msk_sub sq, ?_⟩
    unfold tgT at hh
    dsimp only at hh
    by_cases c : ds.length = n
    · rw [if_pos c] at hh
      exact ⟨by rw [hr.length]; exact c, O, F, e, ds, hF, g, hr, hh⟩
    · rw [if_neg c] at hh; exact hh.elim
  | lst sq hl hr =>
    rename_i a xs ds _
    refine (pg_lst (n := n) hc h hn hst).run pins s σ H _ u Q I r ⟨a, xs, rfl, msk_sub.seq sq, ?_⟩
    unfold tgT at hh
    dsimp only at hh
    by_cases c : ds.length = n
    · rw [if_pos c] at hh
      exact ⟨by rw [hr.length]; exact c, O, F, e, ds, hF, g, hr, hh⟩
    · rw [if_neg c] at hh; exact hh.elim
  | _ => exact hh.elim
def asgS (t : PyData → Sls → Option Sls) (f : Sls → Out SV) : Sls → OutS := fun e => (f e).toS fun x e1 => (frzO x e1).toS fun y e2 =>
  match y with
  | .val d =>
    match t d e2 with
    | some e3 => .nx e3
    | none => .stuck
  | _ => .stuck
theorem pps_asg {ts : List Nat} {t : PyData → Sls → Option Sls} (ha : PE X a (cE X.md fx W fa)) (hg : PG X tg (cG X.md fx ts t)) (hs : swapsWithSole [tg] a pos.line X.env = pure false := by rfl) (hw : swappedStores [tg] a X.env = pure none := by rfl) (h1 : (assignEach [tg] X.env).map (·.2) = [assign tg X.env] := by rfl) : PS X (.Assign [tg] a pos) (cS X.md fx W (asgS t fa)) := by
  refine (ps_asg ha hg hs hw h1).weak fun D σ H ⟨O, F, e, hF, g, h⟩ => ?_
  refine ⟨O, F, e, hF, g, (PoS.bind h).mono fun y e1 H1 g1 k1 d1 h1 v r1 => ?_⟩
  obtain ⟨d, e2, g2, k2, r2, h2⟩ := SVR.freezeS g1 r1 h1
  refine ⟨O, F, e2, d, hF, g2, r2, ?_⟩
  have h2' : PoS X.md O F σ e2 H1 W D (match t d e2 with | some e3 => .nx e3 | none => .stuck) := h2
  cases q : t d e2 with
  | none => rw [q] at h2'; exact h2'.elim
  | some e3 =>
    rw [q] at h2'
    exact fun σ' g' k' _ => h2' σ' H1 g' k'
def forD (t : PyData → Sls → Option Sls) (g : Sls → OutS) : List PyData → Sls → OutS
  | [], e => .nx e
  | d :: ds, e =>
    match t d e with
    | none => .stuck
    | some e1 =>
      match g e1 with
      | .nx e2 => forD t g ds e2
      | .ct e2 => forD t g ds e2
      | .bk e2 => .nx e2
      | r => r
def forS (it : Sls → Out (List PyData)) (t : PyData → Sls → Option Sls) (g : Sls → OutS) : Sls → OutS := fun e => (it e).toS fun ds e1 => forD t g ds e1
theorem pps_for {iter : Expr} {body : List Stmt} {ts : List Nat} {it : Sls → Out (List PyData)} {t : PyData → Sls → Option Sls} {gb : Sls → OutS} (hp : PassesOwn (model X.prog X.w) X.A X.env X.xe) (hc : X.calm = true) (hi : PI X tg iter (cI X.md fx W it)) (hg : PG X tg (cG X.md fx ts t)) (hb : PSs X body (cS X.md fx W gb))
    (hs : ∀ x, foldedSetIterable iter X.env x = pure x := by intro _; rfl) : PS X (.For tg iter body [] pos) (cS X.md fx W (forS it t gb)) := by
  refine (ps_for hp hc hi hg hb hs).weak fun D σ H ⟨O, F, e, hF, g, h⟩ => ?_
  refine ⟨O, F, e, hF, g, (PoS.bind h).mono fun ds e1 H1 g1 k1 d1 h1 J wk => ?_⟩
  refine ⟨fun i m σ2 H2 => m = ds.length - i ∧ i ≤ ds.length ∧ ∃ e2, Good X.md.K O F H2 σ2 e2 ∧ Kp σ e1 H1 σ2 e2 H2 ∧ PoS X.md O F σ2 e2 H2 W D (forD t gb (ds.drop i) e2), ⟨ds.length, rfl, Nat.zero_le _, e1, g1, Kp.refl, h1⟩, ?_⟩
  rintro i m σ2 H2 ⟨rfl, hi, e2, g2, k2, h2⟩
  have vis : Same (msk (Hid O σ e1) H1) H2 := fun a o z => by
    obtain ⟨n, z⟩ := msk_some.mp z
    exact (k2 a o z fun w => n (.inr w)).1
  by_cases hlt : i < ds.length
  · refine .inr ⟨wk.goes i H2 hlt vis, fun σ' H' => ∃ e', Good X.md.K O F H' σ' e' ∧ Kp σ e1 H1 σ' e' H' ∧ PoS X.md O F σ' e' H' W D (forD t gb (ds.drop (i + 1)) e'), fun σ' H' ⟨e', q1, q2, q3⟩ => ⟨ds.length - (i + 1), by omega, rfl, hlt, e', q1, q2, q3⟩, fun x H3 y => ?_⟩
    obtain ⟨d, hd, sm, rx⟩ := wk.yields i H2 x H3 hlt vis y
    have g3 := g2.ext sm
    have k3 := k2.trans (Kp.same sm)
    have rp : Rp X.md.K (msk (Hid O σ2 e2) H3) x d := rx _ (fun a o z => by
      obtain ⟨n, z⟩ := msk_some.mp z
      obtain ⟨z1, z2⟩ := k3 a o z fun w => n (.inr w)
      exact msk_some.mpr ⟨fun w => w.elim (fun w => n (.inl w)) z2, z1⟩) fun a o z1 z2 => msk_some.mpr ⟨g2.fresh z1, z2⟩
    have ed : ds.drop i = d :: ds.drop (i + 1) := by
      rw [List.drop_eq_getElem_cons hlt]
      rw [List.getElem?_eq_getElem hlt] at hd
      rw [Option.some.inj hd]
    rw [ed] at h2
    refine ⟨O, F, e2, d, hF, g3, rp, ?_⟩
    have h2' : PoS X.md O F σ2 e2 H2 W D (match t d e2 with | none => .stuck | some e1 => match gb e1 with | .nx e2 => forD t gb (ds.drop (i + 1)) e2 | .ct e2 => forD t gb (ds.drop (i + 1)) e2 | .bk e2 => .nx e2 | r => r) := h2
    cases q : t d e2 with
    | none => rw [q] at h2'; exact h2'.elim
    | some e4 =>
      rw [q] at h2'
      intro σ4 g4 k4 _
      have h4 := PoS.later h2' ((Kp.same sm).trans k4)
      refine ⟨O, F, e4, hF, g4, ?_⟩
      dsimp only at h4
      cases q2 : gb e4 with
      | nx e5 =>
        rw [q2] at h4
        exact fun σ' H' g' k' => ⟨e5, g', (k3.trans k4).trans k', PoS.later h4 k'⟩
      | ct e5 =>
        rw [q2] at h4
        exact fun σ' H' g' k' => ⟨e5, g', (k3.trans k4).trans k', PoS.later h4 k'⟩
      | bk e5 =>
        rw [q2] at h4
        exact fun σ' H' g' k' => h4 σ' H' g' k'
      | rt d e5 => rw [q2] at h4; exact h4
      | rtN d e5 => rw [q2] at h4; exact h4
      | err x e5 => rw [q2] at h4; exact h4
      | stuck => rw [q2] at h4; exact h4
  · have ei : i = ds.length := by omega
    subst ei
    rw [List.drop_length] at h2
    exact .inl ⟨wk.stops H2 vis, h2 σ2 H2 g2 Kp.refl⟩
end
end PP
set_option maxRecDepth 100000
namespace PP
open PySem PySem.Spec PyProof.Rows L2
def Out.noErr {α : Type} (o : Out α) : Out α :=
  match o with
  | .err _ _ => .stuck
  | o => o
def wipeE (e : Sls) : List Nat → Sls
  | [] => e
  | v :: vs => (wipeE e vs).set v .no
def backE (e e' : Sls) : List Nat → Sls
  | [] => e'
  | v :: vs => (backE e e' vs).set v ((e[v]?).getD .no)
def noOwn (vs : List Nat) (e : Sls) : Bool := vs.all fun v => !isOwn v e
theorem noOwn_at {vs : List Nat} {e : Sls} (h : noOwn vs e = true) {v : Nat} (hv : v ∈ vs) {xs : List PyData} : e[v]? ≠ some (Sl.own xs) := fun z => by
  have q := List.all_eq_true.mp h v hv
  unfold isOwn at q
  rw [z] at q
  cases q
theorem wipeE_length (e : Sls) : ∀ vs, (wipeE e vs).length = e.length
  | [] => rfl
  | v :: vs => by unfold wipeE; rw [List.length_set, wipeE_length e vs]
theorem wipeE_out {e : Sls} {i : Nat} : ∀ {vs : List Nat}, i ∉ vs → (wipeE e vs)[i]? = e[i]?
  | [], _ => rfl
  | v :: vs, h => by
    unfold wipeE
    rw [List.getElem?_set_ne (fun z => h (by rw [z]; exact List.mem_cons_self))]
    exact wipeE_out fun z => h (List.mem_cons_of_mem _ z)
theorem wipeE_in {e : Sls} {i : Nat} {s : Sl} : ∀ {vs : List Nat}, i ∈ vs → (wipeE e vs)[i]? = some s → s = .no
  | v :: vs, h, q => by
    unfold wipeE at q
    rcases getset q with ⟨_, z⟩ | ⟨c, z⟩
    · exact z
    · rcases List.mem_cons.mp h with h | h
      · exact absurd h.symm c
      · exact wipeE_in h z
theorem backE_length (e e' : Sls) : ∀ vs, (backE e e' vs).length = e'.length
  | [] => rfl
  | v :: vs => by unfold backE; rw [List.length_set, backE_length e e' vs]
theorem backE_out {e e' : Sls} {i : Nat} : ∀ {vs : List Nat}, i ∉ vs → (backE e e' vs)[i]? = e'[i]?
  | [], _ => rfl
  | v :: vs, h => by
    unfold backE
    rw [List.getElem?_set_ne (fun z => h (by rw [z]; exact List.mem_cons_self))]
    exact backE_out fun z => h (List.mem_cons_of_mem _ z)
theorem backE_in {e e' : Sls} {i : Nat} {s : Sl} (hl : e'.length = e.length) : ∀ {vs : List Nat}, i ∈ vs → (backE e e' vs)[i]? = some s → e[i]? = some s
  | v :: vs, h, q => by
    unfold backE at q
    have hi : i < (backE e e' vs).length := by
      have := (List.getElem?_eq_some_iff.mp q).1
      simpa using this
    rw [backE_length, hl] at hi
    rcases getset q with ⟨c, z⟩ | ⟨c, z⟩
    · subst c
      rw [List.getElem?_eq_getElem hi] at z ⊢
      rw [z]; rfl
    · rcases List.mem_cons.mp h with h | h
      · exact absurd h.symm c
      · exact backE_in hl h z
theorem wipe_in {σ : St} {i : Nat} {v : V} : ∀ {vs : List Nat}, i ∈ vs → (wipe σ vs)[i]? ≠ some (some v) := fun h z => (wipe_some z).2 h
theorem wipe_at {σ : St} {i : Nat} : ∀ {vs : List Nat}, i ∉ vs → (wipe σ vs)[i]? = σ[i]? := fun h => wipe_out h
theorem wipe_agr {ts vs : List Nat} {σ σ' : St} (a : Agr ts σ σ') (h : ∀ i ∈ ts, i ∈ vs) : wipe σ' vs = wipe σ vs := by
  apply List.ext_getElem?
  intro i
  by_cases c : i ∈ vs
  ·
    have key : ∀ (τ : St), τ.length = σ.length → (wipe τ vs)[i]? = if i < σ.length then some none else none := fun τ hl => by
      by_cases hi : i < σ.length
      · rw [if_pos hi]
        cases q : (wipe τ vs)[i]? with
        | none =>
          have := List.getElem?_eq_none_iff.mp q
          rw [wipe_length, hl] at this
          omega
        | some o =>
          cases o with
          | none => rfl
          | some v => exact absurd q (wipe_in c)
      · rw [if_neg hi]
        exact List.getElem?_eq_none (by rw [wipe_length, hl]; omega)
    rw [key σ' a.1, key σ rfl]
  · rw [wipe_at c, wipe_at c, a.2 i fun z => c (h i z)]
theorem wipe_wipe {vs : List Nat} {σ : St} : wipe (wipe σ vs) vs = wipe σ vs := by
  refine wipe_agr (ts := vs) ⟨wipe_length _ _, fun j hj => wipe_at hj⟩ fun i h => h
section
variable {K : PySem.W.Frag} {O : Addr → Prop} {F : List (Nat × V)} {H : Hp} {σ : St} {e : Sls} {vs : List Nat}
theorem own_wipe (h : noOwn vs e = true) (a : Addr) : OwnAt (wipe σ vs) (wipeE e vs) a ↔ OwnAt σ e a := by
  constructor
  · rintro ⟨i, xs, h1, h2⟩
    by_cases c : i ∈ vs
    · exact absurd h2 (wipe_in c)
    · rw [wipeE_out c] at h1
      rw [wipe_at c] at h2
      exact ⟨i, xs, h1, h2⟩
  · rintro ⟨i, xs, h1, h2⟩
    by_cases c : i ∈ vs
    · exact absurd h1 (noOwn_at h c)
    · exact ⟨i, xs, by rw [wipeE_out c]; exact h1, by rw [wipe_at c]; exact h2⟩
theorem msk_iff {P P' : Addr → Prop} (h : ∀ a, P a ↔ P' a) : msk P H = msk P' H := by
  have e : P = P' := funext fun a => propext (h a)
  rw [e]
theorem hid_iff {σ' : St} {e' : Sls} (h : ∀ a, OwnAt σ' e' a ↔ OwnAt σ e a) (a : Addr) : Hid O σ' e' a ↔ Hid O σ e a := by
  unfold Hid
  rw [h a]
theorem Good.wipe (g : Good K O F H σ e) (h : noOwn vs e = true) (hf : ∀ p ∈ F, p.1 ∉ vs) : Good K O F H (wipe σ vs) (wipeE e vs) := by
  have eq : msk (Hid O (L2.wipe σ vs) (wipeE e vs)) H = msk (Hid O σ e) H := msk_iff (hid_iff (own_wipe h))
  refine ⟨by rw [wipe_length, wipeE_length]; exact g.len, g.old, fun i d q => ?_, fun i xs q => ?_, fun i j xs ys p h1 h2 h3 h4 => ?_, fun p hp => by rw [wipe_at (hf p hp)]; exact g.fix p hp⟩
  · by_cases c : i ∈ vs
    · cases wipeE_in c q
    · rw [wipeE_out c] at q
      obtain ⟨v, q1, q2⟩ := g.val i d q
      exact ⟨v, by rw [wipe_at c]; exact q1, by rw [eq]; exact q2⟩
  · by_cases c : i ∈ vs
    · cases wipeE_in c q
    · rw [wipeE_out c] at q
      obtain ⟨p, ys, q1, q2, q3, q4, q5⟩ := g.own i xs q
      exact ⟨p, ys, by rw [wipe_at c]; exact q1, q2, q3, by rw [eq]; exact q4, q5⟩
  · obtain ⟨h3', c3⟩ := wipe_some h3
    obtain ⟨h4', c4⟩ := wipe_some h4
    rw [wipeE_out c3] at h1
    rw [wipeE_out c4] at h2
    exact g.inj i j xs ys p h1 h2 h3' h4'
theorem Good.updO {D : Addr} {u : HO} (g : Good K (Op O D) F H σ e) : Good K (Op O D) F (L2.upd H D u) σ e := by
  have nh : ∀ a, ¬ Hid (Op O D) σ e a → a ≠ D := fun a n z => n (.inl (.inr z))
  have sub : Same (msk (Hid (Op O D) σ e) H) (msk (Hid (Op O D) σ e) (L2.upd H D u)) := fun a o q => by
    obtain ⟨n, q⟩ := msk_some.mp q
    exact msk_some.mpr ⟨n, by rw [upd_ne (nh a n)]; exact q⟩
  refine ⟨g.len, fun a z => ?_, fun i d q => ?_, fun i xs q => ?_, g.inj, g.fix⟩
  · by_cases c : a = D
    · subst c; rw [upd_same]; exact fun z => by cases z
    · rw [upd_ne c]; exact g.old a z
  · obtain ⟨v, q1, q2⟩ := g.val i d q
    exact ⟨v, q1, q2.mono sub⟩
  · obtain ⟨p, ys, q1, q2, q3, q4, q5⟩ := g.own i xs q
    have ne : p ≠ D := fun z => q5 (.inr z)
    exact ⟨p, ys, q1, by rw [upd_ne ne]; exact q2, q3, q4.mono sub, q5⟩
theorem updO_same {D : Addr} {u : HO} : Same (msk (Hid (Op O D) σ e) H) (msk (Hid (Op O D) σ e) (L2.upd H D u)) := fun a o q => by
  obtain ⟨n, q⟩ := msk_some.mp q
  exact msk_some.mpr ⟨n, by rw [upd_ne fun z => n (.inl (.inr z))]; exact q⟩
end
def KpB (D : Addr) (σ : St) (e : Sls) (H : Hp) (σ' : St) (e' : Sls) (H' : Hp) : Prop := ∀ a o, a ≠ D → H a = some o → ¬ OwnAt σ e a → H' a = some o ∧ ¬ OwnAt σ' e' a
theorem KpB.refl {D : Addr} {σ : St} {e : Sls} {H : Hp} : KpB D σ e H σ e H := fun _ _ _ h n => ⟨h, n⟩
theorem KpB.trans {D : Addr} {σ σ1 σ2 : St} {e e1 e2 : Sls} {H H1 H2 : Hp} (a : KpB D σ e H σ1 e1 H1) (b : KpB D σ1 e1 H1 σ2 e2 H2) : KpB D σ e H σ2 e2 H2 := fun c o ne h n => by
  obtain ⟨h1, n1⟩ := a c o ne h n
  exact b c o ne h1 n1
theorem Kp.b {D : Addr} {σ σ' : St} {e e' : Sls} {H H' : Hp} (k : Kp σ e H σ' e' H') : KpB D σ e H σ' e' H' := fun a o _ h n => k a o h n
def DnB (vs : List Nat) (e e' : Sls) : Prop := ∀ (i : Nat) (s : Sl), i ∉ vs → e[i]? = some s → s.data ≠ none → ∃ s' : Sl, e'[i]? = some s' ∧ s'.data ≠ none
theorem DnB.refl {vs : List Nat} {e : Sls} : DnB vs e e := fun i s _ h1 h2 => ⟨s, h1, h2⟩
theorem DnB.trans {vs : List Nat} {e e1 e2 : Sls} (a : DnB vs e e1) (b : DnB vs e1 e2) : DnB vs e e2 := fun i s c h1 h2 => by
  obtain ⟨s1, q1, q2⟩ := a i s c h1 h2
  exact b i s1 c q1 q2
theorem Dn.b {vs : List Nat} {e e' : Sls} (d : Dn e e') : DnB vs e e' := fun i s _ h1 h2 => d i s h1 h2
def TgOk (vs : List Nat) (t : PyData → Sls → Option Sls) : Prop := ∀ d e e', t d e = some e' → DnB vs e e'
section
variable {vs : List Nat}
def lcGo (vs : List Nat) (t : PyData → Sls → Option Sls) (ts : Sls → Out Bool) (el : Sls → Out SV) : List PyData → Sls → Out (List PyData)
  | [], e => .ok [] e
  | d :: ds, e =>
    match t d e with
    | none => .stuck
    | some e1 => (ts e1).noErr.bind fun b e2 =>
      if b then (el e2).noErr.bind fun x e3 => (frzO x e3).noErr.bind fun y e4 => if noOwn vs e4 then (lcGo vs t ts el ds (wipeE e4 vs)).bind fun r e5 => .ok (rd e4 y :: r) e5 else .stuck
      else if noOwn vs e2 then lcGo vs t ts el ds (wipeE e2 vs) else .stuck
def compN (vs : List Nat) (it : Sls → Out (List PyData)) (t : PyData → Sls → Option Sls) (ts : Sls → Out Bool) (el : Sls → Out SV) : Sls → Out (List PyData) := fun e => (it e).bind fun ds e1 =>
  if noOwn vs e1 && decide (ds.length ≤ sizeLine) then (lcGo vs t ts el ds (wipeE e1 vs)).noErr.bind fun r e2 => .ok r (backE e1 e2 vs) else .stuck
def FinC (M : Md) (O : Addr → Prop) (F : List (Nat × V)) (D : Addr) (σ0 : St) (e0 : Sls) (H0 : Hp) (vs : List Nat) (acc : List PyData) (Q : Hp → Prop) : Out (List PyData) → Prop
  | .ok r e2 => ∀ H' ys, Good M.K (Op O D) F H' σ0 e2 → H' D = some (.lst ys) → ys.length ≤ sizeLine → RpAll M.K (msk (Hid (Op O D) σ0 e2) H') ys (acc ++ r) → KpB D σ0 e0 H0 σ0 e2 H' → DnB vs e0 e2 → Q H'
  | _ => False
theorem FinC.bind {α : Type} {M : Md} {O : Addr → Prop} {F : List (Nat × V)} {D : Addr} {σ0 : St} {e0 : Sls} {H0 : Hp} {vs : List Nat} {acc : List PyData} {Q : Hp → Prop} {o : Out α} {f : α → Sls → Out (List PyData)} (h : FinC M O F D σ0 e0 H0 vs acc Q (o.noErr.bind f))
    {O' : Addr → Prop} {F' : List (Nat × V)} {σ : St} {e : Sls} {H : Hp} {W : WX} : Po M O' F' σ e H W (fun a e1 _ => FinC M O F D σ0 e0 H0 vs acc Q (f a e1)) o := by
  cases o with
  | ok a e1 => exact fun _ _ _ _ => h
  | err x e1 => exact h.elim
  | stuck => exact h.elim
theorem FinC.push {M : Md} {O : Addr → Prop} {F : List (Nat × V)} {D : Addr} {σ0 : St} {e0 : Sls} {H0 : Hp} {vs : List Nat} {acc : List PyData} {d : PyData} {Q : Hp → Prop} {o : Out (List PyData)} (h : FinC M O F D σ0 e0 H0 vs acc Q (o.bind fun r e5 => .ok (d :: r) e5)) : FinC M O F D σ0 e0 H0 vs (acc ++ [d]) Q o := by
  cases o with
  | ok r e2 =>
    intro H' ys g hd hl hr k dn
    refine h H' ys g hd hl ?_ k dn
    rw [List.append_assoc] at hr
    exact hr
  | err x e1 => exact h.elim
  | stuck => exact h.elim
end
section
variable {X : Cx} {fx : List Nat} {W : WX} {elt tg iter : Expr} {pos : Pos}
abbrev W0 : WX := fun _ _ _ _ => False
def yesT : Sls → Out Bool := fun e => .ok true e
theorem ppts_nil : PTs X [] (cT X.md fx W yesT) := ⟨fun pins s σ H Q I ⟨O, F, e, hF, g, h⟩ => pts_nil.run pins s σ H Q I (h H g Kp.refl Dn.refl)⟩
theorem ppts_one {c : Expr} {t : Sls → Out Bool} (h : PT X c (cT X.md fx W t)) : PTs X [c] (cT X.md fx W t) := pts_one h
theorem Good.back {K : PySem.W.Frag} {O : Addr → Prop} {F : List (Nat × V)} {D : Addr} {σ : St} {e1 e2 : Sls} {H1 H' : Hp} {vs : List Nat} (g1 : Good K O F H1 σ e1) (h1 : noOwn vs e1 = true) (nD : H1 D = none) (g2 : Good K (Op O D) F H' (L2.wipe σ vs) e2) (k : KpB D (L2.wipe σ vs) (wipeE e1 vs) H1 (L2.wipe σ vs) e2 H') (hf : ∀ p ∈ F, p.1 ∉ vs) :
    Good K (Op O D) F H' σ (backE e1 e2 vs) ∧ (∀ a, Hid (Op O D) σ (backE e1 e2 vs) a ↔ Hid (Op O D) (L2.wipe σ vs) e2 a) ∧ Kp σ e1 H1 σ (backE e1 e2 vs) H' := by
  have hl : e2.length = e1.length := by rw [← g2.len, wipe_length]; exact g1.len
  have ow : ∀ a, OwnAt σ (backE e1 e2 vs) a ↔ OwnAt (L2.wipe σ vs) e2 a := fun a => by
    constructor
    · rintro ⟨i, xs, q1, q2⟩
      by_cases c : i ∈ vs
      · exact absurd (backE_in hl c q1) (noOwn_at h1 c)
      · exact ⟨i, xs, by rw [← backE_out (e := e1) c]; exact q1, by rw [wipe_at c]; exact q2⟩
    · rintro ⟨i, xs, q1, q2⟩
      have c := (wipe_some q2).2
      exact ⟨i, xs, by rw [backE_out c]; exact q1, by rw [← wipe_at c]; exact q2⟩
  have hid : ∀ a, Hid (Op O D) σ (backE e1 e2 vs) a ↔ Hid (Op O D) (L2.wipe σ vs) e2 a := hid_iff ow
  have eq : msk (Hid (Op O D) σ (backE e1 e2 vs)) H' = msk (Hid (Op O D) (L2.wipe σ vs) e2) H' := msk_iff hid
  have kp : Kp σ e1 H1 σ (backE e1 e2 vs) H' := fun a o q n => by
    have ne : a ≠ D := ne_of_none q nD
    obtain ⟨q1, q2⟩ := k a o ne q fun z => n ((own_wipe h1 a).mp z)
    exact ⟨q1, fun z => q2 ((ow a).mp z)⟩
  refine ⟨⟨by rw [backE_length, hl]; exact g1.len, g2.old, fun i d q => ?_, fun i xs q => ?_, fun i j xs ys p q1 q2 q3 q4 => ?_, fun p hp => ?_⟩, hid, kp⟩
  · by_cases c : i ∈ vs
    · obtain ⟨v, z1, z2⟩ := g1.val i d (backE_in hl c q)
      refine ⟨v, z1, z2.mono fun a o z => ?_⟩
      obtain ⟨n, z⟩ := msk_some.mp z
      obtain ⟨w1, w2⟩ := kp a o z fun w => n (.inr w)
      have ne : a ≠ D := ne_of_none z nD
      exact msk_some.mpr ⟨fun w => w.elim (fun w => w.elim (fun w => n (.inl w)) ne) w2, w1⟩
    · rw [backE_out c] at q
      obtain ⟨v, z1, z2⟩ := g2.val i d q
      exact ⟨v, by rw [← wipe_at c]; exact z1, by rw [eq]; exact z2⟩
  · by_cases c : i ∈ vs
    · exact absurd (backE_in hl c q) (noOwn_at h1 c)
    · rw [backE_out c] at q
      obtain ⟨p, ys, z1, z2, z3, z4, z5⟩ := g2.own i xs q
      exact ⟨p, ys, by rw [← wipe_at c]; exact z1, z2, z3, by rw [eq]; exact z4, z5⟩
  · have c1 : i ∉ vs := fun c => absurd (backE_in hl c q1) (noOwn_at h1 c)
    have c2 : j ∉ vs := fun c => absurd (backE_in hl c q2) (noOwn_at h1 c)
    rw [backE_out c1] at q1
    rw [backE_out c2] at q2
    exact g2.inj i j xs ys p q1 q2 (by rw [wipe_at c1]; exact q3) (by rw [wipe_at c2]; exact q4)
  · have z := g2.fix p hp
    rw [wipe_at (hf p hp)] at z
    exact z
structure LcAt (M : Md) (O : Addr → Prop) (F : List (Nat × V)) (D : Addr) (σ0 : St) (e0 : Sls) (H0 : Hp) (vs : List Nat) (i : Nat) (H : Hp) (e : Sls) (acc : List V) (accd : List PyData) : Prop where
  good : Good M.K (Op O D) F H σ0 e
  at_ : H D = some (.lst acc)
  few : acc.length ≤ i
  rp : RpAll M.K (msk (Hid (Op O D) σ0 e) H) acc accd
  kp : KpB D σ0 e0 H0 σ0 e H
  dn : DnB vs e0 e
theorem dn_wipe {vs : List Nat} {e : Sls} : DnB vs e (wipeE e vs) := fun i s c h1 h2 => ⟨s, by rw [wipeE_out c]; exact h1, h2⟩
theorem kp_wipe {D : Addr} {σ : St} {vs : List Nat} {e : Sls} {H : Hp} (h : noOwn vs e = true) : KpB D σ e H (wipe σ vs) (wipeE e vs) H := fun a o _ q n => ⟨q, fun z => n ((own_wipe h a).mp z)⟩
theorem lc_loop {wi : Unit} {ts : List Nat} {t : PyData → Sls → Option Sls} {tst : Sls → Out Bool} {el : Sls → Out SV} {own : List Nat} {M : Md} {O : Addr → Prop} {F : List (Nat × V)} {σ : St} {e1 : Sls} {H1 : Hp} {Q : VK} {ds : List PyData} {J : It} {D : Addr}
    (hF : ∀ p ∈ F, p.1 ∈ fx) (hfx : ∀ i ∈ own, i ∉ fx) (hts : ∀ i ∈ ts, i ∈ own) (tok : TgOk own t) (g1 : Good M.K O F H1 σ e1) (no : noOwn own e1 = true) (hz : ds.length ≤ sizeLine) (wk : WalkD M.K (Hid O σ e1) H1 J ds) (nD : H1 D = none)
    (h : FinC M O F D (wipe σ own) (wipeE e1 own) H1 own [] (Q (.ref D)) (lcGo own t tst el ds (wipeE e1 own))) :
    ∃ Wi : Nat → Nat → Hp → Prop, (∃ m, Wi 0 m (upd H1 D (.lst []))) ∧ ∀ i m H, Wi i m H →
      (J.stop i H ∧ Q (.ref D) H) ∨ (J.go i H ∧ ∃ Nx : Hp → Prop, (∀ H', Nx H' → ∃ m', m' < m ∧ Wi (i + 1) m' H') ∧ ∀ x H', J.yld i H x H' → cG M fx ts t x (wipe σ own) H' fun σ2 H2 => wipe σ2 own = wipe σ own ∧ cT M fx W0 tst σ2 H2 fun b H3 =>
        if b = true then cE M fx W0 el σ2 H3 fun y H4 => ∃ acc, H4 D = some (.lst acc) ∧ acc.length < sizeLine ∧ Nx (upd H4 D (.lst (acc ++ [y]))) else Nx H3) := by
  have hf : ∀ p ∈ F, p.1 ∉ own := fun p hp z => hfx _ z (hF p hp)
  refine ⟨fun i m H => m = ds.length - i ∧ i ≤ ds.length ∧ ∃ e acc accd, LcAt M O F D (wipe σ own) (wipeE e1 own) H1 own i H e acc accd ∧ FinC M O F D (wipe σ own) (wipeE e1 own) H1 own accd (Q (.ref D)) (lcGo own t tst el (ds.drop i) e), ⟨ds.length, rfl, Nat.zero_le _, wipeE e1 own, [], [], ?_, h⟩, ?_⟩
  · obtain ⟨g', _⟩ := (g1.wipe no hf).laid (u := .lst []) nD
    exact ⟨g', upd_same, Nat.le_refl _, .nil, fun a o ne q n => ⟨by rw [upd_ne ne]; exact q, n⟩, DnB.refl⟩
  rintro i m H ⟨rfl, hi, e, acc, accd, ⟨g, hD, few, rp, kp, dn⟩, hfin⟩
  have vis : Same (msk (Hid O σ e1) H1) (msk (Hid (Op O D) (wipe σ own) e) H) := fun a o z => by
    obtain ⟨n, z⟩ := msk_some.mp z
    have ne : a ≠ D := ne_of_none z nD
    obtain ⟨w1, w2⟩ := kp a o ne z fun w => n (.inr ((own_wipe no a).mp w))
    exact msk_some.mpr ⟨fun w => w.elim (fun w => w.elim (fun w => n (.inl w)) ne) w2, w1⟩
  by_cases hlt : i < ds.length
  · refine .inr ⟨wk.goes i H hlt (vis.trans msk_sub), fun H' => ∃ e' acc' accd', LcAt M O F D (wipe σ own) (wipeE e1 own) H1 own (i + 1) H' e' acc' accd' ∧ FinC M O F D (wipe σ own) (wipeE e1 own) H1 own accd' (Q (.ref D)) (lcGo own t tst el (ds.drop (i + 1)) e'),
      fun H' ⟨e', acc', accd', q1, q2⟩ => ⟨ds.length - (i + 1), by omega, rfl, hlt, e', acc', accd', q1, q2⟩, fun x H2 y => ?_⟩
    obtain ⟨d, hd, sm, rx⟩ := wk.yields i H x H2 hlt (vis.trans msk_sub) y
    have g2 := g.ext sm
    have rpx : Rp M.K (msk (Hid (Op O D) (wipe σ own) e) H2) x d := rx _ (vis.trans (msk_same sm)) fun a o z1 z2 => msk_some.mpr ⟨g.fresh z1, z2⟩
    have ed : ds.drop i = d :: ds.drop (i + 1) := by
      rw [List.drop_eq_getElem_cons hlt]
      rw [List.getElem?_eq_getElem hlt] at hd
      rw [Option.some.inj hd]
    rw [ed] at hfin
    have hfin' : FinC M O F D (wipe σ own) (wipeE e1 own) H1 own accd (Q (.ref D)) (match t d e with
      | none => .stuck
      | some e1 => (tst e1).noErr.bind fun b e2 =>
        if b then (el e2).noErr.bind fun x e3 => (frzO x e3).noErr.bind fun y e4 => if noOwn own e4 then (lcGo own t tst el (ds.drop (i + 1)) (wipeE e4 own)).bind fun r e5 => .ok (rd e4 y :: r) e5 else .stuck
        else if noOwn own e2 then lcGo own t tst el (ds.drop (i + 1)) (wipeE e2 own) else .stuck) := hfin
    refine ⟨Op O D, F, e, d, hF, g2, rpx, ?_⟩
    cases q : t d e with
    | none => rw [q] at hfin'; exact hfin'.elim
    | some e2 =>
      rw [q] at hfin'
      intro σ2 g3 k3 a3
      have ew : wipe σ2 own = wipe σ own := by rw [wipe_agr a3 hts, wipe_wipe]
      refine ⟨ew, Op O D, F, e2, hF, g3, (FinC.bind hfin').mono fun b e4 H4 g4 k4 d4 h4 => ?_⟩
      have kp4 : KpB D (wipe σ own) e H σ2 e4 H4 := (Kp.b (Kp.same sm)).trans ((Kp.b k3).trans (Kp.b k4))
      have dn4 : DnB own e e4 := (tok d e e2 q).trans (Dn.b d4)
      have hD4 : H4 D = some (.lst acc) ∧ ¬ OwnAt σ2 e4 D := by
        have n0 : ¬ OwnAt (wipe σ own) e D := fun ⟨j, zs, z1, z2⟩ => by
          obtain ⟨p, _, w1, _, _, _, w5⟩ := g.own j zs z1
          rw [z2] at w1; cases w1
          exact w5 (.inr rfl)
        exact (((Kp.same sm).trans k3).trans k4) D _ hD n0
      have vis4 : Same (msk (Hid (Op O D) (wipe σ own) e) H) (msk (Hid (Op O D) σ2 e4) H4) := ((Kp.same sm).trans (k3.trans k4)).vis
      cases b with
      | true =>
        rw [if_pos rfl] at h4
        refine iteT ?_
        refine ⟨Op O D, F, e4, hF, g4, (FinC.bind h4).mono fun x5 e5 H5 g5 k5 d5 h5 v5 r5 => ?_⟩
        obtain ⟨dv, e6, g6, k6, d6, r6, h6, _⟩ := SVR.freeze g5 r5 (FinC.bind h5 (O' := Op O D) (F' := F) (σ := σ2) (e := e5) (H := H5) (W := W0))
        have hD5 := (k5.trans k6) D _ hD4.1 hD4.2
        refine ⟨acc, hD5.1, by omega, ?_⟩
        by_cases no6 : noOwn own e6 = true
        · rw [if_pos no6] at h6
          have g7 := (g6.wipe no6 hf).updO (u := .lst (acc ++ [v5]))
          rw [ew] at g7
          have eqm : msk (Hid (Op O D) (wipe σ own) (wipeE e6 own)) H5 = msk (Hid (Op O D) σ2 e6) H5 := by
            rw [← ew]
            exact msk_iff (hid_iff (own_wipe no6))
          refine ⟨wipeE e6 own, acc ++ [v5], accd ++ [dv], ⟨g7, upd_same, by rw [List.length_append]; show acc.length + 1 ≤ i + 1; omega, ?_, ?_, ?_⟩, FinC.push h6⟩
          · refine RpAll.mono updO_same ?_
            rw [eqm]
            exact ((rp.mono vis4).mono (k5.trans k6).vis).append (.cons r6 .nil)
          · refine kp.trans (kp4.trans ((Kp.b (k5.trans k6)).trans ?_))
            intro a o ne z n
            refine ⟨by rw [upd_ne ne]; exact z, fun w => n ?_⟩
            rw [← ew] at w
            exact (own_wipe no6 a).mp w
          · exact dn.trans (dn4.trans ((Dn.b (d5.trans d6)).trans dn_wipe))
        · rw [if_neg no6] at h6
          exact h6.elim
      | false =>
        rw [if_neg Bool.false_ne_true] at h4
        refine iteF ?_
        by_cases no4 : noOwn own e4 = true
        · rw [if_pos no4] at h4
          have g7 := g4.wipe no4 hf
          rw [ew] at g7
          have eqm : msk (Hid (Op O D) (wipe σ own) (wipeE e4 own)) H4 = msk (Hid (Op O D) σ2 e4) H4 := by
            rw [← ew]
            exact msk_iff (hid_iff (own_wipe no4))
          refine ⟨wipeE e4 own, acc, accd, ⟨g7, hD4.1, by omega, ?_, ?_, ?_⟩, h4⟩
          · rw [eqm]
            exact rp.mono vis4
          · refine kp.trans (kp4.trans ?_)
            intro a o ne z n
            refine ⟨z, fun w => n ?_⟩
            rw [← ew] at w
            exact (own_wipe no4 a).mp w
          · exact dn.trans (dn4.trans dn_wipe)
        · rw [if_neg no4] at h4
          exact h4.elim
  · have ei : i = ds.length := by omega
    subst ei
    rw [List.drop_length] at hfin
    refine .inl ⟨wk.stops H (vis.trans msk_sub), hfin H acc g hD (by omega) (by rw [List.append_nil]; exact rp) kp dn⟩
theorem fx_out {own : List Nat} (h : (own.all fun i => !fx.contains i) = true) : ∀ i ∈ own, i ∉ fx := fun i hi z => by
  have q := List.all_eq_true.mp h i hi
  rw [List.contains_iff_mem.mpr z] at q
  cases q
theorem sub_of {ts own : List Nat} (h : (ts.all fun i => own.contains i) = true) : ∀ i ∈ ts, i ∈ own := fun i hi => List.contains_iff_mem.mp (List.all_eq_true.mp h i hi)
theorem lc_enter {own : List Nat} {ts : List Nat} {t : PyData → Sls → Option Sls} {tst : Sls → Out Bool} {el : Sls → Out SV} {it : Sls → Out (List PyData)} {M : Md} {σ : St} {H : Hp} {Q : VK} (hfx : ∀ i ∈ own, i ∉ fx) (hts : ∀ i ∈ ts, i ∈ own) (tok : TgOk own t) (h : cN M fx W (compN own it t tst el) σ H Q) :
    tLc (cI M fx W it) (cG M fx ts t) (cT M fx W0 tst) (cE M fx W0 el) own σ H Q := by
  obtain ⟨O, F, e, hF, g, h⟩ := h
  refine ⟨O, F, e, hF, g, (PoN.bind h).mono fun ds e1 H1 g1 k1 d1 h1 J wk D nD => ?_⟩
  by_cases c : (noOwn own e1 && decide (ds.length ≤ sizeLine)) = true
  · rw [if_pos c] at h1
    rw [Bool.and_eq_true] at c
    have hf : ∀ p ∈ F, p.1 ∉ own := fun p hp z => hfx _ z (hF p hp)
    refine lc_loop (wi := ()) hF hfx hts tok g1 c.1 (of_decide_eq_true c.2) wk nD ?_
    cases q : lcGo own t tst el ds (wipeE e1 own) with
    | ok r e2 =>
      rw [q] at h1
      have h1' : PoN M O F σ e1 H1 W Q (.ok r (backE e1 e2 own)) := h1
      intro H' ys g2 hD hl hr kp dn
      obtain ⟨g3, hid, k3⟩ := Good.back g1 c.1 nD g2 kp hf
      refine h1' D ys H' g3 hD hl ?_ (fun z => g1.old D z nD) (.inl nD) k3 fun i s z1 z2 => ?_
      · rw [msk_iff hid]; exact hr
      · by_cases ci : i ∈ own
        · have hlen : e2.length = e1.length := by rw [← g2.len, wipe_length]; exact g1.len
          have hi : i < (backE e1 e2 own).length := by
            rw [backE_length, hlen]
            exact (List.getElem?_eq_some_iff.mp z1).1
          have := backE_in hlen ci (List.getElem?_eq_getElem hi)
          rw [z1] at this
          exact ⟨s, by rw [List.getElem?_eq_getElem hi]; exact this.symm, z2⟩
        · obtain ⟨s', w1, w2⟩ := dn i s ci (by rw [wipeE_out ci]; exact z1) z2
          exact ⟨s', by rw [backE_out ci]; exact w1, w2⟩
    | err x e2 => rw [q] at h1; exact h1.elim
    | stuck => rw [q] at h1; exact h1.elim
  · rw [if_neg c] at h1
    exact h1.elim
theorem pp_lc {ifs : List Expr} {scope : Scope} {own : List (Str × Nat)} {ts : List Nat} {t : PyData → Sls → Option Sls} {tst : Sls → Out Bool} {el : Sls → Out SV} {it : Sls → Out (List PyData)} (ok : blkC X.N X.env.scope scope own = true) (tok : TgOk (own.map (·.2)) t) (hc : X.calm = true) (hN : X.N.Nodup) (hi : PI X tg iter (cI X.md fx W it))
    (hg : ∀ (s : Shared) (H : Hp) (C : Addr) (cl : List (Str × Addr)) (fp : List Addr), PG (X.blk s H scope (compEnvC scope cl C X.env) fp) tg (cG X.md fx ts t))
    (ht : ∀ (s : Shared) (H : Hp) (C : Addr) (cl : List (Str × Addr)) (fp : List Addr), PTs (X.blk s H scope (compEnvC scope cl C X.env) fp) ifs (cT X.md fx W0 tst))
    (he : ∀ (s : Shared) (H : Hp) (C : Addr) (cl : List (Str × Addr)) (fp : List Addr), PE (X.blk s H scope (compEnvC scope cl C X.env) fp) elt (cE X.md fx W0 el))
    (hfx : ((own.map (·.2)).all fun i => !fx.contains i) = true := by rfl) (hts : (ts.all fun i => (own.map (·.2)).contains i) = true := by rfl) (hs : ∀ x, foldedSetIterable iter X.env x = pure x := by intro _; rfl) :
    PE X (.ListComp elt [⟨tg, iter, ifs, 0⟩] scope pos) (cN X.md fx W (compN (own.map (·.2)) it t tst el)) :=
  (pe_lc hc hN hi (blkOk_by ok) hg ht he hs).weak fun σ H Q h => lc_enter (fx_out hfx) (sub_of hts) tok h
theorem pps_setLc {i : Nat} {y : Str} {py spos : Pos} {ifs : List Expr} {scope : Scope} {own : List (Str × Nat)} {ts : List Nat} {t : PyData → Sls → Option Sls} {tst : Sls → Out Bool} {el : Sls → Out SV} {it : Sls → Out (List PyData)} (hi' : fx.contains i = false) (ok : blkC X.N X.env.scope scope own = true) (tok : TgOk (own.map (·.2)) t) (hc : X.calm = true) (hN : X.N.Nodup) (hi : PI X tg iter (cI X.md fx W it))
    (hg : ∀ (s : Shared) (H : Hp) (C : Addr) (cl : List (Str × Addr)) (fp : List Addr), PG (X.blk s H scope (compEnvC scope cl C X.env) fp) tg (cG X.md fx ts t))
    (ht : ∀ (s : Shared) (H : Hp) (C : Addr) (cl : List (Str × Addr)) (fp : List Addr), PTs (X.blk s H scope (compEnvC scope cl C X.env) fp) ifs (cT X.md fx W0 tst))
    (he : ∀ (s : Shared) (H : Hp) (C : Addr) (cl : List (Str × Addr)) (fp : List Addr), PE (X.blk s H scope (compEnvC scope cl C X.env) fp) elt (cE X.md fx W0 el))
    (hsw : swapsWith (.ListComp elt [⟨tg, iter, ifs, 0⟩] scope pos) (some (.Name y py)) spos.line X.env = pure true)
    (hy : X.N[i]? = some y := by rfl) (hyl : X.env.scope.names.lookup y = some .local := by rfl)
    (hfx : ((own.map (·.2)).all fun i => !fx.contains i) = true := by rfl) (hts : (ts.all fun i => (own.map (·.2)).contains i) = true := by rfl) (hs : ∀ x, foldedSetIterable iter X.env x = pure x := by intro _; rfl) :
    PS X (.Assign [.Name y py] (.ListComp elt [⟨tg, iter, ifs, 0⟩] scope pos) spos) (cS X.md fx W (setN i (compN (own.map (·.2)) it t tst el))) :=
  (ps_setLc hc hN hy hyl hsw hi (blkOk_by ok) hg ht he hs).weak fun D σ H h => lc_enter (fx_out hfx) (sub_of hts) tok (setN_ok hi' h)
theorem setV_ok {f : Sls → Out SV} {i : Nat} {D : Ends} {σ : St} {H : Hp} (hi' : fx.contains i = false) (h : cS X.md fx W (setS i f) D σ H) : cE X.md fx W f σ H (fun x H1 => gName i x σ H1 D.nx) := by
  obtain ⟨O, F, e, hF, g, h⟩ := h
  refine ⟨O, F, e, hF, g, (PoS.bind h).mono fun y e1 H1 g1 k1 d1 h1 v r1 => ?_⟩
  obtain ⟨d, e2, g2, k2, r2, h2⟩ := SVR.freezeS g1 r1 h1
  obtain ⟨g3, k3⟩ := g2.setV r2 (fx_ne hi' hF)
  exact h2 _ H1 g3 k3
theorem cE_of_cN {M : Md} {f : Sls → Out (List PyData)} {σ : St} {H : Hp} {Q : VK} (h : cE M fx W (asVal f) σ H Q) : cN M fx W f σ H Q := by
  obtain ⟨O, F, e, hF, g, h⟩ := h
  refine ⟨O, F, e, hF, g, ?_⟩
  have hb := Po.bind h
  cases q : f e with
  | ok xs e1 =>
    rw [q] at hb
    intro p ys H1 g1 hp hl hr ho hn k1 d1
    have g1' := g1.bare
    have np : ¬ Hid O σ e1 p := fun z => z.elim ho fun z => by
      obtain ⟨i, zs, z1, z2⟩ := z
      obtain ⟨p', _, q1, _, _, _, q5⟩ := g1.own i zs z1
      rw [z2] at q1; cases q1
      exact q5 (.inr rfl)
    have sub : Same (msk (Hid (Op O p) σ e1) H1) (msk (Hid O σ e1) H1) := fun a o q => by
      obtain ⟨n, q⟩ := msk_some.mp q
      exact msk_some.mpr ⟨fun z => n (z.elim (fun z => .inl (.inl z)) .inr), q⟩
    exact hb H1 g1' k1 d1 H1 g1' Kp.refl Dn.refl _ (.lst (.inl (.inl (msk_some.mpr ⟨np, hp⟩))) hl (hr.mono sub))
  | err x e1 =>
    rw [q] at hb
    exact hb
  | stuck =>
    rw [q] at hb
    exact hb
theorem pps_setLcV {i : Nat} {y : Str} {py spos : Pos} {ifs : List Expr} {scope : Scope} {own : List (Str × Nat)} {ts : List Nat} {t : PyData → Sls → Option Sls} {tst : Sls → Out Bool} {el : Sls → Out SV} {it : Sls → Out (List PyData)} (hi' : fx.contains i = false) (ok : blkC X.N X.env.scope scope own = true) (tok : TgOk (own.map (·.2)) t) (hc : X.calm = true) (hN : X.N.Nodup) (hi : PI X tg iter (cI X.md fx W it))
    (hg : ∀ (s : Shared) (H : Hp) (C : Addr) (cl : List (Str × Addr)) (fp : List Addr), PG (X.blk s H scope (compEnvC scope cl C X.env) fp) tg (cG X.md fx ts t))
    (ht : ∀ (s : Shared) (H : Hp) (C : Addr) (cl : List (Str × Addr)) (fp : List Addr), PTs (X.blk s H scope (compEnvC scope cl C X.env) fp) ifs (cT X.md fx W0 tst))
    (he : ∀ (s : Shared) (H : Hp) (C : Addr) (cl : List (Str × Addr)) (fp : List Addr), PE (X.blk s H scope (compEnvC scope cl C X.env) fp) elt (cE X.md fx W0 el))
    (hsw : swapsWith (.ListComp elt [⟨tg, iter, ifs, 0⟩] scope pos) (some (.Name y py)) spos.line X.env = pure true)
    (hy : X.N[i]? = some y := by rfl) (hyl : X.env.scope.names.lookup y = some .local := by rfl)
    (hfx : ((own.map (·.2)).all fun i => !fx.contains i) = true := by rfl) (hts : (ts.all fun i => (own.map (·.2)).contains i) = true := by rfl) (hs : ∀ x, foldedSetIterable iter X.env x = pure x := by intro _; rfl) :
    PS X (.Assign [.Name y py] (.ListComp elt [⟨tg, iter, ifs, 0⟩] scope pos) spos) (cS X.md fx W (setS i (asVal (compN (own.map (·.2)) it t tst el)))) :=
  (ps_setLc hc hN hy hyl hsw hi (blkOk_by ok) hg ht he hs).weak fun D σ H h => lc_enter (fx_out hfx) (sub_of hts) tok (cE_of_cN (setV_ok hi' h))
theorem tgok_name {i : Nat} {vs : List Nat} (h : i ∈ vs) : TgOk vs (tgN i) := fun d e e' q j s c h1 h2 => by
  cases q
  exact ⟨s, by rw [List.getElem?_set_ne fun z => c (by rw [← z]; exact h)]; exact h1, h2⟩
def TgsOk (vs : List Nat) (t : List PyData → Sls → Option Sls) : Prop := ∀ d e e', t d e = some e' → DnB vs e e'
theorem tgsok_nil {vs : List Nat} : TgsOk vs tgsNil := fun d e e' q => by
  cases d with
  | nil => cases q; exact DnB.refl
  | cons _ _ => cases q
theorem tgsok_cons {vs : List Nat} {t : PyData → Sls → Option Sls} {u : List PyData → Sls → Option Sls} (h : TgOk vs t) (k : TgsOk vs u) : TgsOk vs (tgsCons t u) := fun d e e' q => by
  cases d with
  | nil => cases q
  | cons d ds =>
    have q' : (t d e).bind (fun e1 => u ds e1) = some e' := q
    cases z : t d e with
    | none => rw [z] at q'; cases q'
    | some e1 =>
      rw [z] at q'
      exact (h d e e1 z).trans (k ds e1 e' q')
theorem tgok_tup {n : Nat} {vs : List Nat} {t : List PyData → Sls → Option Sls} (h : TgsOk vs t) : TgOk vs (tgT n t) := fun d e e' q => by
  unfold tgT at q
  cases d with
  | tuple ds =>
    dsimp only at q
    split at q
    · exact h ds e e' q
    · cases q
  | list ds =>
    dsimp only at q
    split at q
    · exact h ds e e' q
    · cases q
  | _ => cases q
end
end PP
set_option maxRecDepth 100000
namespace PP
open PySem PySem.Spec PyProof.Rows L2
def FinK (K : List PyData → Sls → Prop) : Out (List PyData) → Prop
  | .ok r e2 => K r e2
  | _ => False
theorem FinK.bind {α : Type} {K : List PyData → Sls → Prop} {o : Out α} {f : α → Sls → Out (List PyData)} (h : FinK K (o.noErr.bind f))
    {M : Md} {O' : Addr → Prop} {F' : List (Nat × V)} {σ : St} {e : Sls} {H : Hp} {W : WX} : Po M O' F' σ e H W (fun a e1 _ => FinK K (f a e1)) o := by
  cases o with
  | ok a e1 => exact fun _ _ _ _ => h
  | err x e1 => exact h.elim
  | stuck => exact h.elim
theorem FinK.mid {K : List PyData → Sls → Prop} {o : Out (List PyData)} {f : List PyData → Sls → Out (List PyData)} (h : FinK K (o.bind f)) : FinK (fun r e => FinK K (f r e)) o := by
  cases o with
  | ok a e1 => exact h
  | err x e1 => exact h.elim
  | stuck => exact h.elim
theorem FinK.mono {K K' : List PyData → Sls → Prop} {o : Out (List PyData)} (h : FinK K o) (k : ∀ r e, K r e → K' r e) : FinK K' o := by
  cases o with
  | ok a e1 => exact k _ _ h
  | err x e1 => exact h.elim
  | stuck => exact h.elim
def lcIn (vs1 : List Nat) (t : PyData → Sls → Option Sls) (ts : Sls → Out Bool) (el : Sls → Out SV) : List PyData → Sls → Out (List PyData)
  | [], e => .ok [] e
  | d :: ds, e =>
    match t d e with
    | none => .stuck
    | some e1 => (ts e1).noErr.bind fun b e2 =>
      if b then (el e2).noErr.bind fun x e3 => (frzO x e3).noErr.bind fun y e4 => if noOwn vs1 e4 then (lcIn vs1 t ts el ds (wipeE e4 vs1)).bind fun r e5 => .ok (rd e4 y :: r) e5 else .stuck
      else if noOwn vs1 e2 then lcIn vs1 t ts el ds (wipeE e2 vs1) else .stuck
def lcOut (vs vs1 : List Nat) (t : PyData → Sls → Option Sls) (ts : Sls → Out Bool) (it1 : Sls → Out (List PyData)) (t1 : PyData → Sls → Option Sls) (ts1 : Sls → Out Bool) (el : Sls → Out SV) : List PyData → Sls → Out (List PyData)
  | [], e => .ok [] e
  | d :: ds, e =>
    match t d e with
    | none => .stuck
    | some e1 => (ts e1).noErr.bind fun b e2 =>
      if b then (it1 e2).noErr.bind fun ds1 e3 => if noOwn vs1 e3 then (lcIn vs1 t1 ts1 el ds1 (wipeE e3 vs1)).bind fun r e4 => if noOwn vs e4 then (lcOut vs vs1 t ts it1 t1 ts1 el ds (wipeE e4 vs)).bind fun r' e5 => .ok (r ++ r') e5 else .stuck else .stuck
      else if noOwn vs e2 then lcOut vs vs1 t ts it1 t1 ts1 el ds (wipeE e2 vs) else .stuck
def compN2 (vs vs1 : List Nat) (it : Sls → Out (List PyData)) (t : PyData → Sls → Option Sls) (ts : Sls → Out Bool) (it1 : Sls → Out (List PyData)) (t1 : PyData → Sls → Option Sls) (ts1 : Sls → Out Bool) (el : Sls → Out SV) : Sls → Out (List PyData) := fun e => (it e).bind fun ds e1 =>
  if noOwn vs e1 then (lcOut vs vs1 t ts it1 t1 ts1 el ds (wipeE e1 vs)).noErr.bind fun r e2 => if r.length ≤ sizeLine then .ok r (backE e1 e2 vs) else .stuck else .stuck
section
variable {X : Cx} {fx : List Nat} {W : WX} {elt tg iter tg1 iter1 : Expr} {pos : Pos}
structure LcS (M : Md) (O : Addr → Prop) (F : List (Nat × V)) (D : Addr) (vs : List Nat) (σ0 : St) (e0 : Sls) (H0 : Hp) (σ : St) (e : Sls) (H : Hp) (acc : List V) (accd : List PyData) : Prop where
  good : Good M.K (Op O D) F H σ e
  at_ : H D = some (.lst acc)
  rp : RpAll M.K (msk (Hid (Op O D) σ e) H) acc accd
  kp : KpB D σ0 e0 H0 σ e H
  dn : DnB vs e0 e
section
variable {M : Md} {O : Addr → Prop} {F : List (Nat × V)} {D : Addr} {vs : List Nat} {σ0 σ σ' : St} {e0 e e' : Sls} {H0 H H' : Hp} {acc : List V} {accd : List PyData}
theorem LcS.nown (s : LcS M O F D vs σ0 e0 H0 σ e H acc accd) : ¬ OwnAt σ e D := fun ⟨j, zs, z1, z2⟩ => by
  obtain ⟨p, _, w1, _, _, _, w5⟩ := s.good.own j zs z1
  rw [z2] at w1; cases w1
  exact w5 (.inr rfl)
theorem LcS.step (s : LcS M O F D vs σ0 e0 H0 σ e H acc accd) (g : Good M.K (Op O D) F H' σ' e') (k : Kp σ e H σ' e' H') (d : DnB vs e e') : LcS M O F D vs σ0 e0 H0 σ' e' H' acc accd :=
  ⟨g, (k D _ s.at_ s.nown).1, s.rp.mono k.vis, s.kp.trans (Kp.b k), s.dn.trans d⟩
theorem LcS.push (s : LcS M O F D vs σ0 e0 H0 σ e H acc accd) {v : V} {d : PyData} (r : Rp M.K (msk (Hid (Op O D) σ e) H) v d) : LcS M O F D vs σ0 e0 H0 σ e (upd H D (.lst (acc ++ [v]))) (acc ++ [v]) (accd ++ [d]) :=
  ⟨s.good.updO, upd_same, (s.rp.append (.cons r .nil)).mono updO_same, s.kp.trans fun a o ne q n => ⟨by rw [upd_ne ne]; exact q, n⟩, s.dn⟩
theorem LcS.wiped (s : LcS M O F D vs σ0 e0 H0 σ e H acc accd) {ws : List Nat} (no : noOwn ws e = true) (hf : ∀ p ∈ F, p.1 ∉ ws) (hw : ∀ i ∈ ws, i ∈ vs) : LcS M O F D vs σ0 e0 H0 (wipe σ ws) (wipeE e ws) H acc accd :=
  ⟨s.good.wipe no hf, s.at_, by rw [msk_iff (hid_iff (own_wipe no))]; exact s.rp, s.kp.trans (kp_wipe no), s.dn.trans fun i t c h1 h2 => ⟨t, by rw [wipeE_out fun z => c (hw i z)]; exact h1, h2⟩⟩
theorem LcS.len (s : LcS M O F D vs σ0 e0 H0 σ e H acc accd) : acc.length = accd.length := s.rp.length
end
def Kend (M : Md) (O : Addr → Prop) (F : List (Nat × V)) (D : Addr) (vs : List Nat) (σ0 : St) (e0 : Sls) (H0 : Hp) (accd : List PyData) (Q : Hp → Prop) (r : List PyData) (e2 : Sls) : Prop :=
  (accd ++ r).length ≤ sizeLine ∧ ∀ H' ys, LcS M O F D vs σ0 e0 H0 σ0 e2 H' ys (accd ++ r) → Q H'
theorem lc_inner {own vs1 ts1 : List Nat} {t1 : PyData → Sls → Option Sls} {tst1 : Sls → Out Bool} {el : Sls → Out SV} {M : Md} {O : Addr → Prop} {F : List (Nat × V)} {D : Addr} {σ0 : St} {e0 : Sls} {H0 : Hp} {Nx : Hp → Prop} {ds : List PyData} {J : It} {K : List PyData → List PyData → Sls → Prop}
    (hF : ∀ p ∈ F, p.1 ∈ fx) (hfx : ∀ i ∈ own, i ∉ fx) (hv1 : ∀ i ∈ vs1, i ∈ own) (hts : ∀ i ∈ ts1, i ∈ vs1) (tok : TgOk own t1) (few : ∀ acc r e, K acc r e → (acc ++ r).length ≤ sizeLine) (shift : ∀ acc d r e, K acc (d :: r) e → K (acc ++ [d]) r e)
    {σ2 : St} {e3 : Sls} {H4 : Hp} {acc : List V} {accd : List PyData} (s : LcS M O F D own σ0 e0 H0 σ2 e3 H4 acc accd) (no : noOwn vs1 e3 = true) (wk : WalkD M.K (Hid (Op O D) σ2 e3) H4 J ds)
    (fin : ∀ e H acc accd, LcS M O F D own σ0 e0 H0 (wipe σ2 vs1) e H acc accd → K accd [] e → Nx H) (h : FinK (K accd) (lcIn vs1 t1 tst1 el ds (wipeE e3 vs1))) :
    ∃ W1 : Nat → Nat → Hp → Prop, (∃ m, W1 0 m H4) ∧ ∀ j k H, W1 j k H →
      (J.stop j H ∧ Nx H) ∨ (J.go j H ∧ ∃ Nx1 : Hp → Prop, (∀ H', Nx1 H' → ∃ k', k' < k ∧ W1 (j + 1) k' H') ∧ ∀ x H', J.yld j H x H' → cG M fx ts1 t1 x (wipe σ2 vs1) H' fun σ3 H5 => wipe σ3 vs1 = wipe σ2 vs1 ∧ cT M fx W0 tst1 σ3 H5 fun b H6 =>
        if b = true then cE M fx W0 el σ3 H6 fun y H7 => ∃ acc, H7 D = some (.lst acc) ∧ acc.length < sizeLine ∧ Nx1 (upd H7 D (.lst (acc ++ [y]))) else Nx1 H6) := by
  have hf : ∀ p ∈ F, p.1 ∉ vs1 := fun p hp z => hfx _ (hv1 _ z) (hF p hp)
  refine ⟨fun j k H => k = ds.length - j ∧ j ≤ ds.length ∧ ∃ e acc accd, LcS M O F D own σ0 e0 H0 (wipe σ2 vs1) e H acc accd ∧ KpB D σ2 e3 H4 (wipe σ2 vs1) e H ∧ FinK (K accd) (lcIn vs1 t1 tst1 el (ds.drop j) e), ⟨ds.length, rfl, Nat.zero_le _, _, acc, accd, s.wiped no hf hv1, kp_wipe no, h⟩, ?_⟩
  rintro j k H ⟨rfl, hj, e, acc, accd, s1, k1, h1⟩
  have vis : Same (msk (Hid (Op O D) σ2 e3) H4) (msk (Hid (Op O D) (wipe σ2 vs1) e) H) := fun a o z => by
    obtain ⟨n, z⟩ := msk_some.mp z
    have ne : a ≠ D := fun w => n (.inl (.inr w))
    obtain ⟨w1, w2⟩ := k1 a o ne z fun w => n (.inr w)
    exact msk_some.mpr ⟨fun w => w.elim (fun w => n (.inl w)) w2, w1⟩
  by_cases hlt : j < ds.length
  · refine .inr ⟨wk.goes j H hlt (vis.trans msk_sub), fun H' => ∃ e acc accd, LcS M O F D own σ0 e0 H0 (wipe σ2 vs1) e H' acc accd ∧ KpB D σ2 e3 H4 (wipe σ2 vs1) e H' ∧ FinK (K accd) (lcIn vs1 t1 tst1 el (ds.drop (j + 1)) e),
      fun H' ⟨e', acc', accd', q1, q2, q3⟩ => ⟨ds.length - (j + 1), by omega, rfl, hlt, e', acc', accd', q1, q2, q3⟩, fun x H2 y => ?_⟩
    obtain ⟨d, hd, sm, rx⟩ := wk.yields j H x H2 hlt (vis.trans msk_sub) y
    have s2 := s1.step (s1.good.ext sm) (Kp.same sm) DnB.refl
    have rpx : Rp M.K (msk (Hid (Op O D) (wipe σ2 vs1) e) H2) x d := rx _ (vis.trans (msk_same sm)) fun a o z1 z2 => msk_some.mpr ⟨s1.good.fresh z1, z2⟩
    have ed : ds.drop j = d :: ds.drop (j + 1) := by
      rw [List.drop_eq_getElem_cons hlt]
      rw [List.getElem?_eq_getElem hlt] at hd
      rw [Option.some.inj hd]
    rw [ed] at h1
    have h1' : FinK (K accd) (match t1 d e with
      | none => .stuck
      | some e1 => (tst1 e1).noErr.bind fun b e2 =>
        if b then (el e2).noErr.bind fun x e3 => (frzO x e3).noErr.bind fun y e4 => if noOwn vs1 e4 then (lcIn vs1 t1 tst1 el (ds.drop (j + 1)) (wipeE e4 vs1)).bind fun r e5 => .ok (rd e4 y :: r) e5 else .stuck
        else if noOwn vs1 e2 then lcIn vs1 t1 tst1 el (ds.drop (j + 1)) (wipeE e2 vs1) else .stuck) := h1
    refine ⟨Op O D, F, e, d, hF, s2.good, rpx, ?_⟩
    cases q : t1 d e with
    | none => rw [q] at h1'; exact h1'.elim
    | some e4 =>
      rw [q] at h1'
      intro σ3 g3 k3 a3
      have ew : wipe σ3 vs1 = wipe σ2 vs1 := by rw [wipe_agr a3 hts, wipe_wipe]
      have s3 := s2.step g3 k3 (tok d e e4 q)
      refine ⟨ew, Op O D, F, e4, hF, g3, (FinK.bind h1').mono fun b e5 H5 g5 k5 d5 h5 => ?_⟩
      have s5 := s3.step g5 k5 (Dn.b d5)
      have kk : KpB D σ2 e3 H4 σ3 e5 H5 := k1.trans ((Kp.b (Kp.same sm)).trans ((Kp.b k3).trans (Kp.b k5)))
      cases b with
      | true =>
        rw [if_pos rfl] at h5
        refine iteT ?_
        refine ⟨Op O D, F, e5, hF, g5, (FinK.bind h5).mono fun x6 e6 H6 g6 k6 d6 h6 v6 r6 => ?_⟩
        obtain ⟨dv, e7, g7, k7, d7, r7, h7, _⟩ := SVR.freeze g6 r6 (FinK.bind h6 (O' := Op O D) (F' := F) (σ := σ3) (e := e6) (H := H6) (W := W0))
        have s7 := s5.step g7 (k6.trans k7) (Dn.b (d6.trans d7))
        by_cases no7 : noOwn vs1 e7 = true
        · rw [if_pos no7] at h7
          have h8 : FinK (fun r e => K accd (dv :: r) e) (lcIn vs1 t1 tst1 el (ds.drop (j + 1)) (wipeE e7 vs1)) := FinK.mid h7
          have lt : acc.length < sizeLine := by
            cases q8 : lcIn vs1 t1 tst1 el (ds.drop (j + 1)) (wipeE e7 vs1) with
            | ok r e8 =>
              rw [q8] at h8
              have := few _ _ _ h8
              rw [List.length_append, List.length_cons, ← s7.len] at this
              omega
            | err _ _ => rw [q8] at h8; exact h8.elim
            | stuck => rw [q8] at h8; exact h8.elim
          refine ⟨acc, s7.at_, lt, wipeE e7 vs1, acc ++ [v6], accd ++ [dv], ?_, ?_, h8.mono fun r e hk => shift _ _ _ _ hk⟩
          · have := (s7.push r7).wiped no7 hf hv1
            rw [ew] at this
            exact this
          · refine kk.trans ((Kp.b (k6.trans k7)).trans ?_)
            intro a o ne z n
            refine ⟨by rw [upd_ne ne]; exact z, fun w => n ?_⟩
            rw [← ew] at w
            exact (own_wipe no7 a).mp w
        · rw [if_neg no7] at h7
          exact h7.elim
      | false =>
        rw [if_neg Bool.false_ne_true] at h5
        refine iteF ?_
        by_cases no5 : noOwn vs1 e5 = true
        · rw [if_pos no5] at h5
          refine ⟨wipeE e5 vs1, acc, accd, ?_, ?_, h5⟩
          · have := s5.wiped no5 hf hv1
            rw [ew] at this
            exact this
          · refine kk.trans ?_
            rw [← ew]
            exact kp_wipe no5
        · rw [if_neg no5] at h5
          exact h5.elim
  · have ei : j = ds.length := by omega
    subst ei
    rw [List.drop_length] at h1
    exact .inl ⟨wk.stops H (vis.trans msk_sub), fin e H acc accd s1 h1⟩
theorem lc2_loop {own vs1 ts ts1 : List Nat} {t t1 : PyData → Sls → Option Sls} {tst tst1 : Sls → Out Bool} {it1 : Sls → Out (List PyData)} {el : Sls → Out SV} {M : Md} {O : Addr → Prop} {F : List (Nat × V)} {σ : St} {e1 : Sls} {H1 : Hp} {Q : VK} {ds : List PyData} {J : It} {D : Addr}
    (hF : ∀ p ∈ F, p.1 ∈ fx) (hfx : ∀ i ∈ own, i ∉ fx) (hts : ∀ i ∈ ts, i ∈ own) (hv1 : ∀ i ∈ vs1, i ∈ own) (hts1 : ∀ i ∈ ts1, i ∈ vs1) (tok : TgOk own t) (tok1 : TgOk own t1) (g1 : Good M.K O F H1 σ e1) (no : noOwn own e1 = true) (wk : WalkD M.K (Hid O σ e1) H1 J ds) (nD : H1 D = none)
    (h : FinK (Kend M O F D own (wipe σ own) (wipeE e1 own) H1 [] (Q (.ref D))) (lcOut own vs1 t tst it1 t1 tst1 el ds (wipeE e1 own))) :
    ∃ Wi : Nat → Nat → Hp → Prop, (∃ m, Wi 0 m (upd H1 D (.lst []))) ∧ ∀ i m H, Wi i m H →
      (J.stop i H ∧ Q (.ref D) H) ∨ (J.go i H ∧ ∃ Nx : Hp → Prop, (∀ H', Nx H' → ∃ m', m' < m ∧ Wi (i + 1) m' H') ∧ ∀ x H', J.yld i H x H' → cG M fx ts t x (wipe σ own) H' fun σ2 H2 => wipe σ2 own = wipe σ own ∧ cT M fx W0 tst σ2 H2 fun b H3 =>
        if b = true then cI M fx W0 it1 σ2 H3 fun J1 H4 => ∃ W1 : Nat → Nat → Hp → Prop, (∃ m, W1 0 m H4) ∧ ∀ j k H, W1 j k H →
          (J1.stop j H ∧ Nx H) ∨ (J1.go j H ∧ ∃ Nx1 : Hp → Prop, (∀ H', Nx1 H' → ∃ k', k' < k ∧ W1 (j + 1) k' H') ∧ ∀ x H', J1.yld j H x H' → cG M fx ts1 t1 x (wipe σ2 vs1) H' fun σ3 H5 => wipe σ3 vs1 = wipe σ2 vs1 ∧ cT M fx W0 tst1 σ3 H5 fun b H6 =>
            if b = true then cE M fx W0 el σ3 H6 fun y H7 => ∃ acc, H7 D = some (.lst acc) ∧ acc.length < sizeLine ∧ Nx1 (upd H7 D (.lst (acc ++ [y]))) else Nx1 H6)
        else Nx H3) := by
  have hf : ∀ p ∈ F, p.1 ∉ own := fun p hp z => hfx _ z (hF p hp)
  refine ⟨fun i m H => m = ds.length - i ∧ i ≤ ds.length ∧ ∃ e acc accd, LcS M O F D own (wipe σ own) (wipeE e1 own) H1 (wipe σ own) e H acc accd ∧ FinK (Kend M O F D own (wipe σ own) (wipeE e1 own) H1 accd (Q (.ref D))) (lcOut own vs1 t tst it1 t1 tst1 el (ds.drop i) e), ⟨ds.length, rfl, Nat.zero_le _, wipeE e1 own, [], [], ?_, h⟩, ?_⟩
  · obtain ⟨g', _⟩ := (g1.wipe no hf).laid (u := .lst []) nD
    exact ⟨g', upd_same, .nil, fun a o ne q n => ⟨by rw [upd_ne ne]; exact q, n⟩, DnB.refl⟩
  rintro i m H ⟨rfl, hi, e, acc, accd, s, hfin⟩
  have vis : Same (msk (Hid O σ e1) H1) (msk (Hid (Op O D) (wipe σ own) e) H) := fun a o z => by
    obtain ⟨n, z⟩ := msk_some.mp z
    have ne : a ≠ D := ne_of_none z nD
    obtain ⟨w1, w2⟩ := s.kp a o ne z fun w => n (.inr ((own_wipe no a).mp w))
    exact msk_some.mpr ⟨fun w => w.elim (fun w => w.elim (fun w => n (.inl w)) ne) w2, w1⟩
  by_cases hlt : i < ds.length
  · refine .inr ⟨wk.goes i H hlt (vis.trans msk_sub), fun H' => ∃ e' acc' accd', LcS M O F D own (wipe σ own) (wipeE e1 own) H1 (wipe σ own) e' H' acc' accd' ∧ FinK (Kend M O F D own (wipe σ own) (wipeE e1 own) H1 accd' (Q (.ref D))) (lcOut own vs1 t tst it1 t1 tst1 el (ds.drop (i + 1)) e'),
      fun H' ⟨e', acc', accd', q1, q2⟩ => ⟨ds.length - (i + 1), by omega, rfl, hlt, e', acc', accd', q1, q2⟩, fun x H2 y => ?_⟩
    obtain ⟨d, hd, sm, rx⟩ := wk.yields i H x H2 hlt (vis.trans msk_sub) y
    have s2 := s.step (s.good.ext sm) (Kp.same sm) DnB.refl
    have rpx : Rp M.K (msk (Hid (Op O D) (wipe σ own) e) H2) x d := rx _ (vis.trans (msk_same sm)) fun a o z1 z2 => msk_some.mpr ⟨s.good.fresh z1, z2⟩
    have ed : ds.drop i = d :: ds.drop (i + 1) := by
      rw [List.drop_eq_getElem_cons hlt]
      rw [List.getElem?_eq_getElem hlt] at hd
      rw [Option.some.inj hd]
    rw [ed] at hfin
    have hfin' : FinK (Kend M O F D own (wipe σ own) (wipeE e1 own) H1 accd (Q (.ref D))) (match t d e with
      | none => .stuck
      | some e1 => (tst e1).noErr.bind fun b e2 =>
        if b then (it1 e2).noErr.bind fun ds1 e3 => if noOwn vs1 e3 then (lcIn vs1 t1 tst1 el ds1 (wipeE e3 vs1)).bind fun r e4 => if noOwn own e4 then (lcOut own vs1 t tst it1 t1 tst1 el (ds.drop (i + 1)) (wipeE e4 own)).bind fun r' e5 => .ok (r ++ r') e5 else .stuck else .stuck
        else if noOwn own e2 then lcOut own vs1 t tst it1 t1 tst1 el (ds.drop (i + 1)) (wipeE e2 own) else .stuck) := hfin
    refine ⟨Op O D, F, e, d, hF, s2.good, rpx, ?_⟩
    cases q : t d e with
    | none => rw [q] at hfin'; exact hfin'.elim
    | some e2 =>
      rw [q] at hfin'
      intro σ2 g3 k3 a3
      have ew : wipe σ2 own = wipe σ own := by rw [wipe_agr a3 hts, wipe_wipe]
      have s3 := s2.step g3 k3 (tok d e e2 q)
      refine ⟨ew, Op O D, F, e2, hF, g3, (FinK.bind hfin').mono fun b e4 H4 g4 k4 d4 h4 => ?_⟩
      have s4 := s3.step g4 k4 (Dn.b d4)
      cases b with
      | true =>
        rw [if_pos rfl] at h4
        refine iteT ?_
        refine ⟨Op O D, F, e4, hF, g4, (FinK.bind h4).mono fun ds1 e5 H5 g5 k5 d5 h5 J1 wk1 => ?_⟩
        have s5 := s4.step g5 k5 (Dn.b d5)
        by_cases no5 : noOwn vs1 e5 = true
        · rw [if_pos no5] at h5
          have h6 := FinK.mid h5
          refine lc_inner (K := fun ac r e4 => ∃ r0, ac = accd ++ r0 ∧ FinK (Kend M O F D own (wipe σ own) (wipeE e1 own) H1 accd (Q (.ref D))) (if noOwn own e4 then (lcOut own vs1 t tst it1 t1 tst1 el (ds.drop (i + 1)) (wipeE e4 own)).bind fun r' e5 => .ok ((r0 ++ r) ++ r') e5 else .stuck))
            hF hfx hv1 hts1 tok1 ?_ ?_ s5 no5 wk1 ?_ (h6.mono fun r e hk => ⟨[], by rw [List.append_nil], hk⟩)
          · rintro ac r e6 ⟨r0, rfl, hk⟩
            by_cases no6 : noOwn own e6 = true
            · rw [if_pos no6] at hk
              have hk2 := FinK.mid hk
              cases q8 : lcOut own vs1 t tst it1 t1 tst1 el (ds.drop (i + 1)) (wipeE e6 own) with
              | ok r' e8 =>
                rw [q8] at hk2
                have := hk2.1
                simp only [List.length_append] at this ⊢
                omega
              | err _ _ => rw [q8] at hk2; exact hk2.elim
              | stuck => rw [q8] at hk2; exact hk2.elim
            · rw [if_neg no6] at hk; exact hk.elim
          · rintro ac d' r e6 ⟨r0, rfl, hk⟩
            refine ⟨r0 ++ [d'], by rw [List.append_assoc], ?_⟩
            rw [List.append_assoc r0 [d'] r]
            exact hk
          · rintro e6 H6 ac acd s6 ⟨r0, rfl, hk⟩
            by_cases no6 : noOwn own e6 = true
            · rw [if_pos no6] at hk
              have hk2 := FinK.mid hk
              rw [List.append_nil] at hk2
              refine ⟨wipeE e6 own, ac, accd ++ r0, ?_, hk2.mono fun r' e7 ⟨z1, z2⟩ => ⟨by rw [List.append_assoc]; exact z1, fun H' ys s' => z2 H' ys (by rw [← List.append_assoc]; exact s')⟩⟩
              have := s6.wiped no6 hf fun i hi => hi
              rw [show wipe (wipe σ2 vs1) own = wipe σ own from by
                rw [← ew]
                exact wipe_agr (ts := vs1) ⟨wipe_length _ _, fun j hj => wipe_at hj⟩ hv1] at this
              exact this
            · rw [if_neg no6] at hk; exact hk.elim
        · rw [if_neg no5] at h5
          exact h5.elim
      | false =>
        rw [if_neg Bool.false_ne_true] at h4
        refine iteF ?_
        by_cases no4 : noOwn own e4 = true
        · rw [if_pos no4] at h4
          refine ⟨wipeE e4 own, acc, accd, ?_, h4⟩
          have := s4.wiped no4 hf fun i hi => hi
          rw [ew] at this
          exact this
        · rw [if_neg no4] at h4
          exact h4.elim
  · have ei : i = ds.length := by omega
    subst ei
    rw [List.drop_length] at hfin
    refine .inl ⟨wk.stops H (vis.trans msk_sub), hfin.2 H acc ?_⟩
    rw [List.append_nil]
    exact s
theorem lc2_enter {own vs1 ts ts1 : List Nat} {t t1 : PyData → Sls → Option Sls} {tst tst1 : Sls → Out Bool} {it it1 : Sls → Out (List PyData)} {el : Sls → Out SV} {M : Md} {σ : St} {H : Hp} {Q : VK}
    (hfx : ∀ i ∈ own, i ∉ fx) (hts : ∀ i ∈ ts, i ∈ own) (hv1 : ∀ i ∈ vs1, i ∈ own) (hts1 : ∀ i ∈ ts1, i ∈ vs1) (tok : TgOk own t) (tok1 : TgOk own t1) (h : cN M fx W (compN2 own vs1 it t tst it1 t1 tst1 el) σ H Q) :
    tLc2 (cI M fx W it) (cG M fx ts t) (cT M fx W0 tst) (cI M fx W0 it1) (cG M fx ts1 t1) (cT M fx W0 tst1) (cE M fx W0 el) own vs1 σ H Q := by
  obtain ⟨O, F, e, hF, g, h⟩ := h
  refine ⟨O, F, e, hF, g, (PoN.bind h).mono fun ds e1 H1 g1 k1 d1 h1 J wk D nD => ?_⟩
  by_cases c : noOwn own e1 = true
  · rw [if_pos c] at h1
    have hf : ∀ p ∈ F, p.1 ∉ own := fun p hp z => hfx _ z (hF p hp)
    refine lc2_loop hF hfx hts hv1 hts1 tok tok1 g1 c wk nD ?_
    cases q : lcOut own vs1 t tst it1 t1 tst1 el ds (wipeE e1 own) with
    | ok r e2 =>
      rw [q] at h1
      have h1' : PoN M O F σ e1 H1 W Q (if r.length ≤ sizeLine then .ok r (backE e1 e2 own) else .stuck) := h1
      by_cases cz : r.length ≤ sizeLine
      · rw [if_pos cz] at h1'
        refine ⟨cz, fun H' ys s => ?_⟩
        have s' : LcS M O F D own (wipe σ own) (wipeE e1 own) H1 (wipe σ own) e2 H' ys r := s
        obtain ⟨g3, hid, k3⟩ := Good.back g1 c nD s'.good s'.kp hf
        refine h1' D ys H' g3 s'.at_ (by rw [s'.len]; exact cz) ?_ (fun z => g1.old D z nD) (.inl nD) k3 fun i s0 z1 z2 => ?_
        · rw [msk_iff hid]; exact s'.rp
        · by_cases ci : i ∈ own
          · have hlen : e2.length = e1.length := by rw [← s'.good.len, wipe_length]; exact g1.len
            have hi : i < (backE e1 e2 own).length := by
              rw [backE_length, hlen]
              exact (List.getElem?_eq_some_iff.mp z1).1
            have := backE_in hlen ci (List.getElem?_eq_getElem hi)
            rw [z1] at this
            exact ⟨s0, by rw [List.getElem?_eq_getElem hi]; exact this.symm, z2⟩
          · obtain ⟨s2, w1, w2⟩ := s'.dn i s0 ci (by rw [wipeE_out ci]; exact z1) z2
            exact ⟨s2, by rw [backE_out ci]; exact w1, w2⟩
      · rw [if_neg cz] at h1'
        exact h1'.elim
    | err x e2 => rw [q] at h1; exact h1.elim
    | stuck => rw [q] at h1; exact h1.elim
  · rw [if_neg c] at h1
    exact h1.elim
theorem pp_lc2 {ifs ifs1 : List Expr} {scope : Scope} {own : List (Str × Nat)} {vs1 ts ts1 : List Nat} {t t1 : PyData → Sls → Option Sls} {tst tst1 : Sls → Out Bool} {el : Sls → Out SV} {it it1 : Sls → Out (List PyData)} (ok : blkC X.N X.env.scope scope own = true) (tok : TgOk (own.map (·.2)) t) (tok1 : TgOk (own.map (·.2)) t1) (hc : X.calm = true) (hN : X.N.Nodup) (hi : PI X tg iter (cI X.md fx W it))
    (hg : ∀ (s : Shared) (H : Hp) (C : Addr) (cl : List (Str × Addr)) (fp : List Addr), PG (X.blk s H scope (compEnvC scope cl C X.env) fp) tg (cG X.md fx ts t))
    (ht : ∀ (s : Shared) (H : Hp) (C : Addr) (cl : List (Str × Addr)) (fp : List Addr), PTs (X.blk s H scope (compEnvC scope cl C X.env) fp) ifs (cT X.md fx W0 tst))
    (hi1 : ∀ (s : Shared) (H : Hp) (C : Addr) (cl : List (Str × Addr)) (fp : List Addr), PI (X.blk s H scope (compEnvC scope cl C X.env) fp) tg1 iter1 (cI X.md fx W0 it1))
    (hg1 : ∀ (s : Shared) (H : Hp) (C : Addr) (cl : List (Str × Addr)) (fp : List Addr), PG (X.blk s H scope (compEnvC scope cl C X.env) fp) tg1 (cG X.md fx ts1 t1))
    (ht1 : ∀ (s : Shared) (H : Hp) (C : Addr) (cl : List (Str × Addr)) (fp : List Addr), PTs (X.blk s H scope (compEnvC scope cl C X.env) fp) ifs1 (cT X.md fx W0 tst1))
    (he : ∀ (s : Shared) (H : Hp) (C : Addr) (cl : List (Str × Addr)) (fp : List Addr), PE (X.blk s H scope (compEnvC scope cl C X.env) fp) elt (cE X.md fx W0 el))
    (hfx : ((own.map (·.2)).all fun i => !fx.contains i) = true := by rfl) (hts : (ts.all fun i => (own.map (·.2)).contains i) = true := by rfl) (hv1 : (vs1.all fun i => (own.map (·.2)).contains i) = true := by rfl) (hts1 : (ts1.all fun i => vs1.contains i) = true := by rfl)
    (hs : ∀ x, foldedSetIterable iter X.env x = pure x := by intro _; rfl) (hs1 : ∀ env x, foldedSetIterable iter1 env x = pure x := by intro _ _; rfl) :
    PE X (.ListComp elt [⟨tg, iter, ifs, 0⟩, ⟨tg1, iter1, ifs1, 0⟩] scope pos) (cN X.md fx W (compN2 (own.map (·.2)) vs1 it t tst it1 t1 tst1 el)) :=
  (pe_lc2 hc hN hi (blkOk_by ok) (sub_of hv1) hg ht hi1 hg1 ht1 he hs hs1).weak fun σ H Q h => lc2_enter (fx_out hfx) (sub_of hts) (sub_of hv1) (sub_of hts1) tok tok1 h
theorem pps_setLc2 {i : Nat} {y : Str} {py spos : Pos} {ifs ifs1 : List Expr} {scope : Scope} {own : List (Str × Nat)} {vs1 ts ts1 : List Nat} {t t1 : PyData → Sls → Option Sls} {tst tst1 : Sls → Out Bool} {el : Sls → Out SV} {it it1 : Sls → Out (List PyData)} (hi' : fx.contains i = false) (ok : blkC X.N X.env.scope scope own = true) (tok : TgOk (own.map (·.2)) t) (tok1 : TgOk (own.map (·.2)) t1) (hc : X.calm = true) (hN : X.N.Nodup) (hi : PI X tg iter (cI X.md fx W it))
    (hg : ∀ (s : Shared) (H : Hp) (C : Addr) (cl : List (Str × Addr)) (fp : List Addr), PG (X.blk s H scope (compEnvC scope cl C X.env) fp) tg (cG X.md fx ts t))
    (ht : ∀ (s : Shared) (H : Hp) (C : Addr) (cl : List (Str × Addr)) (fp : List Addr), PTs (X.blk s H scope (compEnvC scope cl C X.env) fp) ifs (cT X.md fx W0 tst))
    (hi1 : ∀ (s : Shared) (H : Hp) (C : Addr) (cl : List (Str × Addr)) (fp : List Addr), PI (X.blk s H scope (compEnvC scope cl C X.env) fp) tg1 iter1 (cI X.md fx W0 it1))
    (hg1 : ∀ (s : Shared) (H : Hp) (C : Addr) (cl : List (Str × Addr)) (fp : List Addr), PG (X.blk s H scope (compEnvC scope cl C X.env) fp) tg1 (cG X.md fx ts1 t1))
    (ht1 : ∀ (s : Shared) (H : Hp) (C : Addr) (cl : List (Str × Addr)) (fp : List Addr), PTs (X.blk s H scope (compEnvC scope cl C X.env) fp) ifs1 (cT X.md fx W0 tst1))
    (he : ∀ (s : Shared) (H : Hp) (C : Addr) (cl : List (Str × Addr)) (fp : List Addr), PE (X.blk s H scope (compEnvC scope cl C X.env) fp) elt (cE X.md fx W0 el))
    (hsw : swapsWith (.ListComp elt [⟨tg, iter, ifs, 0⟩, ⟨tg1, iter1, ifs1, 0⟩] scope pos) (some (.Name y py)) spos.line X.env = pure true)
    (hy : X.N[i]? = some y := by rfl) (hyl : X.env.scope.names.lookup y = some .local := by rfl)
    (hfx : ((own.map (·.2)).all fun i => !fx.contains i) = true := by rfl) (hts : (ts.all fun i => (own.map (·.2)).contains i) = true := by rfl) (hv1 : (vs1.all fun i => (own.map (·.2)).contains i) = true := by rfl) (hts1 : (ts1.all fun i => vs1.contains i) = true := by rfl)
    (hs : ∀ x, foldedSetIterable iter X.env x = pure x := by intro _; rfl) (hs1 : ∀ env x, foldedSetIterable iter1 env x = pure x := by intro _ _; rfl) :
    PS X (.Assign [.Name y py] (.ListComp elt [⟨tg, iter, ifs, 0⟩, ⟨tg1, iter1, ifs1, 0⟩] scope pos) spos) (cS X.md fx W (setS i (asVal (compN2 (own.map (·.2)) vs1 it t tst it1 t1 tst1 el)))) :=
  (ps_setLc2 hc hN hy hyl hsw hi (blkOk_by ok) (sub_of hv1) hg ht hi1 hg1 ht1 he hs hs1).weak fun D σ H h => lc2_enter (fx_out hfx) (sub_of hts) (sub_of hv1) (sub_of hts1) tok tok1 (cE_of_cN (setV_ok hi' h))
end
end PP
set_option maxRecDepth 100000
namespace PP
open PySem PySem.Spec PyProof.Rows L2
structure FnG (P : Program) (w : World) (K : PySem.W.Frag) (mg : Str → Option Value) (base : Heap) (k : Nat) (f : Addr) (fd : FuncData) (ps : List Str) (sp : Sp) : Prop where
  len : ∀ vs H Q E, sp vs H Q E → vs.length = ps.length
  run : ∀ (A : Around) (outer : List Env) (s : Shared) (H : Hp) (args : Args) (us : List Value) (vs : List V) (Q : VK) (E : XK), A.guards = some [] → Room k A → Env0 P w K mg base A outer s H → BindsTo s fd args (ps.zip us) → Vals vs us → sp vs H Q E →
    codeAny (model P w) A (.call (.ref f) args) (CR (L2.CX P w) outer P w H s Q E) s
theorem FnG.mono {P : Program} {w : World} {K : PySem.W.Frag} {mg : Str → Option Value} {base : Heap} {j k : Nat} {f : Addr} {fd : FuncData} {ps : List Str} {sp : Sp} (F : FnG P w K mg base j f fd ps sp) (h : j ≤ k) : FnG P w K mg base k f fd ps sp :=
  ⟨F.len, fun A outer s H args us vs Q E gd hr => F.run A outer s H args us vs Q E gd (hr.mono h)⟩
theorem FnG.imp {P : Program} {w : World} {K : PySem.W.Frag} {mg : Str → Option Value} {base : Heap} {k : Nat} {f : Addr} {fd : FuncData} {ps : List Str} {sp sp' : Sp} (F : FnG P w K mg base k f fd ps sp) (h : ∀ vs H Q E, sp' vs H Q E → sp vs H Q E) : FnG P w K mg base k f fd ps sp' :=
  ⟨fun vs H Q E q => F.len vs H Q E (h _ _ _ _ q), fun A outer s H args us vs Q E gd hr he hb hv hs => F.run A outer s H args us vs Q E gd hr he hb hv (h _ _ _ _ hs)⟩
theorem defG {P : Program} {w : World} {K : PySem.W.Frag} {mg : Str → Option Value} {base : Heap} {x qual : Str} {st : Stmt} {f : Addr} {fd : FuncData} {N ps : List Str} {k : Nat} {sp : Sp} (F : Fun K x qual st f fd) (S : FnScope N ps (defScope st)) (len : ∀ vs H Q E, sp vs H Q E → vs.length = ps.length)
    (hbody : ∀ (cdv : Value) (A : Around) (outer : List Env) (s : Shared) (H : Hp) (vs : List V) (Q : VK) (E : XK), A.guards = some [] → Room k (A.deeper (envOfC qual (defScope st) s.heap.objs.size f cdv)) → sp vs H Q E →
      ∃ t, PSs (cxOf (L2.CX P w) P w K mg base N qual (defScope st) f cdv A outer s H E) (defBody st) t ∧ t { nx := fun _ H' => Q .non H', rt := Q } (start N vs) H) : FnG P w K mg base (k + 1) f fd ps sp := by
  obtain ⟨oc, od, kV, doc, pm, an, cdv, ct, osl, rfl, lk, hcd⟩ := F.ex
  refine ⟨len, fun A outer s H args us vs Q E gd hr e0 hb rv hsp => ?_⟩
  have hlen := len _ _ _ _ hsp
  have KX : K.In s.heap := e0.mod.kin.keeps fun b o z => (e0.bs b o z).1
  have noLim : s.heap.NoLimit := e0.mod.nolimit.keeps fun b o z => (e0.bs b o z).1
  have kinds : ∀ y ∈ ps.zip us, (defScope st).names.lookup y.1 = some .local ∨ ((defScope st).names.lookup y.1 = some .cell ∧ ((cellsFrom (s.heap.objs.size + 1) (defScope st).names []).lookup y.1).isSome = true) := by
    rintro ⟨n, v⟩ hy
    exact (S.par n (List.of_mem_zip hy).1).elim .inl fun q => .inr ⟨q, PySem.W.cellsFrom_some _ _ _ (.inl q)⟩
  refine codeAny_call_function hr.depth (KX _ _ lk) rfl S.co S.gen rfl (PySem.W.codeRec_of KX hcd) (hb _ _ _ _ (wpAny_newFunctionEnv_cells S.kind kinds fun env he s1 cx => ?_))
  subst he
  refine ⟨noLim.keeps cx.toInCall.keep, codeAny_func ?_⟩
  obtain ⟨t, ht, hq⟩ := hbody cdv A outer s H vs Q E gd (hr.deeper _) hsp
  have I0 : Inv (cxOf (L2.CX P w) P w K mg base N qual (defScope st) f cdv A outer s H E) [] (start N vs) H s1 := inv_start S hr.hd e0 hlen rv cx
  refine wpAny_mono (ht.run [] s1 (start N vs) H _ I0 hq) (fun fl s2 hs => ?_) fun _ _ z => z
  cases fl with
  | next =>
    obtain ⟨σ2, H2, J, q⟩ := hs
    exact ⟨V.non, H2, J.os, J.bare, J.base, J.hok, rfl, q⟩
  | ret u =>
    obtain ⟨v, σ2, H2, J, ru, q⟩ := hs
    exact ⟨v, H2, J.os, J.bare, J.base, J.hok, ru, q⟩
  | brk =>
    obtain ⟨_, _, _, q⟩ := hs
    exact q.elim
  | cont =>
    obtain ⟨_, _, _, q⟩ := hs
    exact q.elim
section
variable {X : Cx} {k : Nat} {f : Addr} {fd : FuncData} {ps : List Str} {sp : Sp} {W : WX} {x : Str} {p pos : Pos} {e : Expr} {es : List Expr} {t : TA}
theorem runG {pins : List (Addr × Obj)} {σ : St} {H : Hp} {s : Shared} {Q : VK} {us : List Value} {vs : List V} (F : FnG X.prog X.w X.K X.mg X.base k f fd ps sp) (gd : X.A.guards = some []) (hr : Room k X.A) (hb : Binds X.K fd ps []) (tk : Takes X W)
    (I : Inv X pins σ H s) (r : Vals vs us) (h : sp vs H Q (WE W σ)) : wpAny (model X.prog X.w) X.A (call (.ref f) us) (EP X pins σ Q) X.xe s := by
  have hlen : us.length = ps.length := by rw [← r.length]; exact F.len _ _ _ _ h
  have bnd := hb s us I.kIn (by rw [List.append_nil]; exact hlen)
  rw [List.append_nil] at bnd
  refine wpAny_call (codeAny_mono (F.run X.A X.stack s H ⟨us, []⟩ us vs Q (WE W σ) gd hr I.env0 bnd r h) fun res s2 hq => ?_)
  cases res with
  | error ex => exact passAt tk σ pins H s ex s2 I hq
  | ok fl =>
    cases fl with
    | ret u => exact I.after hq
    | next => exact hq.elim
    | brk => exact hq.elim
    | cont => exact hq.elim
theorem pe_callG (F : FnG X.prog X.w X.K X.mg X.base k f fd ps sp) (gd : X.A.guards = some []) (hr : Room k X.A) (hg : Gl X x) (hm : X.mg x = some (.ref f)) (hk : PySem.W.keepIn X.K (.ref f) = true) (hb : Binds X.K fd ps []) (tk : Takes X W)
    (ha : PA X (e :: es) t) (hdb : (x == ("__debug__" : Str)) = false) (he : starEach (e :: es) X.env = (false, eval e X.env) :: starEach es X.env) (hpl : (backTo pos (starEach es X.env)).any (·.1) = false) :
    PE X (.Call (.Name x p) (e :: es) [] pos) (tCallS sp (WE W) t) := by
  refine ⟨fun pins s σ H Q I h => wpAny_Call_Name_kw (ld_glob I hg hm ?_ hdb)⟩
  exact PySem.W.callWith_K (h₀ := X.base) I.ok.mod.kin hk (thn (ha.run pos pins s σ H _ I h) fun us s2 ⟨vs, H2, I2, r, q⟩ => ⟨I2.kIn, runG F gd hr hb tk I2 r q⟩) he hpl
theorem pe_callG0 (F : FnG X.prog X.w X.K X.mg X.base k f fd ps sp) (gd : X.A.guards = some []) (hr : Room k X.A) (hg : Gl X x) (hm : X.mg x = some (.ref f)) (hk : PySem.W.keepIn X.K (.ref f) = true) (hb : Binds X.K fd ps []) (tk : Takes X W) (hdb : (x == ("__debug__" : Str)) = false) :
    PE X (.Call (.Name x p) [] [] pos) (tCallS sp (WE W) tNil) := by
  refine ⟨fun pins s σ H Q I h => wpAny_Call_Name_kw (ld_glob I hg hm ?_ hdb)⟩
  exact PySem.W.callWith_K0 I.kIn hk (runG (us := []) F gd hr hb tk I .nil h)
end
inductive Rs (α : Type) where
  | ok (a : α) | err (x : Exn) | stuck
def spP (M : Md) (n : Nat) (spec : List PyData → Rs PyData) : Sp := fun vs H Q E => ∃ (P : Addr → Prop) (as : List PyData), vs.length = n ∧ (∀ a, P a → H a ≠ none) ∧ RpAll M.K (msk P H) vs as ∧
  match spec as with
  | .ok d => ∀ v H', Same H H' → Rp M.K (msk P H') v d → Q v H'
  | .err x => ∀ cls dd H', Same H H' → ER M.mg x cls dd H' → E cls dd H'
  | .stuck => False
def spN (M : Md) (n : Nat) (spec : List PyData → Rs (List PyData)) : Sp := fun vs H Q E => ∃ (P : Addr → Prop) (as : List PyData), vs.length = n ∧ (∀ a, P a → H a ≠ none) ∧ RpAll M.K (msk P H) vs as ∧
  match spec as with
  | .ok xs => ∀ p ys H', Same H H' → H p = none → H' p = some (.lst ys) → ys.length ≤ sizeLine → RpAll M.K (msk (Op P p) H') ys xs → Q (.ref p) H'
  | .err x => ∀ cls dd H', Same H H' → ER M.mg x cls dd H' → E cls dd H'
  | .stuck => False
def SameB (p : Addr) (H H' : Hp) : Prop := ∀ a o, a ≠ p → H a = some o → H' a = some o
def spO (M : Md) (n : Nat) (spec : List PyData → List PyData → Rs (PyData × List PyData)) : Sp := fun vs H Q E => ∃ (P : Addr → Prop) (p : Addr) (ws ys : List V) (xs as : List PyData), vs = .ref p :: ws ∧ vs.length = n ∧ (∀ a, P a → H a ≠ none) ∧ P p ∧ H p = some (.lst ys) ∧ ys.length ≤ sizeLine ∧ RpAll M.K (msk P H) ys xs ∧ RpAll M.K (msk P H) ws as ∧
  match spec xs as with
  | .ok (d, xs') => ∀ v ys' H', SameB p H H' → H' p = some (.lst ys') → ys'.length ≤ sizeLine → RpAll M.K (msk P H') ys' xs' → Rp M.K (msk P H') v d → Q v H'
  | _ => False
def spON (M : Md) (n : Nat) (spec : List PyData → List PyData → Rs (List PyData × List PyData)) : Sp := fun vs H Q E => ∃ (P : Addr → Prop) (p : Addr) (ws ys : List V) (xs as : List PyData), vs = .ref p :: ws ∧ vs.length = n ∧ (∀ a, P a → H a ≠ none) ∧ P p ∧ H p = some (.lst ys) ∧ ys.length ≤ sizeLine ∧ RpAll M.K (msk P H) ys xs ∧ RpAll M.K (msk P H) ws as ∧
  match spec xs as with
  | .ok (zs, xs') => ∀ q us ys' H', SameB p H H' → H q = none → H' q = some (.lst us) → us.length ≤ sizeLine → RpAll M.K (msk (Op P q) H') us zs → H' p = some (.lst ys') → ys'.length ≤ sizeLine → RpAll M.K (msk (Op P q) H') ys' xs' → Q (.ref q) H'
  | _ => False
def envA (tot : Nat) (as : List PyData) : Sls := as.map Sl.val ++ List.replicate (tot - as.length) Sl.no
def envO (tot : Nat) (xs as : List PyData) : Sls := .own xs :: (as.map Sl.val ++ List.replicate (tot - (as.length + 1)) Sl.no)
def runP (tot : Nat) (g : Sls → OutS) (as : List PyData) : Rs PyData :=
  match g (envA tot as) with
  | .rt d _ => .ok d
  | .nx _ => .ok .none
  | .err x _ => .err x
  | _ => .stuck
def runN (tot : Nat) (g : Sls → OutS) (as : List PyData) : Rs (List PyData) :=
  match g (envA tot as) with
  | .rtN xs _ => .ok xs
  | .err x _ => .err x
  | _ => .stuck
def own0 : Sls → Option (List PyData)
  | .own xs :: _ => some xs
  | _ => none
def runO (tot : Nat) (g : Sls → OutS) (xs as : List PyData) : Rs (PyData × List PyData) :=
  match g (envO tot xs as) with
  | .rt d e =>
    match own0 e with
    | some xs' => .ok (d, xs')
    | none => .stuck
  | .nx e =>
    match own0 e with
    | some xs' => .ok (.none, xs')
    | none => .stuck
  | _ => .stuck
def runON (tot : Nat) (g : Sls → OutS) (xs as : List PyData) : Rs (List PyData × List PyData) :=
  match g (envO tot xs as) with
  | .rtN zs e =>
    match own0 e with
    | some xs' => .ok (zs, xs')
    | none => .stuck
  | _ => .stuck
section
variable {K : PySem.W.Frag} {P : Addr → Prop} {H : Hp}
theorem envA_get {tot : Nat} {as : List PyData} {i : Nat} {s : Sl} (h : (envA tot as)[i]? = some s) : (∃ d, as[i]? = some d ∧ s = .val d) ∨ s = .no := by
  unfold envA at h
  by_cases c : i < as.length
  · rw [List.getElem?_append_left (by simpa using c), List.getElem?_map, List.getElem?_eq_getElem c] at h
    exact .inl ⟨as[i], by simp [c], (Option.some.inj h).symm⟩
  · rw [List.getElem?_append_right (by simpa using c), List.getElem?_replicate] at h
    split at h
    · exact .inr (Option.some.inj h).symm
    · cases h
theorem start_get {N : List Str} {vs : List V} {i : Nat} {v : V} (h : vs[i]? = some v) : (start N vs)[i]? = some (some v) := by
  have c : i < vs.length := (List.getElem?_eq_some_iff.mp h).1
  unfold L2.start
  rw [List.getElem?_append_left (by simpa using c), List.getElem?_map, h]
  rfl
theorem no_own_envA {tot : Nat} {as : List PyData} {i : Nat} {xs : List PyData} : (envA tot as)[i]? ≠ some (Sl.own xs) := fun h => by
  rcases envA_get h with ⟨_, _, z⟩ | z <;> cases z
theorem good_start {N : List Str} {vs : List V} {as : List PyData} (hl : vs.length ≤ N.length) (old : ∀ a, P a → H a ≠ none) (r : RpAll K (msk P H) vs as) : Good K P [] H (start N vs) (envA N.length as) ∧ ∀ a, ¬ OwnAt (start N vs) (envA N.length as) a := by
  have no : ∀ a, ¬ OwnAt (start N vs) (envA N.length as) a := fun a ⟨i, xs, h, _⟩ => no_own_envA h
  have eq : msk (Hid P (start N vs) (envA N.length as)) H = msk P H := msk_iff fun a => ⟨fun z => z.elim id fun z => (no a z).elim, .inl⟩
  have hr := r.length
  refine ⟨⟨?_, old, fun i d h => ?_, fun i xs h => (no_own_envA h).elim, fun i j xs ys p h => (no_own_envA h).elim, fun p hp => nomatch hp⟩, no⟩
  · unfold L2.start envA
    simp only [List.length_append, List.length_map, List.length_replicate]
    omega
  · rcases envA_get h with ⟨d', h1, z⟩ | z
    · cases z
      obtain ⟨v, h2, h3⟩ := r.get h1
      exact ⟨v, start_get h2, by rw [eq]; exact h3⟩
    · cases z
theorem envO_succ {tot : Nat} {xs as : List PyData} {i : Nat} : (envO tot xs as)[i + 1]? = (envA (tot - 1) as)[i]? := by
  unfold envO envA
  rw [List.getElem?_cons_succ]
  rw [show tot - (as.length + 1) = tot - 1 - as.length by omega]
theorem good_startO {N : List Str} {ws ys : List V} {xs as : List PyData} {p : Addr} (hl : ws.length + 1 ≤ N.length) (old : ∀ a, P a → H a ≠ none) (hP : P p) (hp : H p = some (.lst ys)) (hy : ys.length ≤ sizeLine) (r1 : RpAll K (msk P H) ys xs) (r : RpAll K (msk P H) ws as) :
    Good K (fun a => P a ∧ a ≠ p) [(0, .ref p)] H (start N (.ref p :: ws)) (envO N.length xs as) ∧ ∀ a, OwnAt (start N (.ref p :: ws)) (envO N.length xs as) a ↔ a = p := by
  have s0 : (start N (.ref p :: ws))[0]? = some (some (.ref p)) := rfl
  have ow : ∀ a, OwnAt (start N (.ref p :: ws)) (envO N.length xs as) a ↔ a = p := fun a => by
    constructor
    · rintro ⟨i, zs, h1, h2⟩
      cases i with
      | zero => rw [s0] at h2; cases h2; rfl
      | succ i => rw [envO_succ] at h1; exact (no_own_envA h1).elim
    · rintro rfl
      exact ⟨0, xs, rfl, s0⟩
  have eq : msk (Hid (fun a => P a ∧ a ≠ p) (start N (.ref p :: ws)) (envO N.length xs as)) H = msk P H := msk_iff fun a => by
    constructor
    · rintro (z | z)
      · exact z.1
      · rw [(ow a).mp z]; exact hP
    · intro z
      by_cases c : a = p
      · exact .inr ((ow a).mpr c)
      · exact .inl ⟨z, c⟩
  have hr := r.length
  refine ⟨⟨?_, fun a z => old a z.1, fun i d h => ?_, fun i zs h => ?_, fun i j zs ws' q h1 h2 _ _ => ?_, fun q hq => ?_⟩, ow⟩
  · unfold L2.start envO
    simp only [List.length_append, List.length_map, List.length_replicate, List.length_cons]
    omega
  · cases i with
    | zero => cases h
    | succ i =>
      rw [envO_succ] at h
      rcases envA_get h with ⟨d', h1, z⟩ | z
      · cases z
        obtain ⟨v, h2, h3⟩ := r.get h1
        exact ⟨v, start_get (vs := .ref p :: ws) (i := i + 1) h2, by rw [eq]; exact h3⟩
      · cases z
  · cases i with
    | zero =>
      have e : xs = zs := Sl.own.inj (Option.some.inj h)
      subst e
      exact ⟨p, ys, s0, hp, hy, by rw [eq]; exact r1, fun z => z.2 rfl⟩
    | succ i =>
      rw [envO_succ] at h
      exact (no_own_envA h).elim
  · cases i with
    | zero =>
      cases j with
      | zero => rfl
      | succ j => rw [envO_succ] at h2; exact (no_own_envA h2).elim
    | succ i => rw [envO_succ] at h1; exact (no_own_envA h1).elim
  · have e : q = (0, V.ref p) := by simpa using hq
    subst e
    exact s0
end
section
variable {P : Program} {w : World} {K : PySem.W.Frag} {mg : Str → Option Value} {base : Heap} {x qual : Str} {st : Stmt} {f : Addr} {fd : FuncData} {N ps : List Str} {k : Nat} {g : Sls → OutS}
theorem scope_le {sc : Scope} (S : FnScope N ps sc) : ps.length ≤ N.length := by
  have := congrArg List.length S.pre
  rw [List.length_take] at this
  omega
abbrev Body (P : Program) (w : World) (K : PySem.W.Frag) (mg : Str → Option Value) (base : Heap) (N : List Str) (qual : Str) (st : Stmt) (f : Addr) (k : Nat) (fx : List Nat) (g : Sls → OutS) : Prop :=
  ∀ (cdv : Value) (A : Around) (outer : List Env) (s : Shared) (H : Hp) (E : XK), A.guards = some [] → Room k (A.deeper (envOfC qual (defScope st) s.heap.objs.size f cdv)) →
    PSs (cxOf (L2.CX P w) P w K mg base N qual (defScope st) f cdv A outer s H E) (defBody st) (cS ⟨K, mg⟩ fx (fun cls d _ H => E cls d H) g)
theorem def_P (F : Fun K x qual st f fd) (S : FnScope N ps (defScope st)) (B : Body P w K mg base N qual st f k [] g) : FnG P w K mg base (k + 1) f fd ps (spP ⟨K, mg⟩ ps.length (runP N.length g)) := by
  refine defG F S (fun vs H Q E h => by obtain ⟨_, _, h, _⟩ := h; exact h) fun cdv A outer s H vs Q E gd hr h => ⟨_, B cdv A outer s H E gd hr, ?_⟩
  obtain ⟨P', as, hl, old, r, h⟩ := h
  have hN := scope_le S
  obtain ⟨g0, no⟩ := good_start (N := N) (by omega) old r
  refine ⟨P', [], _, (fun _ hp => nomatch hp), g0, ?_⟩
  have sm : ∀ {σ' e' H'}, Kp (start N vs) (envA N.length as) H σ' e' H' → Same H H' := fun k a o z => (k a o z (no a)).1
  unfold runP at h
  cases q : g (envA N.length as) with
  | nx e' =>
    rw [q] at h
    exact fun σ' H' g' k' => h .non H' (sm k') .non
  | rt d e' =>
    rw [q] at h
    refine fun v σ' H' g' r' k' => h v H' (sm k') (r'.mono fun a o z => ?_)
    obtain ⟨n, z⟩ := msk_some.mp z
    exact msk_some.mpr ⟨fun y => n (.inl y), z⟩
  | err y e' =>
    rw [q] at h
    exact fun cls d σ' H' g' er k' => h cls d H' (sm k') er
  | rtN d e' => rw [q] at h; exact h.elim
  | bk e' => rw [q] at h; exact h.elim
  | ct e' => rw [q] at h; exact h.elim
  | stuck => rw [q] at h; exact h.elim
theorem def_N (F : Fun K x qual st f fd) (S : FnScope N ps (defScope st)) (B : Body P w K mg base N qual st f k [] g) : FnG P w K mg base (k + 1) f fd ps (spN ⟨K, mg⟩ ps.length (runN N.length g)) := by
  refine defG F S (fun vs H Q E h => by obtain ⟨_, _, h, _⟩ := h; exact h) fun cdv A outer s H vs Q E gd hr h => ⟨_, B cdv A outer s H E gd hr, ?_⟩
  obtain ⟨P', as, hl, old, r, h⟩ := h
  have hN := scope_le S
  obtain ⟨g0, no⟩ := good_start (N := N) (by omega) old r
  refine ⟨P', [], _, (fun _ hp => nomatch hp), g0, ?_⟩
  have sm : ∀ {σ' e' H'}, Kp (start N vs) (envA N.length as) H σ' e' H' → Same H H' := fun k a o z => (k a o z (no a)).1
  unfold runN at h
  cases q : g (envA N.length as) with
  | rtN xs e' =>
    rw [q] at h
    refine fun p ys σ' H' g' hp hz hr' ho hn k' => h p ys H' (sm k') (hn.elim id fun z => (no p z).elim) hp hz (hr'.mono fun a o z => ?_)
    obtain ⟨n, z⟩ := msk_some.mp z
    exact msk_some.mpr ⟨fun y => n (.inl y), z⟩
  | err y e' =>
    rw [q] at h
    exact fun cls d σ' H' g' er k' => h cls d H' (sm k') er
  | nx e' => rw [q] at h; exact h.elim
  | rt d e' => rw [q] at h; exact h.elim
  | bk e' => rw [q] at h; exact h.elim
  | ct e' => rw [q] at h; exact h.elim
  | stuck => rw [q] at h; exact h.elim
theorem own0_at {e : Sls} {xs : List PyData} (h : own0 e = some xs) : e[0]? = some (Sl.own xs) := by
  unfold own0 at h
  split at h
  · rw [List.getElem?_cons_zero, Option.some.inj h]
  · cases h
theorem def_O (F : Fun K x qual st f fd) (S : FnScope N ps (defScope st)) (B : Body P w K mg base N qual st f k [0] g) : FnG P w K mg base (k + 1) f fd ps (spO ⟨K, mg⟩ ps.length (runO N.length g)) := by
  refine defG F S (fun vs H Q E h => by obtain ⟨_, _, _, _, _, _, _, h, _⟩ := h; exact h) fun cdv A outer s H vs Q E gd hr h => ⟨_, B cdv A outer s H E gd hr, ?_⟩
  obtain ⟨P', p, ws, ys, xs, as, rfl, hl, old, hP, hp, hy, r1, r, h⟩ := h
  have hN := scope_le S
  rw [List.length_cons] at hl
  obtain ⟨g0, ow⟩ := good_startO (N := N) (by omega) old hP hp hy r1 r
  refine ⟨_, [(0, .ref p)], _, fun q hq => ?_, g0, ?_⟩
  · have e : q = (0, V.ref p) := by simpa using hq
    subst e
    exact List.mem_cons_self
  have sm : ∀ {σ' e' H'}, Kp (start N (.ref p :: ws)) (envO N.length xs as) H σ' e' H' → SameB p H H' := fun k a o ne z => (k a o z fun z => ne ((ow a).mp z)).1
  have fin : ∀ {σ' : St} {e' : Sls} {H' : Hp} {xs' : List PyData}, Good K (fun a => P' a ∧ a ≠ p) [(0, .ref p)] H' σ' e' → own0 e' = some xs' → ∃ ys', H' p = some (.lst ys') ∧ ys'.length ≤ sizeLine ∧ RpAll K (msk P' H') ys' xs' ∧ ∀ v d, Rp K (msk (Hid (fun a => P' a ∧ a ≠ p) σ' e') H') v d → Rp K (msk P' H') v d := by
    intro σ' e' H' xs' g' q
    have z0 : σ'[0]? = some (some (.ref p)) := g'.fix (0, .ref p) List.mem_cons_self
    obtain ⟨p', ys', q1, q2, q3, q4, q5⟩ := g'.own 0 xs' (own0_at q)
    rw [z0] at q1; cases q1
    have sub : Same (msk (Hid (fun a => P' a ∧ a ≠ p) σ' e') H') (msk P' H') := fun a o z => by
      obtain ⟨n, z⟩ := msk_some.mp z
      refine msk_some.mpr ⟨fun y => n ?_, z⟩
      by_cases c : a = p
      · subst c; exact .inr ⟨0, xs', own0_at q, z0⟩
      · exact .inl ⟨y, c⟩
    exact ⟨ys', q2, q3, q4.mono sub, fun v d r => r.mono sub⟩
  unfold runO at h
  cases q : g (envO N.length xs as) with
  | nx e' =>
    rw [q] at h
    dsimp only at h
    intro σ' H' g' k'
    cases q2 : own0 e' with
    | none => rw [q2] at h; exact h.elim
    | some xs' =>
      rw [q2] at h
      obtain ⟨ys', z1, z2, z3, z4⟩ := fin g' q2
      exact h .non ys' H' (sm k') z1 z2 z3 .non
  | rt d e' =>
    rw [q] at h
    dsimp only at h
    intro v σ' H' g' r' k'
    cases q2 : own0 e' with
    | none => rw [q2] at h; exact h.elim
    | some xs' =>
      rw [q2] at h
      obtain ⟨ys', z1, z2, z3, z4⟩ := fin g' q2
      exact h v ys' H' (sm k') z1 z2 z3 (z4 v d r')
  | err y e' => rw [q] at h; exact h.elim
  | rtN d e' => rw [q] at h; exact h.elim
  | bk e' => rw [q] at h; exact h.elim
  | ct e' => rw [q] at h; exact h.elim
  | stuck => rw [q] at h; exact h.elim
theorem def_ON (F : Fun K x qual st f fd) (S : FnScope N ps (defScope st)) (B : Body P w K mg base N qual st f k [0] g) : FnG P w K mg base (k + 1) f fd ps (spON ⟨K, mg⟩ ps.length (runON N.length g)) := by
  refine defG F S (fun vs H Q E h => by obtain ⟨_, _, _, _, _, _, _, h, _⟩ := h; exact h) fun cdv A outer s H vs Q E gd hr h => ⟨_, B cdv A outer s H E gd hr, ?_⟩
  obtain ⟨P', p, ws, ys, xs, as, rfl, hl, old, hP, hp, hy, r1, r, h⟩ := h
  have hN := scope_le S
  rw [List.length_cons] at hl
  obtain ⟨g0, ow⟩ := good_startO (N := N) (by omega) old hP hp hy r1 r
  refine ⟨_, [(0, .ref p)], _, fun q hq => ?_, g0, ?_⟩
  · have e : q = (0, V.ref p) := by simpa using hq
    subst e
    exact List.mem_cons_self
  have sm : ∀ {σ' e' H'}, Kp (start N (.ref p :: ws)) (envO N.length xs as) H σ' e' H' → SameB p H H' := fun k a o ne z => (k a o z fun z => ne ((ow a).mp z)).1
  unfold runON at h
  cases q : g (envO N.length xs as) with
  | rtN zs e' =>
    rw [q] at h
    dsimp only at h
    intro b us σ' H' g' hb hbl hbr ho hn k'
    cases q2 : own0 e' with
    | none => rw [q2] at h; exact h.elim
    | some xs' =>
      rw [q2] at h
      have z0 : σ'[0]? = some (some (.ref p)) := g'.fix (0, .ref p) List.mem_cons_self
      obtain ⟨p', ys', q1, q2', q3, q4, q5⟩ := g'.own 0 xs' (own0_at q2)
      rw [z0] at q1; cases q1
      have nb : p ≠ b := fun z => q5 (.inr z)
      have sub : Same (msk (Hid (Op (fun a => P' a ∧ a ≠ p) b) σ' e') H') (msk (Op P' b) H') := fun a o z => by
        obtain ⟨n, z⟩ := msk_some.mp z
        refine msk_some.mpr ⟨fun y => n ?_, z⟩
        rcases y with y | y
        · by_cases c : a = p
          · subst c; exact .inr ⟨0, xs', own0_at q2, z0⟩
          · exact .inl (.inl ⟨y, c⟩)
        · exact .inl (.inr y)
      exact h b us ys' H' (sm k') (hn.elim id fun z => absurd ((ow b).mp z).symm nb) hb hbl (hbr.mono sub) q2' q3 (q4.mono sub)
  | nx e' => rw [q] at h; exact h.elim
  | rt d e' => rw [q] at h; exact h.elim
  | err y e' => rw [q] at h; exact h.elim
  | bk e' => rw [q] at h; exact h.elim
  | ct e' => rw [q] at h; exact h.elim
  | stuck => rw [q] at h; exact h.elim
end
def Rs.out {α : Type} (r : Rs α) (e : Sls) : Out α :=
  match r with
  | .ok a => .ok a e
  | .err x => .err x e
  | .stuck => .stuck
def callP (spec : List PyData → Rs PyData) (fs : Sls → Out (List SV)) : Sls → Out SV := fun e => (fs e).bind fun xs e1 => (frzL xs e1).bind fun as e2 => ((spec as).out e2).bind fun d e3 => .ok (.val d) e3
def callN (spec : List PyData → Rs (List PyData)) (fs : Sls → Out (List SV)) : Sls → Out (List PyData) := fun e => (fs e).bind fun xs e1 => (frzL xs e1).bind fun as e2 => (spec as).out e2
section
variable {X : Cx} {fx : List Nat} {W : WX} {k n : Nat} {f : Addr} {fd : FuncData} {ps : List Str} {x : Str} {p pos : Pos} {a : Expr} {es : List Expr} {fs : Sls → Out (List SV)}
theorem spP_of {M : Md} {spec : List PyData → Rs PyData} {O : Addr → Prop} {F : List (Nat × V)} {σ : St} {e : Sls} {H : Hp} {vs : List V} {as : List PyData} {Q : VK} (hl : vs.length = n) (g : Good M.K O F H σ e) (r : RpAll M.K (msk (Hid O σ e) H) vs as)
    (h : Po M O F σ e H W (fun x e' H' => ∀ v, SVR M.K O H' σ e' v x → Q v H') (((spec as).out e).bind fun d e3 => .ok (.val d) e3)) : spP M n spec vs H Q (WE W σ) := by
  refine ⟨Hid O σ e, as, hl, g.hd, r, ?_⟩
  cases q : spec as with
  | ok d =>
    rw [q] at h
    intro v H' s rv
    have g' := g.ext s
    exact h H' g' (Kp.same s) Dn.refl v rv
  | err y =>
    rw [q] at h
    exact fun cls dd H' s er => h cls dd H' (g.ext s) er (Kp.same s)
  | stuck => rw [q] at h; exact h.elim
theorem pp_callP {spec : List PyData → Rs PyData} (F : FnG X.prog X.w X.K X.mg X.base k f fd ps (spP X.md ps.length spec)) (gd : X.A.guards = some []) (hr : Room k X.A) (hm : X.mg x = some (.ref f)) (hk : PySem.W.keepIn X.K (.ref f) = true) (hb : Binds X.K fd ps []) (tk : Takes X W)
    (ha : PA X (a :: es) (cA X.md fx W fs)) (hn : (a :: es).length = ps.length := by rfl) (hg : Gl X x := by rfl) (hdb : (x == ("__debug__" : Str)) = false := by decide) (he : starEach (a :: es) X.env = (false, eval a X.env) :: starEach es X.env := by rfl) (hpl : (backTo pos (starEach es X.env)).any (·.1) = false := by rfl)
    (hlen : ∀ e xs e1, fs e = .ok xs e1 → xs.length = (a :: es).length) : PE X (.Call (.Name x p) (a :: es) [] pos) (cE X.md fx W (callP spec fs)) := by
  refine (pe_callG F gd hr hg hm hk hb tk ha hdb he hpl).weak fun σ H Q ⟨O, F', e, hF, g, h⟩ => ?_
  have hb0 := Po.bind h
  refine ⟨O, F', e, hF, g, ?_⟩
  cases q : fs e with
  | ok xs e1 =>
    rw [q] at hb0
    intro H1 g1 k1 d1 vs r1
    have h1 := hb0 H1 g1 k1 d1
    have hbb := Po.bind h1
    obtain ⟨ds, e2, hz, g2, k2, d2, ra⟩ := frzL_ok g1 r1 hbb
    rw [hz] at hbb
    refine spP_of ?_ g2 ra (hbb H1 g2 k2 d2)
    rw [ra.length]
    have : xs.length = ds.length := by
      have l1 : vs.length = xs.length := Paired.length r1
      have l2 := ra.length
      omega
    rw [← this, hlen e xs e1 q, hn]
  | err y e1 => rw [q] at hb0; exact hb0
  | stuck => rw [q] at hb0; exact hb0
theorem pp_callP0 {spec : List PyData → Rs PyData} (F : FnG X.prog X.w X.K X.mg X.base k f fd [] (spP X.md 0 spec)) (gd : X.A.guards = some []) (hr : Room k X.A) (hm : X.mg x = some (.ref f)) (hk : PySem.W.keepIn X.K (.ref f) = true) (hb : Binds X.K fd [] []) (tk : Takes X W)
    (hg : Gl X x := by rfl) (hdb : (x == ("__debug__" : Str)) = false := by decide) : PE X (.Call (.Name x p) [] [] pos) (cE X.md fx W (callP spec aNil)) := by
  refine (pe_callG0 F gd hr hg hm hk hb tk hdb).weak fun σ H Q ⟨O, F', e, hF, g, h⟩ => ?_
  exact spP_of (as := []) rfl g .nil h
theorem spN_of {M : Md} {spec : List PyData → Rs (List PyData)} {O : Addr → Prop} {F : List (Nat × V)} {σ : St} {e : Sls} {H : Hp} {vs : List V} {as : List PyData} {Q : VK} (hl : vs.length = n) (g : Good M.K O F H σ e) (r : RpAll M.K (msk (Hid O σ e) H) vs as)
    (h : PoN M O F σ e H W Q ((spec as).out e)) : spN M n spec vs H Q (WE W σ) := by
  refine ⟨Hid O σ e, as, hl, g.hd, r, ?_⟩
  cases q : spec as with
  | ok xs =>
    rw [q] at h
    intro p ys H' s np hp hz rv
    have g' := g.ext s
    have nh : ∀ b, Hid O σ e b → b ≠ p := fun b z w => g.hid z (by rw [w]; exact np)
    have g2 : Good M.K (Op O p) F H' σ e := by
      have sub : Same (msk (Hid O σ e) H) (msk (Hid (Op O p) σ e) H') := fun b o z => by
        obtain ⟨n1, z⟩ := msk_some.mp z
        have ne : b ≠ p := ne_of_none z np
        exact msk_some.mpr ⟨fun w => w.elim (fun w => w.elim (fun w => n1 (.inl w)) ne) fun w => n1 (.inr w), s b o z⟩
      refine ⟨g.len, fun b z => ?_, fun i d z => ?_, fun i zs z => ?_, g.inj, g.fix⟩
      · rcases z with z | z
        · exact g'.old b z
        · rw [z, hp]; exact fun z => by cases z
      · obtain ⟨v, q1, q2⟩ := g.val i d z
        exact ⟨v, q1, q2.mono sub⟩
      · obtain ⟨b, ys', q1, q2, q3, q4, q5⟩ := g.own i zs z
        exact ⟨b, ys', q1, s _ _ q2, q3, q4.mono sub, fun w => w.elim q5 (ne_of_none q2 np)⟩
    refine h p ys H' g2 hp hz ?_ (fun z => g.old p z np) (.inl np) (Kp.same s) Dn.refl
    rw [msk_iff (P' := Op (Hid O σ e) p) fun b => ⟨fun w => w.elim (fun w => w.elim (fun w => .inl (.inl w)) .inr) fun w => .inl (.inr w), fun w => w.elim (fun w => w.elim (fun w => .inl (.inl w)) .inr) fun w => .inl (.inr w)⟩]
    exact rv
  | err y =>
    rw [q] at h
    exact fun cls dd H' s er => h cls dd H' (g.ext s) er (Kp.same s)
  | stuck => rw [q] at h; exact h.elim
theorem pp_callN {spec : List PyData → Rs (List PyData)} (F : FnG X.prog X.w X.K X.mg X.base k f fd ps (spN X.md ps.length spec)) (gd : X.A.guards = some []) (hr : Room k X.A) (hm : X.mg x = some (.ref f)) (hk : PySem.W.keepIn X.K (.ref f) = true) (hb : Binds X.K fd ps []) (tk : Takes X W)
    (ha : PA X (a :: es) (cA X.md fx W fs)) (hn : (a :: es).length = ps.length := by rfl) (hg : Gl X x := by rfl) (hdb : (x == ("__debug__" : Str)) = false := by decide) (he : starEach (a :: es) X.env = (false, eval a X.env) :: starEach es X.env := by rfl) (hpl : (backTo pos (starEach es X.env)).any (·.1) = false := by rfl)
    (hlen : ∀ e xs e1, fs e = .ok xs e1 → xs.length = (a :: es).length) : PE X (.Call (.Name x p) (a :: es) [] pos) (cN X.md fx W (callN spec fs)) := by
  refine (pe_callG F gd hr hg hm hk hb tk ha hdb he hpl).weak fun σ H Q ⟨O, F', e, hF, g, h⟩ => ?_
  have hb0 := PoN.bind h
  refine ⟨O, F', e, hF, g, ?_⟩
  cases q : fs e with
  | ok xs e1 =>
    rw [q] at hb0
    intro H1 g1 k1 d1 vs r1
    have h1 := hb0 H1 g1 k1 d1
    have hbb := PoN.bind h1
    obtain ⟨ds, e2, hz, g2, k2, d2, ra⟩ := frzL_ok g1 r1 hbb
    rw [hz] at hbb
    refine spN_of ?_ g2 ra (hbb H1 g2 k2 d2)
    rw [ra.length]
    have : xs.length = ds.length := by
      have l1 : vs.length = xs.length := Paired.length r1
      have l2 := ra.length
      omega
    rw [← this, hlen e xs e1 q, hn]
  | err y e1 => rw [q] at hb0; exact hb0
  | stuck => rw [q] at hb0; exact hb0
end
theorem Out.bind_ok {α β : Type} {o : Out α} {g : α → Sls → Out β} {b : β} {e2 : Sls} (h : o.bind g = .ok b e2) : ∃ a e1, o = .ok a e1 ∧ g a e1 = .ok b e2 := by
  cases o with
  | ok a e1 => exact ⟨a, e1, rfl, h⟩
  | err x e1 => cases h
  | stuck => cases h
def ALen (fs : Sls → Out (List SV)) (n : Nat) : Prop := ∀ e xs e1, fs e = .ok xs e1 → xs.length = n
theorem alen_nil : ALen aNil 0 := fun e xs e1 h => by cases h; rfl
theorem alen_cons {f : Sls → Out SV} {fs : Sls → Out (List SV)} {n : Nat} (h : ALen fs n) : ALen (aCons f fs) (n + 1) := fun e xs e1 q => by
  obtain ⟨x, e2, q1, q2⟩ := Out.bind_ok q
  obtain ⟨ys, e3, q3, q4⟩ := Out.bind_ok q2
  cases q4
  rw [List.length_cons, h _ _ _ q3]
end PP
set_option maxRecDepth 100000
namespace PP
open PySem PySem.Spec PyProof.Rows L2
def callO (i : Nat) (spec : List PyData → List PyData → Rs (PyData × List PyData)) (fs : Sls → Out (List SV)) : Sls → Out SV := fun e => if isOwn i e then (fs e).bind fun xs e1 => (frzL xs e1).bind fun as e2 =>
    match e2[i]? with
    | some (Sl.own ys) =>
      match spec ys as with
      | .ok (d, ys') => .ok (.val d) (e2.set i (.own ys'))
      | _ => .stuck
    | _ => .stuck
  else .stuck
def callON (i : Nat) (spec : List PyData → List PyData → Rs (List PyData × List PyData)) (fs : Sls → Out (List SV)) : Sls → Out (List PyData) := fun e => if isOwn i e then (fs e).bind fun xs e1 => (frzL xs e1).bind fun as e2 =>
    match e2[i]? with
    | some (Sl.own ys) =>
      match spec ys as with
      | .ok (zs, ys') => .ok zs (e2.set i (.own ys'))
      | _ => .stuck
    | _ => .stuck
  else .stuck
section
variable {K : PySem.W.Frag} {O : Addr → Prop} {F : List (Nat × V)} {H H' : Hp} {σ : St} {e : Sls} {i : Nat}
theorem Good.updB {p : Addr} {xs xs' : List PyData} {ys' : List V} (g : Good K O F H σ e) (h : e[i]? = some (Sl.own xs)) (hp : σ[i]? = some (some (V.ref p))) (s : SameB p H H') (hp' : H' p = some (.lst ys')) (hl : ys'.length ≤ sizeLine) (hr : RpAll K (msk (Hid O σ e) H') ys' xs') :
    Good K O F H' σ (e.set i (Sl.own xs')) ∧ Kp σ e H σ (e.set i (Sl.own xs')) H' ∧ Dn e (e.set i (Sl.own xs')) ∧ Same (msk (Hid O σ e) H') (msk (Hid O σ (e.set i (Sl.own xs'))) H') := by
  have own : OwnAt σ e p := ⟨i, xs, h, hp⟩
  obtain ⟨ys, q⟩ := OwnAt.some g own
  have hx : ∃ Hx : Hp, Hx p = H p ∧ ∀ a, a ≠ p → Hx a = H' a := ⟨fun a => if a = p then H p else H' a, if_pos rfl, fun a ne => if_neg ne⟩
  obtain ⟨Hx, x1, x2⟩ := hx
  have s1 : Same H Hx := fun a o z => by
    by_cases c : a = p
    · subst c; rw [x1]; exact z
    · rw [x2 a c]; exact s a o c z
  have gx := g.ext s1
  have eqm : msk (Hid O σ e) Hx = msk (Hid O σ e) H' := by
    funext a
    by_cases c : a = p
    · subst c
      unfold msk
      rw [if_pos (.inr own), if_pos (.inr own)]
    · unfold msk
      rw [x2 a c]
  have e2 : L2.upd Hx p (.lst ys') = H' := by
    funext a
    by_cases c : a = p
    · subst c; rw [upd_same, hp']
    · rw [upd_ne c, x2 a c]
  obtain ⟨g', k', d', s'⟩ := gx.upd h hp hl (by rw [eqm]; exact hr)
  rw [e2] at g' k' s'
  rw [eqm] at s'
  exact ⟨g', (Kp.same s1).trans k', d', s'⟩
end
section
variable {X : Cx} {fx : List Nat} {W : WX} {k n i : Nat} {f : Addr} {fd : FuncData} {ps : List Str} {x y : Str} {p pos xp : Pos} {es : List Expr} {fs : Sls → Out (List SV)}
theorem pp_callO {spec : List PyData → List PyData → Rs (PyData × List PyData)} (F : FnG X.prog X.w X.K X.mg X.base k f fd ps (spO X.md ps.length spec)) (gd : X.A.guards = some []) (hr : Room k X.A) (hm : X.mg x = some (.ref f)) (hk : PySem.W.keepIn X.K (.ref f) = true) (hb : Binds X.K fd ps []) (tk : Takes X W)
    (ha : PA X es (cA X.md fx W fs)) (hlen : ALen fs es.length) (hn : es.length + 1 = ps.length := by rfl) (hN : X.N[i]? = some y := by rfl) (hv : Vis X.env.scope y := by first | exact .inl rfl | exact .inr (.inl rfl) | exact .inr (.inr rfl)) (hd : (y == ("__debug__" : Str)) = false := by decide) (hcd : (y == ("__classdict__" : Str)) = false := by decide)
    (hg : Gl X x := by rfl) (hdb : (x == ("__debug__" : Str)) = false := by decide) (he : starEach (.Name y xp :: es) X.env = (false, eval (.Name y xp) X.env) :: starEach es X.env := by rfl) (hpl : (backTo pos (starEach es X.env)).any (·.1) = false := by rfl) :
    PE X (.Call (.Name x p) (.Name y xp :: es) [] pos) (cE X.md fx W (callO i spec fs)) := by
  refine (pe_callG F gd hr hg hm hk hb tk (pa_cons (pe_var (i := i) hN hv hd hcd) ha he) hdb he hpl).weak fun σ H Q ⟨O, F', e, hF, g, h⟩ => ?_
  unfold callO at h
  by_cases c : isOwn i e = true
  · rw [if_pos c] at h
    obtain ⟨xs0, q0⟩ := isOwn_own c
    obtain ⟨b, _, hbσ, _⟩ := g.own i xs0 q0
    have hb0 := Po.bind h
    refine ⟨_, hbσ, O, F', e, hF, g, ?_⟩
    cases q : fs e with
    | ok xs e1 =>
      rw [q] at hb0
      intro H1 g1 k1 d1 vs r1
      have h1 := hb0 H1 g1 k1 d1
      have hbb := Po.bind h1
      obtain ⟨ds, e2, hz, g2, k2, d2, ra⟩ := frzL_ok g1 r1 hbb
      rw [hz] at hbb
      have h2 := hbb H1 g2 k2 d2
      dsimp only at h2
      have hlv : vs.length = es.length := by
        rw [Paired.length r1]
        exact hlen e xs e1 q
      cases q3 : e2[i]? with
      | none => rw [q3] at h2; exact h2.elim
      | some s =>
        rw [q3] at h2
        cases s with
        | no => exact h2.elim
        | val _ => exact h2.elim
        | own zs =>
          dsimp only at h2
          obtain ⟨b', ys, z1, z2, z3, z4, z5⟩ := g2.own i zs q3
          rw [hbσ] at z1; cases z1
          refine ⟨Hid O σ e2, b, vs, ys, zs, ds, rfl, by rw [List.length_cons, hlv]; exact hn, g2.hd, .inr ⟨i, zs, q3, hbσ⟩, z2, z3, z4, ra, ?_⟩
          cases q4 : spec zs ds with
          | ok r =>
            obtain ⟨d, zs'⟩ := r
            rw [q4] at h2
            intro v ys' H' s hp' hl' hr' rv
            obtain ⟨g3, k3, d3, s3⟩ := g2.updB q3 hbσ s hp' hl' hr'
            exact h2 H' g3 k3 d3 v (rv.mono s3)
          | err _ => rw [q4] at h2; exact h2.elim
          | stuck => rw [q4] at h2; exact h2.elim
    | err z e1 => rw [q] at hb0; exact hb0
    | stuck => rw [q] at hb0; exact hb0
  · rw [if_neg c] at h
    exact h.elim
theorem pp_callON {spec : List PyData → List PyData → Rs (List PyData × List PyData)} (F : FnG X.prog X.w X.K X.mg X.base k f fd ps (spON X.md ps.length spec)) (gd : X.A.guards = some []) (hr : Room k X.A) (hm : X.mg x = some (.ref f)) (hk : PySem.W.keepIn X.K (.ref f) = true) (hb : Binds X.K fd ps []) (tk : Takes X W)
    (ha : PA X es (cA X.md fx W fs)) (hlen : ALen fs es.length) (hn : es.length + 1 = ps.length := by rfl) (hN : X.N[i]? = some y := by rfl) (hv : Vis X.env.scope y := by first | exact .inl rfl | exact .inr (.inl rfl) | exact .inr (.inr rfl)) (hd : (y == ("__debug__" : Str)) = false := by decide) (hcd : (y == ("__classdict__" : Str)) = false := by decide)
    (hg : Gl X x := by rfl) (hdb : (x == ("__debug__" : Str)) = false := by decide) (he : starEach (.Name y xp :: es) X.env = (false, eval (.Name y xp) X.env) :: starEach es X.env := by rfl) (hpl : (backTo pos (starEach es X.env)).any (·.1) = false := by rfl) :
    PE X (.Call (.Name x p) (.Name y xp :: es) [] pos) (cN X.md fx W (callON i spec fs)) := by
  refine (pe_callG F gd hr hg hm hk hb tk (pa_cons (pe_var (i := i) hN hv hd hcd) ha he) hdb he hpl).weak fun σ H Q ⟨O, F', e, hF, g, h⟩ => ?_
  unfold callON at h
  by_cases c : isOwn i e = true
  · rw [if_pos c] at h
    obtain ⟨xs0, q0⟩ := isOwn_own c
    obtain ⟨b, _, hbσ, _⟩ := g.own i xs0 q0
    have hb0 := PoN.bind h
    refine ⟨_, hbσ, O, F', e, hF, g, ?_⟩
    cases q : fs e with
    | ok xs e1 =>
      rw [q] at hb0
      intro H1 g1 k1 d1 vs r1
      have h1 := hb0 H1 g1 k1 d1
      have hbb := PoN.bind h1
      obtain ⟨ds, e2, hz, g2, k2, d2, ra⟩ := frzL_ok g1 r1 hbb
      rw [hz] at hbb
      have h2 := hbb H1 g2 k2 d2
      dsimp only at h2
      have hlv : vs.length = es.length := by
        rw [Paired.length r1]
        exact hlen e xs e1 q
      cases q3 : e2[i]? with
      | none => rw [q3] at h2; exact h2.elim
      | some s =>
        rw [q3] at h2
        cases s with
        | no => exact h2.elim
        | val _ => exact h2.elim
        | own zs =>
          dsimp only at h2
          obtain ⟨b', ys, z1, z2, z3, z4, z5⟩ := g2.own i zs q3
          rw [hbσ] at z1; cases z1
          refine ⟨Hid O σ e2, b, vs, ys, zs, ds, rfl, by rw [List.length_cons, hlv]; exact hn, g2.hd, .inr ⟨i, zs, q3, hbσ⟩, z2, z3, z4, ra, ?_⟩
          cases q4 : spec zs ds with
          | ok r =>
            obtain ⟨us, zs'⟩ := r
            rw [q4] at h2
            intro c2 vs2 ys' H' s nc hc hcl hcr hp' hl' hr'
            have gO : Good X.md.K (Op O c2) F' (upd H1 c2 (.lst vs2)) σ e2 := (g2.laid (u := .lst vs2) nc).1
            have nbc : b ≠ c2 := ne_of_none z2 nc
            have sB : SameB b (upd H1 c2 (.lst vs2)) H' := fun a o ne z => by
              by_cases w : a = c2
              · subst w; rw [upd_same] at z; cases z; exact hc
              · rw [upd_ne w] at z; exact s a o ne z
            have iff1 : ∀ a, Op (Hid O σ e2) c2 a ↔ Hid (Op O c2) σ e2 a := fun a => ⟨fun w => w.elim (fun w => w.elim (fun w => .inl (.inl w)) .inr) fun w => .inl (.inr w), fun w => w.elim (fun w => w.elim (fun w => .inl (.inl w)) .inr) fun w => .inl (.inr w)⟩
            obtain ⟨g3, k3, d3, s3⟩ := gO.updB q3 hbσ sB hp' hl' (by rw [← msk_iff iff1]; exact hr')
            refine h2 c2 vs2 H' g3 hc hcl ?_ (fun w => g2.old c2 w nc) (.inl nc) ((Kp.same (same_updN nc)).trans k3) d3
            rw [msk_iff iff1] at hcr
            exact hcr.mono s3
          | err _ => rw [q4] at h2; exact h2.elim
          | stuck => rw [q4] at h2; exact h2.elim
    | err z e1 => rw [q] at hb0; exact hb0
    | stuck => rw [q] at hb0; exact hb0
  · rw [if_neg c] at h
    exact h.elim
end
def raiseS (c : String) : Sls → OutS := fun e => .err ⟨c, none⟩ e
section
variable {X : Cx} {fx : List Nat} {W : WX} {pos : Pos}
structure ErrC (K : PySem.W.Frag) (mg : Str → Option Value) (x : Str) (C : Addr) : Prop where
  gC : mg x = some (.ref C)
  exc : PySem.W.excIn K C He.veBase "ValueError.__new__" = true
  kC : PySem.W.keepIn K (.ref C) = true
  sub : PySem.W.subIn K (.ref C) (.type "BaseException") = some true
  ty : PySem.W.typeIn K (.ref C) = some (.type "type")
theorem pps_raise {c : String} {m : Str} {j : Nat} {C : Addr} {p p2 pos2 : Pos} (E : ErrC X.K X.mg (Str.ofString c) C) (hc : X.calm = true) (tk : Takes X W) (hg : Gl X (Str.ofString c) := by rfl) (hdb : (Str.ofString c == ("__debug__" : Str)) = false := by decide) :
    PS X (.Raise (some (.Call (.Name (Str.ofString c) p) [.Constant (.str m) j p2] [] pos2)) none pos) (cS X.md fx W (raiseS c)) := by
  refine (ps_raise hc tk (pmk_own PySem.F.excBase_ValueError E.exc E.gC E.kC (raises_own E.sub E.ty) hg hdb)).weak fun D σ H ⟨O, F, e, hF, g, h⟩ => ?_
  exact h (.ref C) none σ H g ⟨C, E.gC, rfl, rfl⟩ Kp.refl
end
structure FnK (P : Program) (w : World) (K : PySem.W.Frag) (mg : Str → Option Value) (base : Heap) (k : Nat) (f : Addr) (fd : FuncData) (nm : Str) (kind : String → Option Str) : Prop where
  run : ∀ (A : Around) (outer : List Env) (s : Shared) (H : Hp) (p : Addr × Obj) (c : String) (D : Addr) (z : Str) (Q : VK), L2H.RoomH k A → L2H.PinOk outer H s p → Zc (.ref D) none p.2 → (∃ vs, p.2.data = .fields vs) → mg (Str.ofString c) = some (.ref D) → kind c = some z →
    Env0 P w K mg base A outer s H → BindsTo s fd ⟨[.ref p.1], []⟩ [(nm, .ref p.1)] → (∀ H', Same H H' → Q (.str z) H') →
    codeAny (model P w) A (.call (.ref f) ⟨[.ref p.1], []⟩) (CR (L2.CX P w) outer P w H s Q (fun _ _ _ => False)) s
theorem call_isP {X : Cx} {a D : Addr} {oe : Obj} (C : ExcC X.K D) (hp : (a, oe) ∈ X.pn) (hz : Zc (.ref D) none oe) (hf : ∃ vs, oe.data = .fields vs) : CallR X (.builtin "isinstance") (rIsE X.K D a) := by
  intro pins s σ H xs us Q I r h
  obtain ⟨c, cv, b, rfl, hcv, e, q⟩ := h
  obtain ⟨u1, u2, rfl, r1, r2⟩ := r.two
  have e1 : u1 = Value.ref a := r1
  subst e1
  have ec := hcv _ r2
  subst ec
  obtain ⟨hget, _⟩ := I.pin (a, oe) (List.mem_append_left _ hp)
  obtain ⟨vs, hv⟩ := hf
  have J : PySem.W.InstAt s.heap a oe D none := by
    obtain ⟨oc, od, oda, osl⟩ := oe
    obtain ⟨z1, z2⟩ := hz
    dsimp only at z1 z2 hv
    subst z1 z2 hv
    exact ⟨hget, rfl, rfl, trivial⟩
  exact PySem.W.kia_one (PySem.W.handS_kitx_exc C.hg C.hk C.hs C.hd C.ha C.hn C.ht C.hm) I.kIn J e (fun z => nomatch z) fun tk => ⟨.bl b, H, I.kept (t' := tk) fun _ _ z => z, rfl, q⟩
section
variable {P : Program} {w : World} {K : PySem.W.Frag} {mg : Str → Option Value} {base : Heap} {x qual nm : Str} {st : Stmt} {f : Addr} {fd : FuncData} {N : List Str} {k : Nat} {kind : String → Option Str}
abbrev cxK (P : Program) (w : World) (K : PySem.W.Frag) (mg : Str → Option Value) (base : Heap) (N : List Str) (qual : Str) (scope : Scope) (f : Addr) (cd : Value) (A : Around) (outer : List Env) (s : Shared) (H : Hp) (p : Addr × Obj) : Cx :=
  L2H.cxH (L2.CX P w) P w K mg base N qual scope f cd A outer s H (fun _ _ _ => False) p
theorem def_K (F : Fun K x qual st f fd) (S : FnScope N [nm] (defScope st))
    (B : ∀ (cdv : Value) (A : Around) (outer : List Env) (s : Shared) (H : Hp) (p : Addr × Obj) (c : String) (D : Addr) (z : Str) (Q : VK), L2H.RoomH k (A.deeper (envOfC qual (defScope st) s.heap.objs.size f cdv)) → Zc (.ref D) none p.2 → (∃ vs, p.2.data = .fields vs) → mg (Str.ofString c) = some (.ref D) → kind c = some z →
      (∀ H', Same H H' → Q (.str z) H') → ∃ t, PSs (cxK P w K mg base N qual (defScope st) f cdv A outer s H p) (defBody st) t ∧ t { nx := fun _ H' => Q .non H', rt := Q } (L2.start N [.ref p.1]) H) : FnK P w K mg base (k + 1) f fd nm kind := by
  obtain ⟨oc, od, kV, doc, pm, an, cdv, ct, osl, rfl, lk, hcd⟩ := F.ex
  refine ⟨fun A outer s H p c D z Q hr hpin hz hf hD hk e0 hb hq => ?_⟩
  have KX : K.In s.heap := e0.mod.kin.keeps fun b o z => (e0.bs b o z).1
  have noLim : s.heap.NoLimit := e0.mod.nolimit.keeps fun b o z => (e0.bs b o z).1
  have kinds : ∀ y ∈ ([nm].zip [Value.ref p.1]), (defScope st).names.lookup y.1 = some .local ∨ ((defScope st).names.lookup y.1 = some .cell ∧ ((cellsFrom (s.heap.objs.size + 1) (defScope st).names []).lookup y.1).isSome = true) := by
    rintro ⟨n, v⟩ hy
    exact (S.par n (List.of_mem_zip hy).1).elim .inl fun q => .inr ⟨q, PySem.W.cellsFrom_some _ _ _ (.inl q)⟩
  refine codeAny_call_function hr.depth (KX _ _ lk) rfl S.co S.gen rfl (PySem.W.codeRec_of KX hcd) (hb _ _ _ _ (wpAny_newFunctionEnv_cells S.kind kinds fun env he s1 cx => ?_))
  subst he
  refine ⟨noLim.keeps cx.toInCall.keep, codeAny_func ?_⟩
  obtain ⟨t, ht, hw⟩ := B cdv A outer s H p c D z Q (hr.deeper _) hz hf hD hk hq
  have I0 : Inv (cxK P w K mg base N qual (defScope st) f cdv A outer s H p) [] (L2.start N [.ref p.1]) H s1 := L2H.inv_startH (vs := [.ref p.1]) (us := [.ref p.1]) S hpin e0 rfl (.cons rfl .nil) cx
  refine wpAny_mono (ht.run [] s1 (L2.start N [.ref p.1]) H _ I0 hw) (fun fl s2 hs => ?_) fun _ _ z => z
  cases fl with
  | next =>
    obtain ⟨σ2, H2, J, q⟩ := hs
    exact ⟨V.non, H2, J.os, J.bare, J.base, J.hok, rfl, q⟩
  | ret u =>
    obtain ⟨v, σ2, H2, J, ru, q⟩ := hs
    exact ⟨v, H2, J.os, J.bare, J.base, J.hok, ru, q⟩
  | brk =>
    obtain ⟨_, _, _, q⟩ := hs
    exact q.elim
  | cont =>
    obtain ⟨_, _, _, q⟩ := hs
    exact q.elim
end
section
variable {X : Cx} {fx : List Nat} {W : WX} {k : Nat} {f : Addr} {fd : FuncData} {nm : Str} {kind : String → Option Str} {x n c0 : Str} {i : Nat}
theorem suite_kind {a : Addr} {oe : Obj} {cls : Value} {d : Option Addr} {pn : List (Addr × Obj)} {p q pos rpos : Pos} (F : FnK X.prog X.w X.K X.mg X.base k f fd nm kind) (hr : L2H.RoomH k X.A) (hm : X.mg x = some (.ref f)) (hk : PySem.W.keepIn X.K (.ref f) = true) (hb : Binds X.K fd [nm] []) (hz : Zc cls d oe) (hf : ∃ vs, oe.data = .fields vs)
    (hN : X.N[i]? = some n := by rfl) (hv : Vis X.env.scope n := by first | exact .inl rfl | exact .inr (.inl rfl)) (hd : (n == ("__debug__" : Str)) = false := by decide) (hcd : (n == ("__classdict__" : Str)) = false := by decide) (hg : Gl X x := by rfl) (hdb : (x == ("__debug__" : Str)) = false := by decide)
    (he : starEach [.Name n q] (X.suite a ((a, oe) :: pn)).env = (false, eval (.Name n q) X.env) :: starEach [] X.env := by rfl) (hpl : (backTo pos (starEach [] X.env)).any (·.1) = false := by rfl) :
    PSs (X.suite a ((a, oe) :: pn)) [.Return (some (.Call (.Name x p) [.Name n q] [] pos)) rpos] (fun D σ H => (∃ σ0 : St, σ = σ0.set i (some (.ref a))) ∧ ∃ c Dc z, d = none ∧ cls = .ref Dc ∧ X.mg (Str.ofString c) = some (.ref Dc) ∧ kind c = some z ∧ ∀ H', Same H H' → D.rt (.str z) H') := by
  refine pss_one (ps_ret (te := fun σ H Q => (∃ σ0 : St, σ = σ0.set i (some (.ref a))) ∧ ∃ c Dc z, d = none ∧ cls = .ref Dc ∧ X.mg (Str.ofString c) = some (.ref Dc) ∧ kind c = some z ∧ ∀ H', Same H H' → Q (.str z) H') ⟨fun pins s σ H Q I h => ?_⟩)
  obtain ⟨⟨σ0, e0⟩, c, Dc, z, rfl, rfl, hD, hkd, hQ⟩ := h
  have hσ : σ[i]? = some (some (.ref a)) := by
    have l1 := I.len
    have l2 : i < X.N.length := (List.getElem?_eq_some_iff.mp hN).1
    rw [e0] at l1 ⊢
    rw [List.length_set] at l1
    exact List.getElem?_set_self (by rw [l1]; exact l2)
  refine wpAny_Call_Name_kw (ld_glob I hg hm ?_ hdb)
  have pn1 : PE (X.suite a ((a, oe) :: pn)) (.Name n q) (tVar i) := pe_var hN hv hd hcd
  refine PySem.W.callWith_K (h₀ := X.base) I.ok.mod.kin hk (thn ((pa_cons pn1 pa_nil he).run pos pins s σ H (fun vs H1 => vs = [V.ref a] ∧ H1 = H) I ⟨_, hσ, rfl, rfl⟩) fun us s2 hh => ?_) he hpl
  obtain ⟨vs, H2, I2, r, rfl, rfl⟩ := hh
  refine ⟨I2.kIn, ?_⟩
  obtain ⟨u, rfl, ru⟩ := r.one
  have eu : u = Value.ref a := ru
  subst eu
  have P1 := I2.pin (a, oe) (List.mem_append_left _ List.mem_cons_self)
  have hpin : L2H.PinOk X.stack H2 s2 (a, oe) := ⟨P1.1, P1.2.1, fun hm => (List.mem_cons.mp (I2.stkSub a hm)).elim P1.2.2.1 P1.2.2.2.1, P1.2.2.2.2⟩
  have bnd := hb s2 [.ref a] I2.kIn rfl
  rw [List.append_nil] at bnd
  refine wpAny_call (codeAny_mono (F.run (X.A.mark (some (.ref a))) X.stack s2 H2 (a, oe) c Dc z Q ⟨hr.dp, hr.un⟩ hpin hz hf hD hkd I2.env0 bnd hQ) fun res s3 hq => ?_)
  cases res with
  | error ex =>
    obtain ⟨_, _, _, _, _, _, _, _, _, _, _, _, no⟩ := hq
    exact no.elim
  | ok fl =>
    cases fl with
    | ret u => exact I2.after hq
    | next => exact hq.elim
    | brk => exact hq.elim
    | cont => exact hq.elim
def tryK (kind : String → Option Str) (g : Sls → OutS) : Sls → OutS := fun e =>
  match g e with
  | .err y e' =>
    match y.arg with
    | none =>
      match kind y.cls with
      | some z => .rt (.str z) e'
      | none => .stuck
    | some _ => .stuck
  | r => r
theorem pps_tryK {body : List Stmt} {g : Sls → OutS} {C : Addr} {np pos' pos p q cpos rpos : Pos} (F : FnK X.prog X.w X.K X.mg X.base k f fd nm kind) (hr : L2H.RoomH k X.A) (hm : X.mg x = some (.ref f)) (hk : PySem.W.keepIn X.K (.ref f) = true) (hbd : Binds X.K fd [nm] []) (tk : Takes X W)
    (hC : X.mg c0 = some (.ref C)) (hm2 : ∀ c D, kind c ≠ none → X.mg (Str.ofString c) = some (.ref D) → PySem.W.exmOne X.K (.ref D) (.ref C) = some true)
    (hs : X.stack = X.env :: X.outer) (hf : X.env.frame = some X.env.locals) (hN : X.N.Nodup)
    (hb : ∀ (W : WX) (pn : List (Addr × Obj)) (xe : Value → Shared → Prop), Takes (X.tr pn xe) W → PassesOwn (model X.prog X.w) X.A X.env xe → PSs (X.tr pn xe) body (cS X.md fx W g))
    (hi : X.N[i]? = some n := by rfl) (hln : X.env.kindOf n = some .local := by rfl) (hd : (n == ("__debug__" : Str)) = false := by decide) (hcd : (n == ("__classdict__" : Str)) = false := by decide) (hg : Gl X x := by rfl) (hdb : (x == ("__debug__" : Str)) = false := by decide) (hgc : Gl X c0 := by rfl) (hdc : (c0 == ("__debug__" : Str)) = false := by decide)
    (he : ∀ a oe pn, starEach [.Name n q] (X.suite a ((a, oe) :: pn)).env = (false, eval (.Name n q) X.env) :: starEach [] X.env := by intros; rfl) (hpl : (backTo cpos (starEach [] X.env)).any (·.1) = false := by rfl) :
    PS X (.Try body [.ExceptHandler (some (.Name c0 np)) (some n) [.Return (some (.Call (.Name x p) [.Name n q] [] cpos)) rpos] pos'] [] [] pos) (cS X.md fx W (tryK kind g)) := by
  have hln' : X.env.scope.names.lookup n = some .local := hln
  refine (ps_try_as (i := i) (tb := fun W' => cS X.md fx W' g) (Wout := W) hs hf hN hi hln ⟨hgc, hdc, .inl hC⟩ tk hb (fun a oe cls d pn hz hfs => suite_kind (i := i) F hr hm hk hbd hz hfs hi (.inl hln') hd hcd hg hdb (he a oe pn) hpl)).weak fun D σ H ⟨O, F', e, hF, gd, h⟩ => ?_
  refine ⟨O, F', e, hF, gd, ?_⟩
  unfold tryK at h
  cases q : g e with
  | nx e' => rw [q] at h; exact h
  | rt v e' => rw [q] at h; exact h
  | rtN v e' => rw [q] at h; exact h
  | bk e' => rw [q] at h; exact h
  | ct e' => rw [q] at h; exact h
  | stuck => rw [q] at h; exact h
  | err y e' =>
    rw [q] at h
    intro cls d σ' H' g' er k'
    obtain ⟨Dc, hD, rfl, ha⟩ := er
    obtain ⟨yc, ya⟩ := y
    cases ya with
    | some _ => exact h.elim
    | none =>
      dsimp only at h ha
      subst ha
      cases q2 : kind yc with
      | none => rw [q2] at h; exact h.elim
      | some z =>
        rw [q2] at h
        exact ⟨true, hm2 yc Dc (by rw [q2]; exact fun z => by cases z) hD, fun _ a na => ⟨⟨σ', rfl⟩, yc, Dc, z, rfl, rfl, hD, q2, fun H2 s2 => h (.str z) σ' H2 (g'.ext s2) (.str z) (k'.trans (Kp.same s2))⟩, fun z => nomatch z⟩
end
end PP
set_option maxRecDepth 100000
namespace PP
open PySem PySem.Spec PyProof.Rows L2
theorem law_callG {P : Program} {w : World} {K : PySem.W.Frag} {mg mb : Str → Option Value} {k : Nat} {fa a : Addr} {fd : FuncData} {x : Str} {sp : Sp} {t : Shared} {vs : List Value} {ns : List Int}
    (KX : K.In t.heap) (hns : t.heap.Ns mainGlobals mg) (hb : t.heap.Ns builtinsNs mb) (hbb : ∀ y : Str, y ≠ "__name__" → mb y = bootBuiltins y) (hlim : t.heap.NoLimit) (hg : t.gens = #[])
    (ha : t.heap.get? a = some { cls := .type "list", data := .seq vs.toArray }) (hi : IntsAre vs ns) (hl : ns.length ≤ sizeLine) (hr : Room k callerA)
    (F : ∀ base : Heap, K.In base → base.Ns mainGlobals mg → FnG P w K mg base k fa fd [x] sp) (hbind : ∀ (s : Shared) (u : Value), BindsTo s fd ⟨[u], []⟩ [(x, u)])
    (hsp : ∀ H : Hp, Only H → SqL K H a (ns.map V.int) → sp [.ref a] H (fun v _ => v = .bl true) fun _ _ _ => False) :
    codeAny (model P w) callerA (.call (.ref fa) ⟨[.ref a], []⟩) (fun r s2 => r = .ok (.ret (.bool true)) ∧ OldK t.heap s2.heap ∧ s2.os = t.os ∧ AllBare s2.gens) t := by
  have rv := vals_ints hi
  have lenV := hi.length
  have main : ∀ H : Hp, Only H → SqL K H a (ns.map V.int) → HOk P w H t.heap → (∀ b, H b ≠ none → b = a) → (H a ≠ none → K.lookup a = none) →
      codeAny (model P w) callerA (.call (.ref fa) ⟨[.ref a], []⟩) (fun r s2 => r = .ok (.ret (.bool true)) ∧ OldK t.heap s2.heap ∧ s2.os = t.os ∧ AllBare s2.gens) t := by
    intro H hO hS hok hA hK
    have at_a : ∀ {b : Addr} {u : HO}, H b = some u → b = a := fun {b u} q => hA b fun z => by rw [q] at z; cases z
    have under : ∀ {b : Addr} {o : Obj}, t.heap.get? b = some o → H b = none → (hidT t.heap H).get? b = some o := fun z n => hidT_get z n
    have dictFree : ∀ {b : Addr} {o : Obj} {es : Array DictEntry} {ep : Nat}, t.heap.get? b = some o → o.data = .dict es ep → H b = none := by
      intro b o es ep z d
      cases q : H b with
      | none => rfl
      | some u =>
        have e := at_a q
        rw [e, ha] at z
        have e2 := Option.some.inj z
        rw [← e2] at d
        cases d
    have ns2 : ∀ {b : Addr} {m : Str → Option Value}, t.heap.Ns b m → (hidT t.heap H).Ns b m := by
      rintro b m ⟨o, es, ep, z, d, r⟩
      exact ⟨o, es, ep, under z (dictFree z d), d, r⟩
    have inK : K.In (hidT t.heap H) := by
      intro b o z
      refine under (KX b o z) ?_
      cases q : H b with
      | none => rfl
      | some u =>
        have e := at_a q
        have nK := hK (by rw [← e, q]; exact fun z => by cases z)
        rw [e, nK] at z
        cases z
    obtain ⟨mc, c1, c2⟩ := hlim
    have md : Mod K mg (hidT t.heap H) := ⟨inK, ns2 hns, ⟨mb, ns2 hb, hbb⟩, mc, ns2 c1, c2⟩
    have e0 : Env0 P w K mg (hidT t.heap H) callerA [] t H := ⟨rfl, md, fun b o z => of_hidT z, Nat.le_of_eq (hidT_size _ _), trivial, (fun b z => absurd (show b ∈ ([] : List Addr) from z) (by simp)), hok, .of_eq hg⟩
    refine codeAny_mono ((F _ inK (ns2 hns)).run callerA [] t H ⟨[.ref a], []⟩ [.ref a] [.ref a] _ _ rfl hr e0 (hbind t (.ref a)) (.cons rfl .nil) (hsp H hO hS)) fun r s2 h => ?_
    cases r with
    | error ex =>
      obtain ⟨_, _, _, _, _, _, _, _, _, _, _, _, no⟩ := h
      exact no.elim
    | ok fl =>
      cases fl with
      | next => exact h.elim
      | brk => exact h.elim
      | cont => exact h.elim
      | ret u =>
        obtain ⟨v, H2, os, bare, un, hok2, ru, q⟩ := h
        have ev : v = .bl true := q
        rw [ev] at ru
        have eu : u = Value.bool true := ru
        rw [eu]
        refine ⟨rfl, OldK.of_keep fun b o z => ?_, os, bare⟩
        cases q2 : H b with
        | none => exact un.keep b o z q2 (fun y => absurd (show b ∈ ([] : List Addr) from y) (by simp)) (by simp)
        | some u2 =>
          rcases hO b with y | ⟨ob, xs, y⟩
          · rw [q2] at y; cases y
          · obtain ⟨k1, _⟩ := hok b _ y
            obtain ⟨k2, _⟩ := hok2 b _ (un.frzs b ob _ y)
            rw [z] at k1
            rw [Option.some.inj k1]
            exact k2
  cases hk : K.lookup a with
  | some o =>
    have z := KX a o hk
    rw [ha] at z
    have eo := (Option.some.inj z).symm
    subst eo
    refine main (fun _ => none) (fun _ => .inl rfl) (.inr ⟨_, vs.toArray, _, hk, rfl, rfl, rfl, by rw [List.size_toArray, lenV]; exact hl, by simpa using rv⟩) (fun b u y => ?_) (fun b y => absurd rfl y) fun y => absurd rfl y
    have y2 : (none : Option HO) = some u := y
    cases y2
  | none =>
    have h1 : ∀ b, b = a → (if b = a then some (HO.frz { cls := .type "list", data := .seq vs.toArray } (.lst (ns.map V.int))) else none) = some (HO.frz { cls := .type "list", data := .seq vs.toArray } (.lst (ns.map V.int))) := fun b e => if_pos e
    have h2 : ∀ b, b ≠ a → (if b = a then some (HO.frz { cls := .type "list", data := .seq vs.toArray } (.lst (ns.map V.int))) else none) = none := fun b e => if_neg e
    refine main (fun b => if b = a then some (.frz { cls := .type "list", data := .seq vs.toArray } (.lst (ns.map V.int))) else none) (fun b => ?_) (.inl (.inr ⟨{ cls := .type "list", data := .seq vs.toArray }, if_pos rfl⟩)) (fun b u y => ?_) (fun b y => ?_) fun _ => hk
    · by_cases c : b = a
      · exact .inr ⟨_, _, h1 b c⟩
      · exact .inl (h2 b c)
    · by_cases c : b = a
      · have y2 := (h1 b c).symm.trans y
        rw [← Option.some.inj y2, c]
        exact ⟨ha, by rw [List.length_map]; exact hl, vs, _, rv, ha⟩
      · have y2 := (h2 b c).symm.trans y
        cases y2
    · by_cases c : b = a
      · exact c
      · exact absurd (h2 b c) y
theorem walk_G {l : PySem.W.OpenLaw} {n k : Nat} {q : Program} {loose : List Str} {XP : (Str → Option Value) → Heap → Prop} {YP : World → Heap → Prop} {d : DefRec} {x : Str}
    (hn : l.most = some n) (hn2 : n ≤ sizeLine) (hdf : d.params.defaults = []) (hr : Room k callerA)
    (F : ∀ (w : World) (mg : Str → Option Value) (fa : Addr) (h : Heap), YP w h → h.Ns mainGlobals mg → mg d.name = some (.ref fa) →
      ∃ (K : PySem.W.Frag) (fd : FuncData) (sp : Sp), K.In h ∧ (∀ (s : Shared) (u : Value), BindsTo s fd ⟨[u], []⟩ [(x, u)]) ∧
        (∀ (H : Hp) (a : Addr) (ns : List Int), ns.length ≤ n → Only H → SqL K H a (ns.map V.int) → sp [.ref a] H (fun v _ => v = .bl true) fun _ _ _ => False) ∧
        ∀ base : Heap, K.In base → base.Ns mainGlobals mg → FnG l.prog w K mg base k fa fd [x] sp) :
    PySem.W.WalkO q loose XP YP l.row.toRowW d [] (fun f vs => PySem.call f vs) := by
  refine Att.attach_call hn hdf fun w s0 t mg mb fa o pm cd doc a vs ns G Y ho hd hcd hmg hobj hints hlen hg => ?_
  obtain ⟨K, fd, sp, KX, hbd, hs, hF⟩ := F w mg fa _ Y G.T.g hmg
  exact law_callG KX G.T.g G.T.b G.T.builtins G.T.nolimit hg hobj hints (Nat.le_trans hlen hn2) hr hF hbd fun H hO hS => hs H a ns hlen hO hS
theorem sp_law {K : PySem.W.Frag} {mg : Str → Option Value} {spec : List PyData → Rs PyData} (h : ∀ ns : List Int, ns.length ≤ 63 → spec [.list (ns.map .int)] = .ok (.bool true)) (H : Hp) (a : Addr) (ns : List Int) (hn : ns.length ≤ 63) (hS : SqL K H a (ns.map V.int)) :
    spP ⟨K, mg⟩ 1 spec [.ref a] H (fun v _ => v = .bl true) fun _ _ _ => False := by
  have em : msk (fun _ => False) H = H := by
    funext b
    unfold msk
    rw [if_neg fun z => z]
  have ri : ∀ ms : List Int, RpAll K H (ms.map V.int) (ms.map PyData.int) := fun ms => by
    induction ms with
    | nil => exact .nil
    | cons m ms ih => exact .cons (.int m) ih
  refine ⟨fun _ => False, [.list (ns.map .int)], rfl, fun _ z => z.elim, ?_, ?_⟩
  · rw [em]
    refine .cons (.lst hS ?_ (ri ns)) .nil
    rw [List.length_map, sizeLine_eq]
    omega
  · rw [h ns hn]
    intro v H' _ r
    cases r
    rfl
end PP
set_option maxRecDepth 100000
namespace PP
open PySem PySem.Spec PyProof.Rows L2
def O2 (X : Cx) (f : Value → Value → Sem Value) (od : PyData → PyData → Option PyData) : Prop := ∃ r, OpR X f r ∧ S2 X.K r od
def O2n (X : Cx) (f : Value → Value → Sem Value) (od : PyData → PyData → Option (List PyData)) : Prop := ∃ r, OpR X f r ∧ S2n X.K r od
def O1 (X : Cx) (f : Value → Sem Value) (od : PyData → Option PyData) : Prop := ∃ r, UnR X f r ∧ S1 X.K r od
def ON (X : Cx) (f : Value) (od : List PyData → Option PyData) : Prop := ∃ r, CallR X f r ∧ SN X.K r od
def ONn (X : Cx) (f : Value) (od : List PyData → Option (List PyData)) : Prop := ∃ r, CallR X f r ∧ SNn X.K r od
section
variable {X : Cx} {f : Value → Value → Sem Value} {o o1 o2 : PyData → PyData → Option PyData}
theorem O2.or (h1 : O2 X f o1) (h2 : O2 X f o2) (h : ∀ a b d, o a b = some d → o1 a b = some d ∨ o2 a b = some d) : O2 X f o := by
  obtain ⟨r1, c1, s1⟩ := h1
  obtain ⟨r2, c2, s2⟩ := h2
  refine ⟨_, c1.or c2, fun P H v u a b d Q hP ra rb hd q => ?_⟩
  rcases h a b d hd with z | z
  · exact .inl (s1 P H v u a b d Q hP ra rb z q)
  · exact .inr (s2 P H v u a b d Q hP ra rb z q)
def iiD (C : Int → Int → Prop) [∀ i j, Decidable (C i j)] (g : Int → Int → PyData) : PyData → PyData → Option PyData
  | .int i, .int j => if C i j then some (g i j) else none
  | _, _ => none
theorem o2_ii {C' : Int → Int → Prop} {C : Int → Int → Prop} [∀ i j, Decidable (C i j)] {gv : Int → Int → V} {gd : Int → Int → PyData} (h : OpR X f (rI C' gv)) (hC : ∀ i j, C i j → C' i j) (hv : ∀ i j K H, Rp K H (gv i j) (gd i j)) : O2 X f (iiD C gd) := by
  refine ⟨_, h, fun P H v u a b d Q hP ra rb hd q => ?_⟩
  cases a <;> cases b <;> try (simp [iiD] at hd; done)
  rename_i i j
  unfold iiD at hd
  dsimp only at hd
  split at hd
  · cases hd
    rename_i c
    exact ⟨i, j, ra.int, rb.int, hC _ _ c, q _ _ (Same.refl _) (hv _ _ _ _)⟩
  · cases hd
theorem o2_ii0 {gv : Int → Int → V} {gd : Int → Int → PyData} (h : OpR X f (rI0 gv)) (hv : ∀ i j K H, Rp K H (gv i j) (gd i j)) : O2 X f (iiD (fun _ _ => True) gd) := by
  refine ⟨_, h, fun P H v u a b d Q hP ra rb hd q => ?_⟩
  cases a <;> cases b <;> try (simp [iiD] at hd; done)
  rename_i i j
  have e : gd i j = d := by simpa [iiD] using hd
  subst e
  exact ⟨i, j, ra.int, rb.int, q _ _ (Same.refl _) (hv _ _ _ _)⟩
def ssD (C : Str → Str → Prop) [∀ i j, Decidable (C i j)] (g : Str → Str → PyData) : PyData → PyData → Option PyData
  | .str i, .str j => if C i j then some (g i j) else none
  | _, _ => none
def ttD (g : List PyData → List PyData → Option PyData) : PyData → PyData → Option PyData
  | .tuple xs, .tuple ys => g xs ys
  | _, _ => none
theorem o2_sub : O2 X (binaryOp .Sub) (iiD (fun _ _ => True) fun i j => .int (i - j)) := o2_ii0 op_sub fun _ _ _ _ => .int _
def CMulD (i j : Int) : Prop := (-(2 ^ 64) < i ∧ i < 2 ^ 64) ∨ (-(2 ^ 64) < j ∧ j < 2 ^ 64)
instance : ∀ i j, Decidable (CMulD i j) := fun i j => inferInstanceAs (Decidable (_ ∨ _))
def CDivD (i j : Int) : Prop := j ≠ 0 ∧ j.natAbs < 1073741824
instance : ∀ i j, Decidable (CDivD i j) := fun i j => inferInstanceAs (Decidable (_ ∧ _))
theorem o2_mulI : O2 X (binaryOp .Mult) (iiD CMulD fun i j => .int (i * j)) := o2_ii op_mul (fun _ _ h => h) fun _ _ _ _ => .int _
theorem o2_mod : O2 X (binaryOp .Mod) (iiD (fun _ j => j ≠ 0) fun i j => .int (i.fmod j)) := o2_ii op_modN (fun _ _ h => h) fun _ _ _ _ => .int _
theorem o2_fdiv : O2 X (binaryOp .FloorDiv) (iiD CDivD fun i j => .int (i.fdiv j)) := o2_ii op_fdivN (fun _ _ h => h) fun _ _ _ _ => .int _
theorem o2_lt : O2 X (compareOp .Lt) (iiD (fun _ _ => True) fun i j => .bool (decide (i < j))) := o2_ii0 op_lt fun _ _ _ _ => .bl _
theorem o2_le : O2 X (compareOp .LtE) (iiD (fun _ _ => True) fun i j => .bool (decide (i ≤ j))) := o2_ii0 op_le fun _ _ _ _ => .bl _
theorem o2_gt : O2 X (compareOp .Gt) (iiD (fun _ _ => True) fun i j => .bool (decide (j < i))) := o2_ii0 op_gt fun _ _ _ _ => .bl _
theorem o2_ge : O2 X (compareOp .GtE) (iiD (fun _ _ => True) fun i j => .bool (decide (j ≤ i))) := o2_ii0 op_ge fun _ _ _ _ => .bl _
def addD : PyData → PyData → Option PyData
  | .int i, .int j => some (.int (i + j))
  | .str x, .str y => if x.length + y.length ≤ sizeLine then some (.str (x ++ y)) else none
  | .tuple xs, .tuple ys => if xs.length + ys.length ≤ sizeLine then some (.tuple (xs ++ ys)) else none
  | _, _ => none
theorem Rp.newT {K : PySem.W.Frag} {P : Addr → Prop} {H : Hp} {p : Addr} {ys : List V} {ds : List PyData} (hP : ∀ a, P a → H a ≠ none) (np : H p = none) (hl : ys.length ≤ sizeLine) (r : RpAll K (msk P H) ys ds) : Rp K (msk P (upd H p (.tup ys))) (.ref p) (.tuple ds) :=
  .tup (.inl (.inl (msk_some.mpr ⟨fun z => hP p z np, upd_same⟩))) hl (r.mono (msk_same (same_updN np)))
theorem Rp.newL {K : PySem.W.Frag} {P : Addr → Prop} {H : Hp} {p : Addr} {ys : List V} {ds : List PyData} (hP : ∀ a, P a → H a ≠ none) (np : H p = none) (hl : ys.length ≤ sizeLine) (r : RpAll K (msk P H) ys ds) : Rp K (msk P (upd H p (.lst ys))) (.ref p) (.list ds) :=
  .lst (.inl (.inl (msk_some.mpr ⟨fun z => hP p z np, upd_same⟩))) hl (r.mono (msk_same (same_updN np)))
theorem o2_addT : O2 X (binaryOp .Add) (ttD fun xs ys => if xs.length + ys.length ≤ sizeLine then some (.tuple (xs ++ ys)) else none) := by
  refine ⟨_, op_catA, fun P H v u a b d Q hP ra rb hd q => ?_⟩
  cases a <;> cases b <;> try (simp [ttD] at hd; done)
  rename_i xs ys
  unfold ttD at hd
  dsimp only at hd
  split at hd
  · cases hd
    rename_i c
    obtain ⟨a, vs, rfl, h1, h1', l1, r1⟩ := ra.tuple msk_sub
    obtain ⟨b, us, rfl, h2, h2', l2, r2⟩ := rb.tuple msk_sub
    have e1 := r1.length
    have e2 := r2.length
    refine ⟨a, b, vs, us, rfl, rfl, h1, h2, by omega, fun z => ?_, fun z w => ?_, fun z w p np => ?_⟩
    · subst z
      cases r1
      exact q _ _ (Same.refl _) (.tup h2' l2 r2)
    · subst w
      cases r2
      rw [List.append_nil] at q
      exact q _ _ (Same.refl _) (.tup h1' l1 r1)
    · exact q _ _ (same_updN np) (Rp.newT hP np (by rw [List.length_append]; omega) (r1.append r2))
  · cases hd
theorem o2_addS : O2 X (binaryOp .Add) (ssD (fun x y => x.length + y.length ≤ sizeLine) fun x y => .str (x ++ y)) := by
  refine ⟨_, op_add_str, fun P H v u a b d Q hP ra rb hd q => ?_⟩
  cases a <;> cases b <;> try (simp [ssD] at hd; done)
  rename_i x y
  unfold ssD at hd
  dsimp only at hd
  split at hd
  · cases hd
    rename_i c
    exact ⟨x, y, ra.str, rb.str, c, q _ _ (Same.refl _) (.str _)⟩
  · cases hd
theorem o2_add : O2 X (binaryOp .Add) addD := by
  refine (o2_ii0 op_add fun _ _ _ _ => .int _ : O2 X (binaryOp .Add) (iiD (fun _ _ => True) fun i j => .int (i + j))).or (o2_addS.or o2_addT (o := fun a b => match a, b with | .int _, .int _ => none | a, b => addD a b) ?_) ?_
  · intro a b d h
    cases a <;> cases b <;> first | (simp [addD] at h; done) | (left; exact h) | (right; exact h)
  · intro a b d h
    cases a <;> cases b <;> first | (simp [addD] at h; done) | (left; simpa [iiD, addD] using h) | (right; exact h)
def catD : PyData → PyData → Option (List PyData)
  | .list xs, .list ys => if xs.length + ys.length ≤ sizeLine then some (xs ++ ys) else none
  | _, _ => none
end
theorem list_addG (l b : Addr) (items items2 : Array Value) (n n2 : Nat) (dd dd2 : Option Addr) (sl sl2 : Array (Option Value)) (hc0 : items.size + items2.size ≤ sizeLine) :
    Meets (Builtin.«list.__add__» ⟨[.ref l, .ref b], []⟩) (fun _ R s => s.heap.get? l = some { cls := .type "list", dict := dd, data := .seq items n, slots := sl } ∧ s.heap.get? b = some { cls := .type "list", dict := dd2, data := .seq items2 n2, slots := sl2 } ∧ R (.ok (.ret (Value.ref s.heap.objs.size))) { s with heap := s.heap.push { cls := Value.type "list", data := Data.seq (items ++ items2) }, toks := s.toks }) :=
  .of_wp fun prog w A R s h => by
    obtain ⟨hp, g, d, tk, os⟩ := s
    obtain ⟨hl, hb, h⟩ := h
    have f1 := AutoSeq1.idx_int
    have f2 := AutoSeq1.sub_tuple_tuple
    have f3 := AutoSeq1.sub_list_list
    have f4 := AutoSeq1.sub_tuple_list
    have f5 := AutoSeq1.sub_list_tuple
    wp_walk using AutoSeq1.wpAny_loadPart' hl, AutoSeq1.wpAny_loadPart' hb
    exact ⟨_, rfl, h⟩
section
variable {X : Cx} {f : Value → Value → Sem Value} {o o1 o2 : PyData → PyData → Option PyData}
def rCatL (K : PySem.W.Frag) : R2 := fun x y H Q => ∃ l b xs zs, x = .ref l ∧ y = .ref b ∧ SqL K H l xs ∧ SqL K H b zs ∧ xs.length + zs.length ≤ sizeLine ∧ ∀ p, H p = none → Q (.ref p) (upd H p (.lst (xs ++ zs)))
theorem op_catL : OpR X (binaryOp .Add) (rCatL X.K) := by
  intro pins s σ H x y v u Q I rx ry h
  obtain ⟨l, b, xs, zs, rfl, rfl, hH, hB, hz, q⟩ := h
  cases rx
  cases ry
  obtain ⟨its, r, ⟨⟨cls, dd, data, sl⟩, n, e, hc, hdn, hd⟩, z⟩ := I.list hH
  obtain ⟨its2, r2, ⟨⟨cls2, dd2, data2, sl2⟩, n2, e2, hc2, hdn2, hd2⟩, z2⟩ := I.list hB
  simp only at hc hd hc2 hd2
  subst hc hd hc2 hd2
  have hl := r.length
  have hl2 := r2.length
  refine concat_meets ⟨_, e, rfl⟩ ⟨_, e2, rfl⟩ noFill_list_add seq_list_add PySem.F.slot_list_add PySem.F.entry_list_add (PySem.F.args_list_add_2 _ _)
    (list_addG l b its.toArray its2.toArray n n2 dd dd2 sl sl2 (by rw [List.size_toArray, List.size_toArray]; omega)) ⟨e, e2, ?_⟩
  have ea : its.toArray ++ its2.toArray = (its ++ its2).toArray := by simp
  rw [ea]
  exact ⟨.ref _, _, I.lnew (t' := s.toks) (r.append r2) (by rw [List.length_append]; omega), rfl, q _ I.fresh⟩
theorem o2n_cat : O2n X (binaryOp .Add) catD := by
  refine ⟨_, op_catL, fun P H v u a b d Q hP ra rb hd q => ?_⟩
  cases a <;> cases b <;> try (simp [catD] at hd; done)
  rename_i xs ys
  unfold catD at hd
  dsimp only at hd
  split at hd
  · cases hd
    obtain ⟨a, vs, rfl, h1, l1, r1⟩ := ra.list msk_sub
    obtain ⟨b, us, rfl, h2, l2, r2⟩ := rb.list msk_sub
    have e1 := r1.length
    have e2 := r2.length
    exact ⟨a, b, vs, us, rfl, rfl, h1, h2, by omega, fun p np => q p _ np (by rw [List.length_append]; omega) (r1.append r2)⟩
  · cases hd
end
theorem tuple_mul_same (l : Addr) (items : Array Value) (n : Nat) (dd : Option Addr) (sl : Array (Option Value)) (x : Int) (u : Tok) (c0 : (decide (x < -(2 ^ 63)) || decide (x ≥ 2 ^ 63)) = false) (c1 : (items.isEmpty || x == 1) = true) :
    Meets (Builtin.«tuple.__mul__» ⟨[.ref l, .int x u], []⟩) (fun _ R s => s.heap.get? l = some { cls := .type "tuple", dict := dd, data := .seq items n, slots := sl } ∧
      R (.ok (.ret (Value.ref l))) s) :=
  .of_wp fun prog w A R s h => by
    obtain ⟨hp, g, d, tk, os⟩ := s
    obtain ⟨hl, h⟩ := h
    have f1 := AutoSeq1.idx_int
    wp_walk using AutoSeq1.wpAny_loadPart' hl
    repeat (first
      | (refine wpAny_ite_false (decide_eq_false (by rw [c0]; exact Bool.false_ne_true)) ?_; wp_walk using AutoSeq1.wpAny_loadPart' hl)
      | (refine wpAny_ite_true (decide_eq_true c1) ?_; wp_walk using AutoSeq1.wpAny_loadPart' hl))
    exact ⟨_, rfl, h⟩
theorem tuple_mul_none (l : Addr) (items : Array Value) (n : Nat) (dd : Option Addr) (sl : Array (Option Value)) (x : Int) (u : Tok) (c0 : (decide (x < -(2 ^ 63)) || decide (x ≥ 2 ^ 63)) = false) (c1 : (items.isEmpty || x == 1) = false) (c2 : (decide (x ≤ 0) || items.isEmpty) = true) :
    Meets (Builtin.«tuple.__mul__» ⟨[.ref l, .int x u], []⟩) (fun _ R s => s.heap.get? l = some { cls := .type "tuple", dict := dd, data := .seq items n, slots := sl } ∧
      R (.ok (.ret (Value.ref s.heap.objs.size))) { s with heap := s.heap.push { cls := Value.type "tuple", data := Data.seq #[] }, toks := s.toks }) :=
  .of_wp fun prog w A R s h => by
    obtain ⟨hp, g, d, tk, os⟩ := s
    obtain ⟨hl, h⟩ := h
    have f1 := AutoSeq1.idx_int
    wp_walk using AutoSeq1.wpAny_loadPart' hl
    repeat (first
      | (refine wpAny_ite_false (decide_eq_false (by rw [c0]; exact Bool.false_ne_true)) ?_; wp_walk using AutoSeq1.wpAny_loadPart' hl)
      | (refine wpAny_ite_false (decide_eq_false (by rw [c1]; exact Bool.false_ne_true)) ?_; wp_walk using AutoSeq1.wpAny_loadPart' hl)
      | (refine wpAny_ite_true (decide_eq_true c2) ?_; wp_walk using AutoSeq1.wpAny_loadPart' hl))
    exact ⟨_, rfl, h⟩
end PP
set_option maxRecDepth 100000
namespace PP
open PySem PySem.Spec PyProof.Rows L2
section
variable {X : Cx}
def rRepA (K : PySem.W.Frag) : R2 := fun x y H Q => ∃ l k xs, x = .ref l ∧ y = .int k ∧ SqT K H l xs ∧ -(2 ^ 63) ≤ k ∧ k < 2 ^ 63 ∧ xs.length * k.toNat ≤ 1000000 ∧ ((xs = [] ∨ k = 1) → Q (.ref l) H) ∧ (xs ≠ [] → k ≠ 1 → ∀ p, H p = none → Q (.ref p) (upd H p (.tup (List.replicate k.toNat xs).flatten)))
theorem op_repA : OpR X (binaryOp .Mult) (rRepA X.K) := by
  intro pins s σ H x y v u Q I rx ry h
  obtain ⟨l, k, xs, rfl, rfl, hT, h1, h2, hz, q1, q2⟩ := h
  cases rx
  obtain ⟨t, rfl⟩ := ry
  obtain ⟨its, r, ⟨⟨cls, dd, data, sl⟩, ho, hc, n, hd⟩, hs⟩ := I.tuple hT
  simp only at hc hd
  subst hc hd
  have hle : its.length = xs.length := r.length.symm
  have c0 : (decide (k < -(2 ^ 63)) || decide (k ≥ 2 ^ 63)) = false := by
    rw [decide_eq_false (by omega), decide_eq_false (by omega)] <;> rfl
  have road : ∀ {Q' : Value → Shared → Prop} {q : Value} {s' : Shared} , wpAny (model X.prog X.w) X.A (call (.builtin "tuple.__mul__") [.ref l, .int k t]) Q' X.xe s → wpAny (model X.prog X.w) X.A (binaryOp .Mult (.ref l) (.int k t)) Q' X.xe s := fun {Q'} {q} {s'} z =>
    wpAny_binaryOp_repeat_ref (T := "tuple") (U := "int") (by decide) ⟨_, ho, rfl⟩ (fun s' => typeIs_int s' k t) noFill_tuple_mul F.fills_int_mul F.slot_int_rmul repeat_tuple F.slot_int_index.lookup
      (call_meets F.slot_int_rmul (typeIs_int s k t) F.entry_int_rmul (F.args_int_rmul_2 _ _) (int_rmul_tuple k t l its.toArray n dd sl)
        ⟨ho, rfl, ⟨_, ho, rfl⟩, z⟩)
  by_cases c : xs = [] ∨ k = 1
  · have c1 : (its.toArray.isEmpty || k == 1) = true := by
      rcases c with c | c
      · subst c; cases r; rfl
      · subst c; simp
    refine road (q := .none) (s' := s) (call_meets F.slot_tuple_mul ⟨_, ho, rfl⟩ F.entry_tuple_mul (F.args_tuple_mul_2 _ _) (tuple_mul_same l its.toArray n dd sl k t c0 c1) ⟨ho, ?_⟩)
    exact ⟨.ref l, H, I, rfl, q1 c⟩
  · have hne : xs ≠ [] := fun z => c (.inl z)
    have hk1 : k ≠ 1 := fun z => c (.inr z)
    have hn : its ≠ [] := fun e => hne (by
      rw [e] at hle
      exact List.eq_nil_of_length_eq_zero hle.symm)
    have hi : its.toArray.isEmpty = false := by
      cases its with
      | nil => exact absurd rfl hn
      | cons a b => rfl
    have c1 : (its.toArray.isEmpty || k == 1) = false := by
      rw [hi, Bool.false_or]
      exact beq_eq_false_iff_ne.mpr hk1
    by_cases ck : k ≤ 0
    · have c2 : (decide (k ≤ 0) || its.toArray.isEmpty) = true := by rw [decide_eq_true ck]; rfl
      refine road (q := .none) (s' := s) (call_meets F.slot_tuple_mul ⟨_, ho, rfl⟩ F.entry_tuple_mul (F.args_tuple_mul_2 _ _) (tuple_mul_none l its.toArray n dd sl k t c0 c1 c2) ⟨ho, ?_⟩)
      have e0 : (List.replicate k.toNat xs).flatten = [] := by
        rw [show k.toNat = 0 by omega]; rfl
      refine ⟨.ref s.heap.objs.size, _, I.laid (t' := s.toks) (o := .tup (List.replicate k.toNat xs).flatten) (fun b ob q => Heap.get?_push_of_some _ q) (Nat.le_refl _) ?_, rfl, q2 hne hk1 _ (I.hok.fresh (Nat.le_refl _))⟩
      rw [e0]
      exact ⟨Nat.zero_le _, [], .nil, IsTup.new _ _⟩
    · have c2 : (decide (k ≤ 0) || its.toArray.isEmpty) = false := by
        rw [hi, Bool.or_false]
        exact decide_eq_false ck
      have hsz0 : its.toArray.size = xs.length := by rw [List.size_toArray, hle]
      have hkn : k = ((k.toNat : Nat) : Int) := by omega
      have hm : ((its.toArray.size : Nat) : Int) * k ≤ 1000000 := by
        rw [hsz0, hkn]
        have z := Int.ofNat_le.mpr hz
        rw [Int.natCast_mul] at z
        exact z
      have flen : (List.replicate k.toNat its).flatten.length ≤ sizeLine := by
        rw [PyProof.Rows.lm_len_rep_flat, hle, sizeLine_eq, Nat.mul_comm]
        omega
      have c4 : Builtin.Tuple.tupleTooMany (((its.toArray.size : Nat) : Int) * k) = false := by
        unfold Builtin.Tuple.tupleTooMany
        rw [sizeLine_eq]
        exact decide_eq_false (by omega)
      refine road (q := .none) (s' := s) (call_meets F.slot_tuple_mul ⟨_, ho, rfl⟩ F.entry_tuple_mul (F.args_tuple_mul_2 _ _) (tuple_mulW l its.toArray n dd sl k t c0 c1 c2 (by omega) c4 (by rw [size_rep, List.size_toArray]; exact flen)) ⟨ho, ?_⟩)
      rw [size_rep]
      refine ⟨.ref s.heap.objs.size, _, I.laid (t' := s.toks) (o := .tup (List.replicate k.toNat xs).flatten) (fun b ob q => Heap.get?_push_of_some _ q) (Nat.le_refl _) ?_, rfl, q2 hne hk1 _ (I.hok.fresh (Nat.le_refl _))⟩
      exact ⟨by rw [PyProof.Rows.lm_len_rep_flat, ← hle, ← PyProof.Rows.lm_len_rep_flat]; exact flen, _, r.rep k.toNat, IsTup.new _ _⟩
def repTD : PyData → PyData → Option PyData
  | .tuple xs, .int k => if -(2 ^ 63) ≤ k ∧ k < 2 ^ 63 ∧ xs.length * k.toNat ≤ 1000000 then some (.tuple (List.replicate k.toNat xs).flatten) else none
  | _, _ => none
theorem o2_repT : O2 X (binaryOp .Mult) repTD := by
  refine ⟨_, op_repA, fun P H v u a b d Q hP ra rb hd q => ?_⟩
  cases a <;> cases b <;> try (simp [repTD] at hd; done)
  rename_i xs k
  unfold repTD at hd
  dsimp only at hd
  split at hd
  · cases hd
    rename_i c
    obtain ⟨h1, h2, h3⟩ := c
    obtain ⟨a, vs, rfl, e1, e1', l1, r1⟩ := ra.tuple msk_sub
    have el := r1.length
    refine ⟨a, k, vs, rfl, rb.int, e1, h1, h2, by rw [el]; exact h3, fun z => ?_, fun z w p np => ?_⟩
    · have e : (List.replicate k.toNat xs).flatten = xs := by
        rcases z with z | z
        · subst z; cases r1; simp
        · subst z; simp
      rw [e] at q
      exact q _ _ (Same.refl _) (.tup e1' l1 r1)
    · refine q _ _ (same_updN np) (Rp.newT hP np ?_ (r1.rep _))
      rw [PyProof.Rows.lm_len_rep_flat, el, sizeLine_eq, Nat.mul_comm]
      omega
  · cases hd
def mulD : PyData → PyData → Option PyData
  | .int i, .int j => if CMulD i j then some (.int (i * j)) else none
  | .tuple xs, .int k => repTD (.tuple xs) (.int k)
  | _, _ => none
theorem o2_mul : O2 X (binaryOp .Mult) mulD := by
  refine o2_mulI.or o2_repT ?_
  intro a b d h
  cases a <;> cases b <;> first | (simp [mulD] at h; done) | (left; exact h) | (right; exact h)
def rRepL (K : PySem.W.Frag) : R2 := fun x y H Q => ∃ l k xs, x = .ref l ∧ y = .int k ∧ SqL K H l xs ∧ -(2 ^ 63) ≤ k ∧ k < 2 ^ 63 ∧ xs.length * k.toNat ≤ sizeLine ∧
  ∀ p, H p = none → Q (.ref p) (upd H p (.lst (List.replicate k.toNat xs).flatten))
theorem op_repL : OpR X (binaryOp .Mult) (rRepL X.K) := by
  intro pins s σ H x y v u Q I rx ry h
  obtain ⟨l, k, xs, rfl, rfl, hH, h1, h2, hz, q⟩ := h
  cases rx
  obtain ⟨t, rfl⟩ := ry
  obtain ⟨its, r, ⟨⟨cls, dd, data, sl⟩, n, e, hc, hdn, hd⟩, z⟩ := I.list hH
  simp only at hc hd
  subst hc hd
  have hl := r.length
  have hlen : its.toArray.size * k.toNat ≤ sizeLine := by rw [List.size_toArray, ← hl]; exact hz
  have hcap : ¬ its.toArray.size * k.toNat > (2 ^ 63 - 1) / 8 := by
    have : (sizeLine : Nat) ≤ (2 ^ 63 - 1) / 8 := by decide
    omega
  have hfit : ¬ (!Builtin.List.listFitsIndex k) = true := by
    rw [fitsIndex_both h1 h2]
    exact Bool.false_ne_true
  have hlong : ¬ Builtin.List.listTooLong (its.toArray.size * k.toNat) = true := by
    rw [notLongL hlen]
    exact Bool.false_ne_true
  have hnew : List.foldl (fun x1 x2 => x1 ++ x2) #[] (List.replicate (if its.toArray.isEmpty = true then 0 else k.toNat) its.toArray) = (List.replicate k.toNat its).flatten.toArray := by
    rw [size_rep]
    cases its with
    | nil => simp
    | cons a r' => rw [if_neg (by simp)]
  refine wpAny_binaryOp_repeat_ref (T := "list") (U := "int") (by decide) ⟨_, e, rfl⟩ (fun s' => typeIs_int s' k t) noFill_list_mul F.fills_int_mul F.slot_int_rmul repeat_list F.slot_int_index.lookup
    (call_meets F.slot_int_rmul (typeIs_int s k t) F.entry_int_rmul (F.args_int_rmul_2 _ _) (lm_int_rmul_list_any k t l its.toArray n dd sl)
      ⟨e, rfl, ⟨_, e, rfl⟩, call_meets F.slot_list_mul ⟨_, e, rfl⟩ F.entry_list_mul (F.args_list_mul_2 _ _) (lm_list_mul_any l its.toArray n dd sl k t hfit hcap hlong) ⟨e, ?_⟩⟩)
  rw [hnew]
  exact ⟨.ref _, _, I.lnew (t' := s.toks) (r.rep k.toNat) (by rw [PyProof.Rows.lm_len_rep_flat, Nat.mul_comm]; exact hz), rfl, q _ I.fresh⟩
def repLD : PyData → PyData → Option (List PyData)
  | .list xs, .int k => if -(2 ^ 63) ≤ k ∧ k < 2 ^ 63 ∧ xs.length * k.toNat ≤ sizeLine then some (List.replicate k.toNat xs).flatten else none
  | _, _ => none
theorem o2n_rep : O2n X (binaryOp .Mult) repLD := by
  refine ⟨_, op_repL, fun P H v u a b d Q hP ra rb hd q => ?_⟩
  cases a <;> cases b <;> try (simp [repLD] at hd; done)
  rename_i xs k
  unfold repLD at hd
  dsimp only at hd
  split at hd
  · cases hd
    rename_i c
    obtain ⟨h1, h2, h3⟩ := c
    obtain ⟨a, vs, rfl, e1, l1, r1⟩ := ra.list msk_sub
    have el := r1.length
    exact ⟨a, k, vs, rfl, rb.int, e1, h1, h2, by rw [el]; exact h3, fun p np => q p _ np (by rw [PyProof.Rows.lm_len_rep_flat, Nat.mul_comm, el]; exact h3) (r1.rep _)⟩
  · cases hd
theorem RpT.dp {K : PySem.W.Frag} {M H : Hp} {v : V} {d : PyData} (r : RpT K M H v d) (s : Same M H) (c : d.canLay0 = true) : Dp K H v d := (r.full s).dp c
def eqD (a b : PyData) : Option PyData := if SeqAt.shaped a = true ∧ SeqAt.shaped b = true then some (.bool (PyData.eqv a b)) else none
def neD (a b : PyData) : Option PyData := if SeqAt.shaped a = true ∧ SeqAt.shaped b = true then some (.bool (!PyData.eqv a b)) else none
theorem o2_eq (hu : X.A.units + 64 < cLine) : O2 X (compareOp .Eq) eqD := by
  refine ⟨_, op_eqD hu, fun P H v u a b d Q hP ra rb hd q => ?_⟩
  unfold eqD at hd
  split at hd
  · cases hd
    rename_i c
    exact ⟨a, b, ra.dp msk_sub (SeqAt.canLay_of_shaped c.1), rb.dp msk_sub (SeqAt.canLay_of_shaped c.2), c.1, c.2, q _ _ (Same.refl _) (.bl _)⟩
  · cases hd
theorem o2_ne (hu : X.A.units + 64 < cLine) : O2 X (compareOp .NotEq) neD := by
  refine ⟨_, op_neD hu, fun P H v u a b d Q hP ra rb hd q => ?_⟩
  unfold neD at hd
  split at hd
  · cases hd
    rename_i c
    exact ⟨a, b, ra.dp msk_sub (SeqAt.canLay_of_shaped c.1), rb.dp msk_sub (SeqAt.canLay_of_shaped c.2), c.1, c.2, q _ _ (Same.refl _) (.bl _)⟩
  · cases hd
def itemsD : PyData → Option (List PyData)
  | .list xs => some xs
  | .tuple xs => some xs
  | _ => none
def inD (a b : PyData) : Option PyData :=
  match itemsD b with
  | some xs => if SeqAt.shaped a = true ∧ SeqAt.shaped b = true then some (.bool (xs.any fun z => PyData.eqv z a)) else none
  | none => none
def notInD (a b : PyData) : Option PyData :=
  match itemsD b with
  | some xs => if SeqAt.shaped a = true ∧ SeqAt.shaped b = true then some (.bool (!xs.any fun z => PyData.eqv z a)) else none
  | none => none
def rInS (K : PySem.W.Frag) : R2 := fun x y H Q => ∃ d e ds, Dp K H x d ∧ Dp K H y e ∧ itemsD e = some ds ∧ SeqAt.shaped d = true ∧ SeqAt.shaped e = true ∧ Q (.bl (ds.any fun z => PyData.eqv z d)) H
def rNotInS (K : PySem.W.Frag) : R2 := fun x y H Q => ∃ d e ds, Dp K H x d ∧ Dp K H y e ∧ itemsD e = some ds ∧ SeqAt.shaped d = true ∧ SeqAt.shaped e = true ∧ Q (.bl (!ds.any fun z => PyData.eqv z d)) H
theorem op_inS (hu : X.A.units + 65 < cLine) : OpR X (compareOp .In) (rInS X.K) := by
  intro pins s σ H x y v u Q I rx ry h
  obtain ⟨d, e, ds, hd, he, hi, sd, se, q⟩ := h
  obtain ⟨as, r1⟩ := Dp.reads I d x v hd rx
  obtain ⟨bs, r2⟩ := Dp.reads I e y u he ry
  cases e <;> try (simp [itemsD] at hi; done)
  · cases hi
    exact SeqAt.in_list_reads r2 r1 (SeqAt.canLay_of_shaped se) (SeqAt.canLay_of_shaped sd) (room_in_shaped sd hu) ⟨.bl _, H, I, rfl, q⟩
  · cases hi
    exact SeqAt.in_tuple_reads r2 r1 (SeqAt.canLay_of_shaped se) (SeqAt.canLay_of_shaped sd) (room_in_shaped sd hu) ⟨.bl _, H, I, rfl, q⟩
theorem op_notInS (hu : X.A.units + 65 < cLine) : OpR X (compareOp .NotIn) (rNotInS X.K) := by
  intro pins s σ H x y v u Q I rx ry h
  obtain ⟨d, e, ds, hd, he, hi, sd, se, q⟩ := h
  obtain ⟨as, r1⟩ := Dp.reads I d x v hd rx
  obtain ⟨bs, r2⟩ := Dp.reads I e y u he ry
  cases e <;> try (simp [itemsD] at hi; done)
  · cases hi
    exact SeqAt.notIn_list_reads r2 r1 (SeqAt.canLay_of_shaped se) (SeqAt.canLay_of_shaped sd) (room_in_shaped sd hu) ⟨.bl _, H, I, rfl, q⟩
  · cases hi
    exact SeqAt.notIn_tuple_reads r2 r1 (SeqAt.canLay_of_shaped se) (SeqAt.canLay_of_shaped sd) (room_in_shaped sd hu) ⟨.bl _, H, I, rfl, q⟩
theorem o2_in (hu : X.A.units + 65 < cLine) : O2 X (compareOp .In) inD := by
  refine ⟨_, op_inS hu, fun P H v u a b d Q hP ra rb hd q => ?_⟩
  unfold inD at hd
  split at hd
  · rename_i xs hi
    split at hd
    · cases hd
      rename_i c
      exact ⟨a, b, xs, ra.dp msk_sub (SeqAt.canLay_of_shaped c.1), rb.dp msk_sub (SeqAt.canLay_of_shaped c.2), hi, c.1, c.2, q _ _ (Same.refl _) (.bl _)⟩
    · cases hd
  · cases hd
theorem o2_notIn (hu : X.A.units + 65 < cLine) : O2 X (compareOp .NotIn) notInD := by
  refine ⟨_, op_notInS hu, fun P H v u a b d Q hP ra rb hd q => ?_⟩
  unfold notInD at hd
  split at hd
  · rename_i xs hi
    split at hd
    · cases hd
      rename_i c
      exact ⟨a, b, xs, ra.dp msk_sub (SeqAt.canLay_of_shaped c.1), rb.dp msk_sub (SeqAt.canLay_of_shaped c.2), hi, c.1, c.2, q _ _ (Same.refl _) (.bl _)⟩
    · cases hd
  · cases hd
def isNoneD : PyData → Bool
  | .none => true
  | _ => false
theorem Rp.isNon {K : PySem.W.Frag} {H : Hp} {v : V} {d : PyData} (r : Rp K H v d) : decide (v = .non) = isNoneD d := by
  cases r <;> simp [isNoneD]
def isD (a b : PyData) : Option PyData := if isNoneD b then some (.bool (isNoneD a)) else none
def isNotD (a b : PyData) : Option PyData := if isNoneD b then some (.bool (!isNoneD a)) else none
theorem isNoneD_eq {d : PyData} (h : isNoneD d = true) : d = .none := by cases d <;> simp [isNoneD] at h ⊢
theorem o2_is : O2 X (compareOp .Is) isD := by
  refine ⟨_, op_isN, fun P H v u a b d Q hP ra rb hd q => ?_⟩
  unfold isD at hd
  split at hd
  · cases hd
    rename_i c
    have := isNoneD_eq c
    subst this
    refine ⟨rb.non, ?_⟩
    rw [(ra.full msk_sub).isNon]
    exact q _ _ (Same.refl _) (.bl _)
  · cases hd
theorem o2_isNot : O2 X (compareOp .IsNot) isNotD := by
  refine ⟨_, op_notN, fun P H v u a b d Q hP ra rb hd q => ?_⟩
  unfold isNotD at hd
  split at hd
  · cases hd
    rename_i c
    have := isNoneD_eq c
    subst this
    refine ⟨rb.non, ?_⟩
    rw [(ra.full msk_sub).isNon]
    exact q _ _ (Same.refl _) (.bl _)
  · cases hd
def ixD : PyData → PyData → Option PyData
  | .list xs, .int i => atI xs i
  | .tuple xs, .int i => atI xs i
  | .str z, .int i => if z.length ≤ sizeLine then (atI z.cps.toList i).map fun c => .str ⟨#[c]⟩ else none
  | _, _ => none
def I2 (X : Cx) (od : PyData → PyData → Option PyData) : Prop := ∃ r, IxR X r ∧ S2 X.K r od
theorem RpAll.atI {K : PySem.W.Frag} {H : Hp} {vs : List V} {ds : List PyData} {i : Int} {d : PyData} (r : RpAll K H vs ds) (h : atI ds i = some d) : ∃ v, L2.atI vs i = some v ∧ Rp K H v d := by
  unfold L2.atI at h ⊢
  rw [r.length]
  cases q : ixN ds.length i with
  | none => rw [q] at h; cases h
  | some j =>
    rw [q] at h
    exact r.get h
theorem i2_ix : I2 X ixD := by
  refine ⟨_, ix_seq, fun P H v u a b d Q hP ra rb hd q => ?_⟩
  cases a <;> cases b <;> try (simp [ixD] at hd; done)
  · rename_i z i
    unfold ixD at hd
    dsimp only at hd
    split at hd
    · rename_i c
      cases q2 : atI z.cps.toList i with
      | none => rw [q2] at hd; cases hd
      | some c2 =>
        rw [q2] at hd
        cases hd
        exact .inr (.inr ⟨z, i, c2, ra.str, rb.int, c, q2, q _ _ (Same.refl _) (.str _)⟩)
    · cases hd
  · rename_i xs i
    obtain ⟨a, vs, rfl, e1, l1, r1⟩ := ra.list msk_sub
    obtain ⟨v, h1, h2⟩ := r1.atI (show atI xs i = some d from hd)
    exact .inl ⟨a, vs, i, v, rfl, rb.int, e1, h1, q _ _ (Same.refl _) h2⟩
  · rename_i xs i
    obtain ⟨a, vs, rfl, e1, e1', l1, r1⟩ := ra.tuple msk_sub
    obtain ⟨v, h1, h2⟩ := r1.atI (show atI xs i = some d from hd)
    exact .inr (.inl ⟨a, vs, i, v, rfl, rb.int, e1, h1, q _ _ (Same.refl _) h2⟩)
def negD : PyData → Option PyData
  | .int i => some (.int (-i))
  | _ => none
theorem o1_neg : O1 X (unaryOp .USub) negD := by
  refine ⟨_, un_neg, fun P H v a d Q hP ra hd q => ?_⟩
  cases a <;> try (simp [negD] at hd; done)
  rename_i i
  have e : PyData.int (-i) = d := by simpa [negD] using hd
  subst e
  exact ⟨i, ra.int, q _ _ (Same.refl _) (.int _)⟩
end
end PP
set_option maxRecDepth 100000
namespace PP
open PySem PySem.Spec PyProof.Rows L2
section
variable {X : Cx} {f : Value} {o o1 o2 : List PyData → Option PyData}
theorem ON.or (h1 : ON X f o1) (h2 : ON X f o2) (h : ∀ a d, o a = some d → o1 a = some d ∨ o2 a = some d) : ON X f o := by
  obtain ⟨r1, c1, s1⟩ := h1
  obtain ⟨r2, c2, s2⟩ := h2
  refine ⟨_, c1.or c2, fun P H vs as d Q hP ra hd q => ?_⟩
  rcases h as d hd with z | z
  · exact .inl (s1 P H vs as d Q hP ra z q)
  · exact .inr (s2 P H vs as d Q hP ra z q)
theorem pone {α β : Type} {R : α → β → Prop} {xs : List α} {b : β} (h : Paired R xs [b]) : ∃ a, xs = [a] ∧ R a b := by
  cases h with
  | cons h t => cases t; exact ⟨_, rfl, h⟩
theorem ptwo {α β : Type} {R : α → β → Prop} {xs : List α} {b c : β} (h : Paired R xs [b, c]) : ∃ a d, xs = [a, d] ∧ R a b ∧ R d c := by
  cases h with
  | cons h t => cases t with | cons h2 t2 => cases t2; exact ⟨_, _, rfl, h, h2⟩
def arg1 {α : Type} (g : PyData → Option α) : List PyData → Option α
  | [a] => g a
  | _ => none
def arg2 {α : Type} (g : PyData → PyData → Option α) : List PyData → Option α
  | [a, b] => g a b
  | _ => none
theorem arg1_of {α : Type} {g : PyData → Option α} {as : List PyData} {d : α} (h : arg1 g as = some d) : ∃ a, as = [a] ∧ g a = some d := by
  unfold arg1 at h
  split at h
  · exact ⟨_, rfl, h⟩
  · cases h
theorem arg2_of {α : Type} {g : PyData → PyData → Option α} {as : List PyData} {d : α} (h : arg2 g as = some d) : ∃ a b, as = [a, b] ∧ g a b = some d := by
  unfold arg2 at h
  split at h
  · exact ⟨_, _, rfl, h⟩
  · cases h
def lenD : PyData → Option PyData
  | .list xs => some (.int xs.length)
  | .tuple xs => some (.int xs.length)
  | .str z => if z.length ≤ sizeLine then some (.int z.length) else none
  | _ => none
theorem on_len : ON X (.builtin "len") (arg1 lenD) := by
  refine ⟨_, call_len, fun P H vs as d Q hP ra hd q => ?_⟩
  replace hd := arg1_of hd
  obtain ⟨a, rfl, hd⟩ := hd
  obtain ⟨v, rfl, r⟩ := pone ra
  cases a <;> try (simp [lenD] at hd; done)
  · rename_i z
    unfold lenD at hd
    dsimp only at hd
    split at hd
    · cases hd
      rename_i c
      rw [r.str]
      exact ⟨_, z.length, rfl, ⟨c, rfl⟩, q _ _ (Same.refl _) (.int _)⟩
    · cases hd
  · rename_i xs
    have e : PyData.int xs.length = d := by simpa [lenD] using hd
    subst e
    obtain ⟨a, vs, rfl, e1, l1, r1⟩ := r.list msk_sub
    refine ⟨_, vs.length, rfl, .inl ⟨vs, e1, rfl⟩, ?_⟩
    rw [r1.length]
    exact q _ _ (Same.refl _) (.int _)
  · rename_i xs
    have e : PyData.int xs.length = d := by simpa [lenD] using hd
    subst e
    obtain ⟨a, vs, rfl, e1, e1', l1, r1⟩ := r.tuple msk_sub
    refine ⟨_, vs.length, rfl, .inr ⟨vs, e1, rfl⟩, ?_⟩
    rw [r1.length]
    exact q _ _ (Same.refl _) (.int _)
def intoD : PyData → Option PyData
  | .int i => some (.int i)
  | .bool k => some (.int (if k then 1 else 0))
  | _ => none
theorem on_int : ON X (.type "int") (arg1 intoD) := by
  refine ⟨_, call_int1, fun P H vs as d Q hP ra hd q => ?_⟩
  replace hd := arg1_of hd
  obtain ⟨a, rfl, hd⟩ := hd
  obtain ⟨v, rfl, r⟩ := pone ra
  cases a <;> try (simp [intoD] at hd; done)
  · rename_i k
    have e : PyData.int (if k then 1 else 0) = d := Option.some.inj hd
    subst e
    rw [r.bl]
    exact .inr ⟨k, rfl, q _ _ (Same.refl _) (.int _)⟩
  · rename_i i
    have e : PyData.int i = d := Option.some.inj hd
    subst e
    rw [r.int]
    exact .inl ⟨i, rfl, q _ _ (Same.refl _) (.int _)⟩
def absD : PyData → Option PyData
  | .int i => some (.int (if i < 0 then -i else i))
  | _ => none
theorem on_abs : ON X (.builtin "abs") (arg1 absD) := by
  refine ⟨_, call_abs, fun P H vs as d Q hP ra hd q => ?_⟩
  replace hd := arg1_of hd
  obtain ⟨a, rfl, hd⟩ := hd
  obtain ⟨v, rfl, r⟩ := pone ra
  cases a <;> try (simp [absD] at hd; done)
  rename_i i
  have e : PyData.int (if i < 0 then -i else i) = d := Option.some.inj hd
  subst e
  rw [r.int]
  exact ⟨i, rfl, q _ _ (Same.refl _) (.int _)⟩
def max2D : PyData → PyData → Option PyData
  | .int i, .int j => some (.int (if j > i then j else i))
  | _, _ => none
def min2D : PyData → PyData → Option PyData
  | .int i, .int j => some (.int (if j < i then j else i))
  | _, _ => none
theorem on_max2 (hc : X.calm = true) : ON X (.builtin "max") (arg2 max2D) := by
  refine ⟨_, call_max2 hc, fun P H vs as d Q hP ra hd q => ?_⟩
  replace hd := arg2_of hd
  obtain ⟨a, b, rfl, hd⟩ := hd
  obtain ⟨v, u, rfl, r, r2⟩ := ptwo ra
  cases a <;> cases b <;> try (simp [max2D] at hd; done)
  rename_i i j
  have e : PyData.int (if j > i then j else i) = d := Option.some.inj hd
  subst e
  rw [r.int, r2.int]
  exact ⟨i, j, rfl, q _ _ (Same.refl _) (.int _)⟩
theorem on_min2 (hc : X.calm = true) : ON X (.builtin "min") (arg2 min2D) := by
  refine ⟨_, call_min2 hc, fun P H vs as d Q hP ra hd q => ?_⟩
  replace hd := arg2_of hd
  obtain ⟨a, b, rfl, hd⟩ := hd
  obtain ⟨v, u, rfl, r, r2⟩ := ptwo ra
  cases a <;> cases b <;> try (simp [min2D] at hd; done)
  rename_i i j
  have e : PyData.int (if j < i then j else i) = d := Option.some.inj hd
  subst e
  rw [r.int, r2.int]
  exact ⟨i, j, rfl, q _ _ (Same.refl _) (.int _)⟩
def tupD : PyData → Option PyData
  | .list xs => some (.tuple xs)
  | .tuple xs => some (.tuple xs)
  | _ => none
theorem on_tup : ON X (.type "tuple") (arg1 tupD) := by
  refine ⟨_, call_tuple_of, fun P H vs as d Q hP ra hd q => ?_⟩
  replace hd := arg1_of hd
  obtain ⟨a, rfl, hd⟩ := hd
  obtain ⟨v, rfl, r⟩ := pone ra
  cases a <;> try (simp [tupD] at hd; done)
  · rename_i xs
    have e : PyData.tuple xs = d := Option.some.inj hd
    subst e
    obtain ⟨a, vs, rfl, e1, l1, r1⟩ := r.list msk_sub
    exact ⟨a, vs, rfl, .inl ⟨e1, fun p np => q _ _ (same_updN np) (Rp.newT hP np l1 r1)⟩⟩
  · rename_i xs
    have e : PyData.tuple xs = d := Option.some.inj hd
    subst e
    obtain ⟨a, vs, rfl, e1, e1', l1, r1⟩ := r.tuple msk_sub
    exact ⟨a, vs, rfl, .inr ⟨e1, q _ _ (Same.refl _) (.tup e1' l1 r1)⟩⟩
theorem onn_list : ONn X (.type "list") (arg1 itemsD) := by
  refine ⟨_, call_list_of, fun P H vs as d Q hP ra hd q => ?_⟩
  replace hd := arg1_of hd
  obtain ⟨a, rfl, hd⟩ := hd
  obtain ⟨v, rfl, r⟩ := pone ra
  cases a <;> try (simp [itemsD] at hd; done)
  · rename_i xs
    have e : xs = d := Option.some.inj hd
    subst e
    obtain ⟨a, vs, rfl, e1, l1, r1⟩ := r.list msk_sub
    exact ⟨a, vs, rfl, .inl e1, fun p np => q _ _ np l1 r1⟩
  · rename_i xs
    have e : xs = d := Option.some.inj hd
    subst e
    obtain ⟨a, vs, rfl, e1, e1', l1, r1⟩ := r.tuple msk_sub
    exact ⟨a, vs, rfl, .inr e1, fun p np => q _ _ np l1 r1⟩
def intsD : List PyData → Option (List Int)
  | [] => some []
  | .int i :: xs => (intsD xs).map (i :: ·)
  | _ => none
theorem intsD_map : ∀ ns : List Int, intsD (ns.map .int) = some ns
  | [] => rfl
  | n :: ns => by rw [List.map_cons]; unfold intsD; rw [intsD_map ns]; rfl
theorem intsD_of : ∀ {xs : List PyData} {ns : List Int}, intsD xs = some ns → xs = ns.map .int
  | [], _, h => by cases h; rfl
  | x :: xs, ns, h => by
    cases x <;> try (simp [intsD] at h; done)
    unfold intsD at h
    cases q : intsD xs with
    | none => rw [q] at h; cases h
    | some ms =>
      rw [q] at h
      cases h
      rw [intsD_of q, List.map_cons]
theorem RpAll.ints {K : PySem.W.Frag} {H : Hp} : ∀ {vs : List V} {ns : List Int}, RpAll K H vs (ns.map .int) → vs = ns.map V.int
  | _, [], h => by cases h; rfl
  | _, n :: ns, h => by
    rw [List.map_cons] at h
    cases h with
    | cons h t => cases h; rw [RpAll.ints t, List.map_cons]
def sumD (a : PyData) : Option PyData := ((itemsD a).bind intsD).map fun ns => .int ns.sum
def rSumA (K : PySem.W.Frag) : List V → Hp → VK → Prop := fun vs H Q => ∃ (a : Addr) (ns : List Int), vs = [V.ref a] ∧ (SqL K H a (ns.map V.int) ∨ SqT K H a (ns.map V.int)) ∧ Q (.int ns.sum) H
theorem cr_sumA (hc : X.calm = true) : CallR X (.builtin "sum") (rSumA X.K) := by
  intro pins s σ H vs us Q I r h
  obtain ⟨a, ns, rfl, hs, q⟩ := h
  rcases hs with hs | hs
  · obtain ⟨its, rv, hl, _⟩ := I.list hs
    rw [Vals.ref1 r]
    exact sum_raw (I.ok.hd hc) hl.isList rv.ints fun h' tk t' hk => ⟨.int _, H, I.kept hk, ⟨_, rfl⟩, q⟩
  · obtain ⟨its, rv, hl, _⟩ := I.tuple hs
    rw [Vals.ref1 r]
    have hi := rv.ints
    obtain ⟨xs, e⟩ := hi.allInts.items
    have hn : numsOf (intItems xs).toList = ns := by rw [← e]; exact hi.numsOf
    rw [nums_intItems] at hn
    rw [e] at hl
    refine PySem.W.ktm_sumG (I.ok.hd hc) hl fun h' tk t' hk => ?_
    rw [preSum_eq, List.take_of_length_le (by simp), hn]
    exact ⟨.int _, H, I.kept hk, ⟨_, rfl⟩, q⟩
theorem on_sum (hc : X.calm = true) : ON X (.builtin "sum") (arg1 sumD) := by
  refine ⟨_, cr_sumA hc, fun P H vs as d Q hP ra hd q => ?_⟩
  replace hd := arg1_of hd
  obtain ⟨a, rfl, hd⟩ := hd
  obtain ⟨v, rfl, r⟩ := pone ra
  unfold sumD at hd
  cases q1 : (itemsD a).bind intsD with
  | none => rw [q1] at hd; cases hd
  | some ns =>
    rw [q1] at hd
    have e : PyData.int ns.sum = d := Option.some.inj hd
    subst e
    obtain ⟨xs, hx, hn⟩ := Option.bind_eq_some_iff.mp q1
    have ex := intsD_of hn
    subst ex
    cases a <;> try (simp [itemsD] at hx; done)
    · cases hx
      obtain ⟨a, vs, rfl, e1, l1, r1⟩ := r.list msk_sub
      rw [r1.ints] at e1
      exact ⟨a, ns, rfl, .inl e1, q _ _ (Same.refl _) (.int _)⟩
    · cases hx
      obtain ⟨a, vs, rfl, e1, e1', l1, r1⟩ := r.tuple msk_sub
      rw [r1.ints] at e1
      exact ⟨a, ns, rfl, .inr e1, q _ _ (Same.refl _) (.int _)⟩
def truI : PyData → Option Bool
  | .bool b => some b
  | .int i => some (i != 0)
  | .none => some false
  | _ => none
def truV' : V → Bool
  | .bl b => b
  | .int i => i != 0
  | _ => false
def okV : V → Bool
  | .bl _ => true
  | .int _ => true
  | .non => true
  | _ => false
def truIs : List PyData → Option (List Bool)
  | [] => some []
  | x :: xs => (truI x).bind fun b => (truIs xs).map (b :: ·)
def allD : PyData → Option PyData
  | .list xs => (truIs xs).map fun bs => .bool (bs.all id)
  | _ => none
def anyD : PyData → Option PyData
  | .list xs => (truIs xs).map fun bs => .bool (bs.any id)
  | _ => none
theorem pgetV {α β : Type} {R : α → β → Prop} : ∀ {xs : List α} {ys : List β} {i : Nat} {y : β}, Paired R xs ys → ys[i]? = some y → ∃ x, xs[i]? = some x ∧ R x y
  | _, _, _, _, .nil, e => by simp at e
  | _, _, 0, _, .cons h _, e => by simp at e; subst e; exact ⟨_, rfl, h⟩
  | _, _, i + 1, _, .cons _ t, e => by
    obtain ⟨v, h1, h2⟩ := pgetV (i := i) t (by simpa using e)
    exact ⟨v, by simpa using h1, h2⟩
theorem truth_vals {prog : Program} {w : World} {A : Around} : ∀ {xs : List V} {its : List Value}, Vals xs its → (∀ x ∈ xs, okV x = true) → TruthOf prog w A (fun i v => its.toArray[i]? = some v) (fun i => (xs.map truV').getD i false) := fun {xs its} r ok i v s Q E hv hq => by
  have hv' : its[i]? = some v := by simpa using hv
  obtain ⟨x, hx, rx⟩ := pgetV r hv'
  have hg : (xs.map truV').getD i false = truV' x := by rw [List.getD_eq_getElem?_getD, List.getElem?_map, hx] <;> rfl
  have hq' : Q ((xs.map truV').getD i false) s := hq
  rw [hg] at hq'
  have o := ok x (List.mem_of_getElem? hx)
  cases x with
  | bl b => cases rx; exact wpAny_truthy_bool hq'
  | int j => obtain ⟨t, rfl⟩ := rx; exact PySem.P.truthy_int hq'
  | non => cases rx; exact fun _ _ _ => hq'
  | _ => cases o
theorem all_range' : ∀ bs : List Bool, (List.range bs.length).all (fun i => bs.getD i false) = bs.all id := L2.all_range
def rAllA (K : PySem.W.Frag) : List V → Hp → VK → Prop := fun vs H Q => ∃ (a : Addr) (xs : List V), vs = [V.ref a] ∧ SqL K H a xs ∧ (∀ x ∈ xs, okV x = true) ∧ Q (.bl ((xs.map truV').all id)) H
def rAnyA (K : PySem.W.Frag) : List V → Hp → VK → Prop := fun vs H Q => ∃ (a : Addr) (xs : List V), vs = [V.ref a] ∧ SqL K H a xs ∧ (∀ x ∈ xs, okV x = true) ∧ Q (.bl ((xs.map truV').any id)) H
theorem cr_anyA (hc : X.calm = true) : CallR X (.builtin "any") (rAnyA X.K) := by
  intro pins s σ H vs us Q I r h
  obtain ⟨a, xs, rfl, hs, ok, q⟩ := h
  obtain ⟨its, rv, hl, _⟩ := I.list hs
  rw [Vals.ref1 r]
  refine call_any_walk (iter_any hl.isList fun s₂ e2 st hne => ?_)
  subst e2
  refine ⟨_, _, _, _, _, _, _, rfl, Walks.list (A := X.A.in1) (I.ok.hd hc) _ a hne its.toArray, st, truth_vals rv ok, fun h' tk hk => ?_⟩
  refine ⟨.bl _, H, I.kept fun b o eo => hk b o (fun hmem => ?_) (Heap.get?_push_of_some _ eo), ?_, q⟩
  · rcases List.mem_cons.mp hmem with e1 | hmem
    · exact absurd (e1 ▸ Heap.lt_size eo) (Nat.lt_irrefl _)
    · cases hmem
  · show Value.bool _ = Value.bool _
    rw [← L2.any_range, List.size_toArray, ← rv.length, List.length_map]
theorem cr_allA (hc : X.calm = true) : CallR X (.builtin "all") (rAllA X.K) := by
  intro pins s σ H vs us Q I r h
  obtain ⟨a, xs, rfl, hs, ok, q⟩ := h
  obtain ⟨its, rv, hl, _⟩ := I.list hs
  rw [Vals.ref1 r]
  refine call_all_walk (iter_any hl.isList fun s₂ e2 st hne => ?_)
  subst e2
  refine ⟨_, _, _, _, _, _, _, rfl, Walks.list (A := X.A.in1) (I.ok.hd hc) _ a hne its.toArray, st, truth_vals rv ok, fun h' tk hk => ?_⟩
  refine ⟨.bl _, H, I.kept fun b o eo => hk b o (fun hmem => ?_) (Heap.get?_push_of_some _ eo), ?_, q⟩
  · rcases List.mem_cons.mp hmem with e1 | hmem
    · exact absurd (e1 ▸ Heap.lt_size eo) (Nat.lt_irrefl _)
    · cases hmem
  · show Value.bool _ = Value.bool _
    rw [← L2.all_range, List.size_toArray, ← rv.length, List.length_map]
theorem truIs_of {K : PySem.W.Frag} {H : Hp} : ∀ {vs : List V} {ds : List PyData} {bs : List Bool}, RpAll K H vs ds → truIs ds = some bs → (∀ x ∈ vs, okV x = true) ∧ vs.map truV' = bs
  | _, _, _, .nil, h => by
    cases h
    exact ⟨fun x hx => (List.not_mem_nil hx).elim, rfl⟩
  | _, _, _, .cons (v := v) (d := d) h t, e => by
    unfold truIs at e
    obtain ⟨b, e1, e2⟩ := Option.bind_eq_some_iff.mp e
    obtain ⟨cs, e3, e4⟩ := Option.map_eq_some_iff.mp e2
    obtain ⟨k1, k2⟩ := truIs_of t e3
    subst e4
    have hd : okV v = true ∧ truV' v = b := by
      cases h <;> first | (simp [truI] at e1; done) | (cases e1; exact ⟨rfl, rfl⟩)
    refine ⟨fun x hx => ?_, by rw [List.map_cons, hd.2, k2]⟩
    rcases List.mem_cons.mp hx with z | z
    · subst z; exact hd.1
    · exact k1 x z
theorem on_all (hc : X.calm = true) : ON X (.builtin "all") (arg1 allD) := by
  refine ⟨_, cr_allA hc, fun P H vs as d Q hP ra hd q => ?_⟩
  replace hd := arg1_of hd
  obtain ⟨a, rfl, hd⟩ := hd
  obtain ⟨v, rfl, r⟩ := pone ra
  cases a <;> try (simp [allD] at hd; done)
  rename_i xs
  obtain ⟨bs, e1, e2⟩ := Option.map_eq_some_iff.mp hd
  subst e2
  obtain ⟨a, vs, rfl, e3, l1, r1⟩ := r.list msk_sub
  obtain ⟨k1, k2⟩ := truIs_of r1 e1
  refine ⟨a, vs, rfl, e3, k1, ?_⟩
  rw [k2]
  exact q _ _ (Same.refl _) (.bl _)
theorem on_any (hc : X.calm = true) : ON X (.builtin "any") (arg1 anyD) := by
  refine ⟨_, cr_anyA hc, fun P H vs as d Q hP ra hd q => ?_⟩
  replace hd := arg1_of hd
  obtain ⟨a, rfl, hd⟩ := hd
  obtain ⟨v, rfl, r⟩ := pone ra
  cases a <;> try (simp [anyD] at hd; done)
  rename_i xs
  obtain ⟨bs, e1, e2⟩ := Option.map_eq_some_iff.mp hd
  subst e2
  obtain ⟨a, vs, rfl, e3, l1, r1⟩ := r.list msk_sub
  obtain ⟨k1, k2⟩ := truIs_of r1 e1
  refine ⟨a, vs, rfl, e3, k1, ?_⟩
  rw [k2]
  exact q _ _ (Same.refl _) (.bl _)
def reprD (d : PyData) : Option PyData := if SeqAt.shaped d = true ∧ d.showable = true ∧ d.shown.length ≤ sizeLine then some (.str d.shown) else none
def rRepr (K : PySem.W.Frag) : List V → Hp → VK → Prop := fun vs H Q => ∃ v d, vs = [v] ∧ Dp K H v d ∧ SeqAt.shaped d = true ∧ d.showable = true ∧ d.shown.length ≤ sizeLine ∧ Q (.str d.shown) H
theorem cr_repr (gd : X.A.guards = some []) (hu : X.A.units + 65 < cLine) : CallR X (.builtin "repr") (rRepr X.K) := by
  intro pins s σ H vs us Q I r h
  obtain ⟨v, d, rfl, hd, hs, hsh, hl, q⟩ := h
  obtain ⟨u, rfl, ru⟩ := vals1 r
  obtain ⟨as, rd⟩ := Dp.reads I d v u hd ru
  have hdp := SeqAt.depth_of_shaped hs
  have big : ∀ {a : Addr}, Reads s.heap (.ref a) d as → wpAny (model X.prog X.w) X.A (call (.builtin "repr") [.ref a]) (EP X pins σ Q) X.xe s := fun {a} z =>
    repr_of_reads' z hsh (fun z => by rw [PyData.hasDict_of_canLay d (SeqAt.canLay_of_shaped hs)] at z; cases z) gd (by omega) (fun _ _ e => e) (fun h' u tk k => ⟨.str _, H, I.kept k, ⟨_, rfl⟩, q⟩) hl
  cases d with
  | none => cases rd; exact PySem.P.repr_of_none ⟨.str _, H, I.tok _, ⟨_, rfl⟩, q⟩
  | bool b => cases rd; exact PySem.P.repr_of_bool ⟨.str _, H, I.tok _, ⟨_, rfl⟩, q⟩
  | int i => cases rd; exact PySem.P.repr_of_int (of_decide_eq_true hsh) ⟨.str _, H, I.tok _, ⟨_, rfl⟩, q⟩
  | str x => cases rd; exact PySem.P.repr_of_str ⟨.str _, H, I.tok _, ⟨_, rfl⟩, q⟩ hl
  | list xs =>
    cases hd with
    | lst h1 h2 => cases ru; exact big rd
  | tuple xs =>
    cases hd with
    | tup h1 h2 => cases ru; exact big rd
  | dict xs => cases hd
theorem on_repr (gd : X.A.guards = some []) (hu : X.A.units + 65 < cLine) : ON X (.builtin "repr") (arg1 reprD) := by
  refine ⟨_, cr_repr gd hu, fun P H vs as d Q hP ra hd q => ?_⟩
  replace hd := arg1_of hd
  obtain ⟨a, rfl, hd⟩ := hd
  obtain ⟨v, rfl, r⟩ := pone ra
  unfold reprD at hd
  split at hd
  · cases hd
    rename_i c
    exact ⟨v, a, rfl, r.dp msk_sub (SeqAt.canLay_of_shaped c.1), c.1, c.2.1, c.2.2, q _ _ (Same.refl _) (.str _)⟩
  · cases hd
def OM (X : Cx) (id : String) (op : PyData → List PyData → Option PyData) : Prop := ∃ r, MtR X id r ∧ SM X.K r op
def idxD (a : PyData) (as : List PyData) : Option PyData :=
  match a, as with
  | .list xs, [d] => if SeqAt.shaped (.list xs) = true ∧ SeqAt.shaped d = true ∧ xs.findIdx (fun z => PyData.eqv z d) < xs.length then some (.int (xs.findIdx fun z => PyData.eqv z d)) else none
  | _, _ => none
theorem om_index (hu : X.A.units + 65 < cLine) : OM X "list.index" idxD := by
  refine ⟨_, mt_indexD hu, fun P H v vs a as d Q hP ra rs hd q => ?_⟩
  unfold idxD at hd
  split at hd
  · rename_i xs y
    split at hd
    · cases hd
      rename_i c
      obtain ⟨u, rfl, r⟩ := pone rs
      have dl := ra.dp msk_sub (SeqAt.canLay_of_shaped c.1)
      obtain ⟨p, ys, rfl, _⟩ := ra.list msk_sub
      refine ⟨p, u, y, xs, xs.findIdx (fun z => PyData.eqv z y), xs[xs.findIdx (fun z => PyData.eqv z y)]'c.2.2, rfl, rfl, dl, r.dp msk_sub (SeqAt.canLay_of_shaped c.2.1), c.1, c.2.1, List.getElem?_eq_getElem _, List.findIdx_getElem (w := c.2.2), fun m z' hm hz' => ?_, q _ _ (Same.refl _) (.int _)⟩
      obtain ⟨hm', hz⟩ := List.getElem?_eq_some_iff.mp hz'
      subst hz
      have := List.not_of_lt_findIdx hm
      simpa using this
    · cases hd
  · cases hd
def cntD (a : PyData) (as : List PyData) : Option PyData :=
  match a, as with
  | .list xs, [d] => if SeqAt.shaped (.list xs) = true ∧ SeqAt.shaped d = true then some (.int (xs.countP fun z => PyData.eqv z d)) else none
  | _, _ => none
def rCntD (K : PySem.W.Frag) : V → List V → Hp → VK → Prop := fun x xs H Q => ∃ (a : Addr) (y : V) (d : PyData) (ds : List PyData), x = V.ref a ∧ xs = [y] ∧ Dp K H (V.ref a) (.list ds) ∧ Dp K H y d ∧
  SeqAt.shaped (.list ds) = true ∧ SeqAt.shaped d = true ∧ Q (.int (ds.countP fun z => PyData.eqv z d : Nat)) H
theorem mt_countD (hu : X.A.units + 65 < cLine) : MtR X "list.count" (rCntD X.K) := by
  intro pins s σ H x xs v us Q I rx rxs h
  obtain ⟨a, y, d, ds, rfl, rfl, hl, hy, sl, sd, q⟩ := h
  cases rx
  obtain ⟨uy, rfl, ry⟩ := rxs.one
  obtain ⟨bs, r1⟩ := Dp.reads I d y uy hy ry
  have hxs : PyData.canLayAll0 ds = true := SeqAt.canLay_of_shaped sl
  have hroom : X.A.units + 1 + min (PyData.depthAll ds) d.depth < cLine := room_in_shaped sd hu
  cases hl with
  | lst hs ha =>
    obtain ⟨its, rv, ⟨⟨cls, dd, data, sls⟩, n, ho, hc, hdn, hdt⟩, hlen⟩ := I.list hs
    simp only at hc hdt
    subst hc hdt
    obtain ⟨as, h4⟩ := Dp.readsAll I ds _ its ha rv
    have hmap : its.map (SeqAt.readOf s.heap) = ds := SeqAt.readsAll_map ds its as hxs h4
    refine call_meets PySem.F.slot_list_count ⟨_, ho, rfl⟩ PySem.F.entry_list_count (PySem.F.args_list_count_2 _ _)
      (SeqAt.list_countAt a its.toArray n dd sls uy (fun u => PyData.eqv (SeqAt.readOf s.heap u) d)) ⟨ho, SeqAt.items_eqAt (vs := its.toArray) (show ReadsAll s.heap its.toArray.toList ds as from h4) r1 hxs (SeqAt.canLay_of_shaped sd) hroom, ?_⟩
    have ec : its.toArray.toList.countP (fun u => PyData.eqv (SeqAt.readOf s.heap u) d) = ds.countP fun z => PyData.eqv z d := by
      rw [← hmap, List.countP_map]
      rfl
    refine ⟨.int _, H, I.tok _, ⟨s.toks, ?_⟩, q⟩
    show Value.int ((its.toArray.toList.countP _ : Nat) : Int) s.toks = Value.int _ s.toks
    rw [ec]
theorem om_count (hu : X.A.units + 65 < cLine) : OM X "list.count" cntD := by
  refine ⟨_, mt_countD hu, fun P H v vs a as d Q hP ra rs hd q => ?_⟩
  unfold cntD at hd
  split at hd
  · rename_i xs y
    split at hd
    · cases hd
      rename_i c
      obtain ⟨u, rfl, r⟩ := pone rs
      have dl := ra.dp msk_sub (SeqAt.canLay_of_shaped c.1)
      obtain ⟨p, ys, rfl, _⟩ := ra.list msk_sub
      exact ⟨p, u, y, xs, rfl, rfl, dl, r.dp msk_sub (SeqAt.canLay_of_shaped c.2), c.1, c.2, q _ _ (Same.refl _) (.int _)⟩
    · cases hd
  · cases hd
end
end PP
set_option maxRecDepth 100000
namespace PP
open PySem PySem.Spec PyProof.Rows L2
section
variable {X : Cx}
def OS (X : Cx) (op : PyData → Option Int → Option Int → Option PyData) : Prop := ∃ r, SlR X r ∧ SS X.K r op
def OSn (X : Cx) (op : PyData → Option Int → Option Int → Option (List PyData)) : Prop := ∃ r, SlR X r ∧ SSn X.K r op
def cutD (xs : List PyData) (lo hi : Option Int) : List PyData := (xs.drop (HT.sIx xs.length 0 lo)).take (HT.sIx xs.length xs.length hi - HT.sIx xs.length 0 lo)
def slTD (a : PyData) (lo hi : Option Int) : Option PyData :=
  match a with
  | .tuple xs => some (.tuple (cutD xs lo hi))
  | _ => none
def slLD (a : PyData) (lo hi : Option Int) : Option (List PyData) :=
  match a with
  | .list xs => some (cutD xs lo hi)
  | _ => none
theorem RpAll.cut {K : PySem.W.Frag} {H : Hp} {vs : List V} {ds : List PyData} (r : RpAll K H vs ds) (lo hi : Option Int) : RpAll K H (cutV vs lo hi) (cutD ds lo hi) := by
  unfold cutV cutD
  rw [r.length]
  exact (r.drop _).take _
theorem cut_whole (xs : List PyData) (lo hi : Option Int) (h : HT.sIx xs.length 0 lo = 0 ∧ HT.sIx xs.length xs.length hi = xs.length) : cutD xs lo hi = xs := by
  unfold cutD
  rw [h.1, h.2, List.drop_zero, Nat.sub_zero, List.take_length]
theorem os_tup : OS X slTD := by
  refine ⟨_, sl_tupA, fun P H v a d l u Q hP ra hd q => ?_⟩
  cases a <;> try (simp [slTD] at hd; done)
  rename_i xs
  have e : PyData.tuple (cutD xs l u) = d := Option.some.inj hd
  subst e
  obtain ⟨a, vs, rfl, e1, e1', l1, r1⟩ := ra.tuple msk_sub
  refine ⟨a, vs, rfl, e1, fun z => ?_, fun z p np => ?_⟩
  · rw [r1.length] at z
    rw [cut_whole xs l u z] at q
    exact q _ _ (Same.refl _) (.tup e1' l1 r1)
  · exact q _ _ (same_updN np) (Rp.newT hP np (Nat.le_trans (cutV_length _ _ _) l1) (r1.cut l u))
theorem osn_list : OSn X slLD := by
  refine ⟨_, sl_list, fun P H v a d l u Q hP ra hd q => ?_⟩
  cases a <;> try (simp [slLD] at hd; done)
  rename_i xs
  have e : cutD xs l u = d := Option.some.inj hd
  subst e
  obtain ⟨a, vs, rfl, e1, l1, r1⟩ := ra.list msk_sub
  exact ⟨a, vs, rfl, e1, fun p np => q p _ np (Nat.le_trans (cutV_length _ _ _) l1) (r1.cut l u)⟩
theorem fm_congr {α β : Type} {f g : α → Option β} : ∀ {l : List α}, (∀ x ∈ l, f x = g x) → l.filterMap f = l.filterMap g
  | [], _ => rfl
  | x :: l, h => by rw [List.filterMap_cons, List.filterMap_cons, h x List.mem_cons_self, fm_congr fun y hy => h y (List.mem_cons_of_mem _ hy)]
theorem rev_pick (xs : Array Value) : ((List.range xs.size).filterMap fun (k : Nat) => xs[(((xs.size : Int) - 1) + (k : Int) * (-1)).toNat]?).toArray = xs.toList.reverse.toArray := by
  have h := PySem.W.krv_pick xs
  unfold slicePick at h
  rw [PySem.W.krv_bounds] at h
  have h' : ((sliceRange ((xs.size : Int) - 1) (-1) (-1)).filterMap (xs[·]?)).toArray = xs.toList.reverse.toArray := h
  rw [PySem.W.krv_sliceRange, List.filterMap_map] at h'
  rw [← h']
  refine congrArg List.toArray (fm_congr ?_)
  intro k hk
  have := List.mem_range.mp hk
  show xs[_]? = xs[xs.size - 1 - k]?
  congr 1
  omega
theorem getItem_tuple_rev {prog : Program} {w : World} {A : Around} {E : Value → Shared → Prop} {s : Shared} {t sl : Addr} {items : Array Value} {vl vu vs : Value} {Q : Value → Shared → Prop} (ht : IsTup s.heap t items) (hs : s.heap.IsSliceOf sl vl vu vs) (pl : IsPart vl none) (pu : IsPart vu none) (ps : IsPart vs (some (-1)))
    (h : Q (.ref s.heap.objs.size) { s with heap := s.heap.push { cls := .type "tuple", data := .seq items.toList.reverse.toArray } })
    (hsz : items.size ≤ sizeLine) : wpAny (model prog w) A (getItem (.ref t) (.ref sl)) Q E s := by
  have htake : sizeOk (.seq items.toList.reverse.toArray) := by
    show items.toList.reverse.toArray.size ≤ sizeLine
    rw [List.size_toArray, List.length_reverse, Array.length_toList]
    exact hsz
  obtain ⟨os, hos, hcs, hds⟩ := id hs
  have hTs : s.TypeIs (.ref sl) "slice" := ⟨os, hos, hcs⟩
  unfold getItem
  try with_reducible refine wpAny_holding ?_
  first | refine wpAny_bind (wpAny_pure ?_) | skip
  refine wpAny_bind (wpAny_sequenceKey ht.typeIs (by decide) ?_)
  refine wpAny_bind (wpAny_callSpecial?_slot (name := Str.ofString "__getitem__") ht.typeIs PyProof.Rows.slot_tuple_getitem
    (wpAny_call_entry PyProof.Rows.slot_tuple_getitem ht.typeIs entry_tuple_getitem ?_ (args_tuple_getitem _ _)))
  show wpAny _ _ (Builtin.Tuple.tupleItemsOf (.ref t) >>= _) _ _ s
  refine wpAny_bind (tupleItemsOf_ ht ?_)
  refine wpAny_bind (wpAny_typeOf hTs ?_)
  rw [if_pos (by decide)]
  have app : ∀ {Q' : Int × Int × Nat → Shared → Prop} {E' : Value → Shared → Prop} {A' : Around}, Q' ((items.size : Int) - 1, -1, items.size) s → wpAny (model prog w) A' (Builtin.Slice.sliceApplied (.ref sl) (pure (items.size : Int))) Q' E' s := fun {Q' E' A'} hq => by
    unfold Builtin.Slice.sliceApplied Builtin.Slice.sliceFields
    refine wpAny_bind (wpAny_bind (wpAny_field hos hds (x := vl) rfl (wpAny_bind (wpAny_field hos hds (x := vu) rfl (wpAny_bind (wpAny_field hos hds (x := vs) rfl (wpAny_pure ?_)))))))
    refine wpAny_bind (HT.slicePart_ ps ?_)
    show wpAny _ _ (if ((-1 : Int) == 0) = true then _ else _) _ _ s
    rw [if_neg (by decide)]
    refine wpAny_bind (HT.slicePart_ pl (wpAny_bind (HT.slicePart_ pu (wpAny_bind (wpAny_pure ?_)))))
    have e : Builtin.Slice.sliceAdjust none none (-1) (items.size : Int) = ((items.size : Int) - 1, -1) := by
      simp [Builtin.Slice.sliceAdjust]
    have e2 : Builtin.Slice.slicePlaces ((items.size : Int) - 1) (-1) (-1) = items.size := by
      unfold Builtin.Slice.slicePlaces
      rw [if_neg (by decide)]
      split
      · rw [show (-(-1) : Int) = 1 by decide, Int.ediv_one]; omega
      · omega
    show wpAny _ _ (match Builtin.Slice.sliceAdjust none none (-1) (items.size : Int) with | (lo, hi) => pure (lo, (-1 : Int), Builtin.Slice.slicePlaces lo hi (-1))) _ _ s
    rw [e]
    show wpAny _ _ (pure (((items.size : Int) - 1), (-1 : Int), Builtin.Slice.slicePlaces ((items.size : Int) - 1) (-1) (-1))) _ _ s
    rw [e2]
    exact wpAny_pure hq
  refine wpAny_bind (app ?_)
  have hno : ¬ ((((items.size : Int) - 1) == 0 && (-1 : Int) == 1 && items.size == items.size) = true) := by simp
  show wpAny _ _ (if (((items.size : Int) - 1) == 0 && (-1 : Int) == 1 && items.size == items.size) = true then _ else _) _ _ s
  rw [if_neg hno, rev_pick]
  first
    | exact wpAny_bind (m := Builtin.Tuple.tupleExact _) (wpAny_newObj_type (wpAny_pure ⟨_, rfl, wpAny_pure h⟩) htake)
    | exact wpAny_bind (m := Builtin.Tuple.tupleExact _) (wpAny_newObj_type (wpAny_bind (wpAny_pure (wpAny_pure ⟨_, rfl, wpAny_pure h⟩))) htake)
def tRevT (K : PySem.W.Frag) (te : TE) : TE := fun σ H Q => te σ H fun x H1 => ∃ a xs, x = .ref a ∧ SqT K H1 a xs ∧ ∀ p, H1 p = none → Q (.ref p) (upd H1 p (.tup xs.reverse))
theorem pe_revT {e : Expr} {te : TE} {k : Nat} {p1 p2 p3 pos : Pos} (he : PE X e te) : PE X (.Subscript e (.Slice none none (some (.UnaryOp .USub (.Constant (.int 1) k p1) p2)) p3) pos) (tRevT X.K te) := by
  refine ⟨fun pins s σ H Q I h => ?_⟩
  refine Subscript_ (thn (he.run pins s σ H _ I h) fun v s1 ⟨x, H1, I1, r1, q1⟩ => ?_)
  obtain ⟨a, xs, ex, hx, q⟩ := q1
  subst ex
  cases r1
  have hst : PO X (some (.UnaryOp .USub (.Constant (.int 1) k p1) p2)) (tPart (tUn (rU fun i => .int (-i)) (tC (.int 1)))) := po_some (pe_un un_neg pe_int)
  refine wpAny_Slice (thn (po_none.run pins s1 σ H1 (fun o H2 => o = none ∧ H2 = H1) I1 ⟨rfl, rfl⟩) fun vl s2 ⟨l, H2, I2, pl, el, e2⟩ => ?_)
  subst el e2
  refine thn (po_none.run pins s2 σ H2 (fun o H3 => o = none ∧ H3 = H2) I2 ⟨rfl, rfl⟩) fun vu s3 ⟨u, H3, I3, pu, eu, e3⟩ => ?_
  subst eu e3
  refine thn (hst.run pins s3 σ H3 (fun o H4 => o = some (-1) ∧ H4 = H3) I3 ⟨1, rfl, -1, rfl, rfl, rfl⟩) fun vs s4 ⟨o, H4, I4, ps, eo, e4⟩ => ?_
  subst eo e4
  have I5 : Inv X pins σ H4 { s4 with heap := s4.heap.push { cls := .type "slice", data := .fields #[vl, vu, vs] } } := I4.kept (t' := s4.toks) fun b ob q => Heap.get?_push_of_some _ q
  obtain ⟨its, r, ht, hz⟩ := I5.tuple hx
  have hlen := r.length
  show wpAny (model X.prog X.w) X.A (subscriptTail e (.Slice none none (some (.UnaryOp .USub (.Constant (.int 1) k p1) p2)) p3) (.ref a) (.ref s4.heap.objs.size)) (EP X pins σ Q) X.xe { s4 with heap := s4.heap.push { cls := .type "slice", data := .fields #[vl, vu, vs] } }
  refine tail_any (ops := [.ref a, .ref s4.heap.objs.size]) ht.typeIs (slot_tuple_getitem.lookup) ?_ (by with_unfolding_all rfl)
  refine getItem_tuple_rev ht (Heap.IsSliceOf.new _ vl vu vs) pl pu ps ?_ (by rw [List.size_toArray]; omega)
  refine ⟨.ref _, _, I5.laid (t' := s4.toks) (o := .tup xs.reverse) (fun b ob q => Heap.get?_push_of_some _ q) (Nat.le_refl _) ?_, rfl, q _ (I5.hok.fresh (Nat.le_refl _))⟩
  exact ⟨by rw [List.length_reverse]; exact hz, _, r.reverse, IsTup.new _ _⟩
def revTD : PyData → Option PyData
  | .tuple xs => some (.tuple xs.reverse)
  | _ => none
def revLD : PyData → Option (List PyData)
  | .list xs => some xs.reverse
  | _ => none
def un1n (op : PyData → Option (List PyData)) (f : Sls → Out SV) : Sls → Out (List PyData) := fun e => (f e).bind fun x e1 => Out.of (op (rd e1 x)) e1
variable {fx : List Nat} {W : WX} {a : Expr} {fa : Sls → Out SV}
theorem pp_revT {k : Nat} {p1 p2 p3 pos : Pos} (ha : PE X a (cE X.md fx W fa)) : PE X (.Subscript a (.Slice none none (some (.UnaryOp .USub (.Constant (.int 1) k p1) p2)) p3) pos) (cE X.md fx W (un1 revTD fa)) := by
  refine (pe_revT ha).weak fun σ H Q ⟨O, F, e, hF, g, h⟩ => ?_
  refine ⟨O, F, e, hF, g, (Po.bind h).mono fun x e1 H1 g1 k1 d1 h1 v r1 => ?_⟩
  obtain ⟨d, hd, q⟩ := fin rfl g1 h1
  have rt := r1.top g1
  generalize rd e1 x = dx at hd rt
  cases dx <;> try (simp [revTD] at hd; done)
  rename_i xs
  have e : PyData.tuple xs.reverse = d := Option.some.inj hd
  subst e
  obtain ⟨b, vs, rfl, e1', e1'', l1, r2⟩ := rt.tuple msk_sub
  exact ⟨b, vs, rfl, e1', fun p np => q _ _ (same_updN np) (Rp.newT g1.hd np (by rw [List.length_reverse]; exact l1) r2.reverse)⟩
theorem pp_revL {k : Nat} {p1 p2 p3 pos : Pos} (ha : PE X a (cE X.md fx W fa)) : PE X (.Subscript a (.Slice none none (some (.UnaryOp .USub (.Constant (.int 1) k p1) p2)) p3) pos) (cN X.md fx W (un1n revLD fa)) := by
  refine (pe_revL ha).weak fun σ H Q ⟨O, F, e, hF, g, h⟩ => ?_
  refine ⟨O, F, e, hF, g, (PoN.bind h).mono fun x e1 H1 g1 k1 d1 h1 v r1 => ?_⟩
  obtain ⟨d, hd, q⟩ := PoN.of g1 h1
  have rt := r1.top g1
  generalize rd e1 x = dx at hd rt
  cases dx <;> try (simp [revLD] at hd; done)
  rename_i xs
  have e : xs.reverse = d := Option.some.inj hd
  subst e
  obtain ⟨b, vs, rfl, e1', l1, r2⟩ := rt.list msk_sub
  exact ⟨b, vs, rfl, e1', fun p np => q p _ np (by rw [List.length_reverse]; exact l1) r2.reverse⟩
def OMut (X : Cx) (id : String) (op : List PyData → List PyData → Option (PyData × List PyData)) : Prop := ∃ r, MtR X id r ∧ SMut X.K r op
def OMutF (X : Cx) (id : String) (op : List PyData → List PyData → Option (PyData × List PyData)) : Prop := ∃ r, MtR X id r ∧ SMutF X.K r op
def appD (xs : List PyData) (as : List PyData) : Option (PyData × List PyData) :=
  match as with
  | [d] => if xs.length < sizeLine then some (.none, xs ++ [d]) else none
  | _ => none
def extD (xs : List PyData) (as : List PyData) : Option (PyData × List PyData) :=
  match as with
  | [d] => (itemsD d).bind fun zs => if xs.length + zs.length ≤ sizeLine then some (.none, xs ++ zs) else none
  | _ => none
def popD (xs : List PyData) (as : List PyData) : Option (PyData × List PyData) :=
  match as with
  | [] => (xs[xs.length - 1]?).map fun d => (d, xs.dropLast)
  | _ => none
def popAtD (xs : List PyData) (as : List PyData) : Option (PyData × List PyData) :=
  match as with
  | [.int i] => if -(2 ^ 63) ≤ i ∧ i < 2 ^ 63 then (seqIndex? i xs.length).bind fun k => (xs[k]?).map fun d => (d, xs.eraseIdx k) else none
  | _ => none
def rvsD (xs : List PyData) (as : List PyData) : Option (PyData × List PyData) :=
  match as with
  | [] => some (.none, xs.reverse)
  | _ => none
theorem RpAll.one {K : PySem.W.Frag} {H : Hp} {vs : List V} {d : PyData} (r : RpAll K H vs [d]) : ∃ v, vs = [v] ∧ Rp K H v d := by
  cases r with
  | cons h t => cases t; exact ⟨_, rfl, h⟩
theorem om_append : OMutF X "list.append" appD := by
  refine ⟨_, mt_append, fun P H p ys xs vs as d xs' Q hP hp hl r rs hd q => ?_⟩
  unfold appD at hd
  split at hd
  · rename_i y
    split at hd
    · cases hd
      rename_i c
      obtain ⟨v, rfl, rv⟩ := rs.one
      have e := r.length
      exact ⟨p, ys, v, rfl, rfl, hp, by omega, q _ _ (by rw [List.length_append, List.length_singleton]; omega) (r.append (.cons rv .nil)) .non⟩
    · cases hd
  · cases hd
theorem om_pop : OMut X "list.pop" popD := by
  refine ⟨_, mt_pop, fun P H p ys xs vs as d xs' Q hP hp hl r rs hd q => ?_⟩
  unfold popD at hd
  split at hd
  · obtain ⟨y, e1, e2⟩ := Option.map_eq_some_iff.mp hd
    cases e2
    cases rs
    have e := r.length
    rw [← e] at e1
    obtain ⟨v, h1, h2⟩ := r.get e1
    exact ⟨p, ys, v, rfl, rfl, hp, h1, q _ _ (by rw [List.length_dropLast]; omega) r.dropLast h2⟩
  · cases hd
theorem om_popAt : OMut X "list.pop" popAtD := by
  refine ⟨_, mt_popAt, fun P H p ys xs vs as d xs' Q hP hp hl r rs hd q => ?_⟩
  unfold popAtD at hd
  split at hd
  · rename_i i
    split at hd
    · rename_i c
      obtain ⟨k, e0, hd⟩ := Option.bind_eq_some_iff.mp hd
      obtain ⟨y, e1, e2⟩ := Option.map_eq_some_iff.mp hd
      cases e2
      obtain ⟨u, rfl, ru⟩ := pone rs
      have e := r.length
      obtain ⟨v, h1, h2⟩ := r.get e1
      exact ⟨p, ys, i, k, v, rfl, by rw [ru.int], hp, c.1, c.2, by rw [e]; exact e0, h1, q _ _ (by have := len_erase ys k; omega) (r.eraseIdx k) h2⟩
    · cases hd
  · cases hd
theorem om_reverse : OMut X "list.reverse" rvsD := by
  refine ⟨_, mt_reverse, fun P H p ys xs vs as d xs' Q hP hp hl r rs hd q => ?_⟩
  unfold rvsD at hd
  split at hd
  · cases hd
    cases rs
    exact ⟨p, ys, rfl, rfl, hp, q _ _ (by rw [List.length_reverse]; exact hl) r.reverse .non⟩
  · cases hd
end
theorem list_extG (l b : Addr) (T : String) (hT : T = "list" ∨ T = "tuple") (items items2 : Array Value) (n n2 : Nat) (dd2 : Option Addr) (sl2 : Array (Option Value)) (hs0 : ¬(!items.isEmpty && Builtin.List.listTooLong (items.size + items2.size)) = true) (hs1 : items.size ≤ sizeLine) (hs2 : items.size + items2.size ≤ sizeLine + 1) :
    Meets (Builtin.«list.extend» ⟨[.ref l, .ref b], []⟩) (fun _ R s => s.heap.get? l = some { cls := .type "list", dict := none, data := .seq items n, slots := #[] } ∧ s.heap.get? b = some { cls := .type T, dict := dd2, data := .seq items2 n2, slots := sl2 } ∧ R (.ok (.ret Value.none)) { s with heap := s.heap.update l (Obj.mapSeq fun x => x ++ items2), toks := s.toks }) :=
  .of_wp fun prog w A R s h => by
    obtain ⟨hp, g, d, tk, os⟩ := s
    obtain ⟨hl, hb, h⟩ := h
    have f1 := AutoSeq1.idx_int
    have f2 := AutoSeq1.sub_tuple_tuple
    have f3 := AutoSeq1.sub_list_list
    have f4 := AutoSeq1.sub_tuple_list
    have f5 := AutoSeq1.sub_list_tuple
    have hz' : (items ++ items2).size ≤ sizeLine + 1 := by rw [Array.size_append]; exact hs2
    rcases hT with hT | hT
    · subst hT
      wp_walk using (wpAny_updateSeq hl rfl (hz := hs1) (_hz' := hz')), AutoSeq1.wpAny_loadPart' hl, AutoSeq1.wpAny_loadPart' hb
      exact ⟨_, rfl, h⟩
    · subst hT
      wp_walk using (wpAny_updateSeq hl rfl (hz := hs1) (_hz' := hz')), AutoSeq1.wpAny_loadPart' hl, AutoSeq1.wpAny_loadPart' hb
      exact ⟨_, rfl, h⟩
section
variable {X : Cx}
def rExtA (K : PySem.W.Frag) : V → List V → Hp → VK → Prop := fun x vs H Q => ∃ l b xs zs, x = .ref l ∧ vs = [.ref b] ∧ H l = some (.lst xs) ∧ (SqL K H b zs ∨ SqT K H b zs) ∧ xs.length + zs.length ≤ sizeLine ∧ Q .non (upd H l (.lst (xs ++ zs)))
theorem mt_extA : MtR X "list.extend" (rExtA X.K) := by
  intro pins s σ H x vs v us Q I rx rv h
  obtain ⟨l, b, xs, zs, rfl, rfl, hH, hB, hz, q⟩ := h
  cases rx
  obtain ⟨u, rfl, ru⟩ := rv.one
  cases ru
  obtain ⟨z, its, n, r, hl, e⟩ := I.lstM hH
  have main : ∀ (T : String) (hT : T = "list" ∨ T = "tuple") (its2 : List Value) (n2 : Nat) (dd2 : Option Addr) (sl2 : Array (Option Value)), Vals zs its2 → s.heap.get? b = some { cls := .type T, dict := dd2, data := .seq its2.toArray n2, slots := sl2 } →
      wpAny (model X.prog X.w) X.A (call (.builtin "list.extend") [.ref l, .ref b]) (EP X pins σ Q) X.xe s := fun T hT its2 n2 dd2 sl2 r2 e2 => by
    have hl2 := r2.length
    have hsz : its.toArray.size + its2.toArray.size ≤ sizeLine := by rw [List.size_toArray, List.size_toArray]; omega
    have hlong : ¬ (!its.toArray.isEmpty && Builtin.List.listTooLong (its.toArray.size + its2.toArray.size)) = true := by
      rw [notLongL hsz, Bool.and_false]
      exact Bool.false_ne_true
    refine call_meets F.slot_list_extend ⟨_, e, rfl⟩ F.entry_list_extend (F.args_list_extend_2 _ _)
      (list_extG l b T hT its.toArray its2.toArray n n2 dd2 sl2 hlong (by rw [List.size_toArray]; omega) (by omega)) ⟨e, e2, ?_⟩
    refine ⟨.non, _, I.lset (its' := its ++ its2) hH e (by simp) (r.append r2) ?_, rfl, q⟩
    rw [List.length_append]
    omega
  rcases hB with hB | hB
  · obtain ⟨its2, r2, ⟨⟨cls2, dd2, data2, sl2⟩, n2, e2, hc2, hdn2, hd2⟩, z2⟩ := I.list hB
    simp only at hc2 hd2
    subst hc2 hd2
    exact main _ (.inl rfl) its2 n2 dd2 sl2 r2 e2
  · obtain ⟨its2, r2, ⟨⟨cls2, dd2, data2, sl2⟩, e2, hc2, n2, hd2⟩, z2⟩ := I.tuple hB
    simp only at hc2 hd2
    subst hc2 hd2
    exact main _ (.inr rfl) its2 n2 dd2 sl2 r2 e2
theorem om_extend : OMut X "list.extend" extD := by
  refine ⟨_, mt_extA, fun P H p ys xs vs as d xs' Q hP hp hl r rs hd q => ?_⟩
  unfold extD at hd
  split at hd
  · rename_i y
    obtain ⟨zs, e0, hd⟩ := Option.bind_eq_some_iff.mp hd
    split at hd
    · cases hd
      rename_i c
      obtain ⟨u, rfl, ru⟩ := pone rs
      have e := r.length
      cases y <;> try (simp [itemsD] at e0; done)
      · cases e0
        obtain ⟨b, us, rfl, e1, l1, r1⟩ := ru.list msk_sub
        have e2 := r1.length
        exact ⟨p, b, ys, us, rfl, rfl, hp, .inl e1, by omega, q _ _ (by rw [List.length_append]; omega) (r.append r1) .non⟩
      · cases e0
        obtain ⟨b, us, rfl, e1, e1', l1, r1⟩ := ru.tuple msk_sub
        have e2 := r1.length
        exact ⟨p, b, ys, us, rfl, rfl, hp, .inr e1, by omega, q _ _ (by rw [List.length_append]; omega) (r.append r1) .non⟩
    · cases hd
  · cases hd
end
end PP
set_option maxRecDepth 100000
namespace PP
open PySem PySem.Spec PyProof.Rows L2 PySem.W PySem.Calls
section
variable {prog : Program} {w : World} {A : Around} {E : Value → Shared → Prop} {s : Shared} {β : Type}
theorem sorted_seq {a : Addr} {T : String} {o : Obj} {items : Array Value} {n : Nat} {R : Value → β → Prop} {enc : β → PyData} {bs : List β} {Q : Value → Shared → Prop} (hT : T = "list" ∨ T = "tuple")
    (ho : s.heap.get? a = some o) (hc : o.cls = .type T) (hd : o.data = .seq items n) (e : EachIs R items.toList bs) (er : EachIs (fun v b => ∃ as, Reads s.heap v (enc b) as) items.toList bs) (hal : AllAlike (bs.map enc)) (hk : Sortable (bs.map enc)) (hL : bs.length ≤ sizeLine)
    (hu : ∀ b, b ∈ bs → A.units + 2 + (enc b).depth < cLine)
    (h : ∀ (h1 : Heap) (out : List Value) (h' : Heap) (c : Nat), (∀ b o, s.heap.get? b = some o → h1.get? b = some o) → (∀ b o, h1.get? b = some o → h'.get? b = some o) → h'.get? h1.objs.size = some { cls := .type "list", data := .seq (List.toArray out) c } → out.length = bs.length → EachIs R out (bs.mergeSort (dataLe false enc)) → Q (.ref h1.objs.size) { s with heap := h' }) :
    wpAny (model prog w) A (call (.builtin "sorted") [.ref a]) Q E s := by
  have hlen : items.toList.length = bs.length := e.length
  refine call_function_entry_kw (kw := []) kind_sorted plain_sorted entry_sorted (args_sorted1 _) ?_
  unfold Builtin.«sorted»
  refine wpAny_bind (m := checkCount "sorted" 1 1 _) (wpAny_pure ?_)
  refine wpAny_bind (wpAny_collect_seq a hT ho hc hd (fun h1 k1 => ?_) (by rw [← Array.length_toList, hlen]; exact hL))
  refine wpAny_bind (wpAny_newList ?_ (by rw [hlen]; exact hL))
  have hat : (h1.push (seqObj "list" items.toList.toArray 0)).get? h1.objs.size = some (seqObj "list" items.toList.toArray 0) := Heap.get?_push_size _ rfl
  have k2 : ∀ b o, s.heap.get? b = some o → (h1.push (seqObj "list" items.toList.toArray 0)).get? b = some o := fun b o z => Heap.get?_push_of_some _ (k1 b o z)
  have hlt : ∀ b o, s.heap.get? b = some o → b ≠ h1.objs.size := fun b o z => Nat.ne_of_lt (Heap.lt_size (k1 b o z))
  show wpAny _ _ _ _ _ { s with heap := h1.push (seqObj "list" items.toList.toArray 0) }
  refine wpAny_bind (wpAny_holding (wpAny_call_entry_kw (kw := []) slot_list_sort ⟨_, hat, rfl⟩ entry_list_sort ?body (args_list_sort _)))
  case body =>
    show wpAny (model prog w) A.in1.in1 (Builtin.«list.sort» ⟨[.ref h1.objs.size], []⟩) _ _ _
    have er' : EachIs (fun v b => ∃ as, Reads (sortingHeap (h1.push (seqObj "list" items.toList.toArray 0)) h1.objs.size items.toList) v (enc b) as) items.toList bs :=
      er.mono fun _ _ ⟨as, r⟩ => ⟨as, PyProof.Rows.Reads.keeps (fun b o z => sortingHeap_old (hlt b o z) (k2 b o z)) r⟩
    refine list_sort_vals (s := { s with heap := h1.push (seqObj "list" items.toList.toArray 0) }) hat
      (SortsAt.data (s := { s with heap := sortingHeap (h1.push (seqObj "list" items.toList.toArray 0)) h1.objs.size items.toList }) (each_map (R := fun v d => ∃ as, Reads (sortingHeap (h1.push (seqObj "list" items.toList.toArray 0)) h1.objs.size items.toList) v d as) enc er') hal hk (bound_map hu)) (by rw [hlen]; exact hL) ?_
    obtain ⟨c, hc'⟩ := sortedHeap_at (out := (sortVals (dataKind (sortingHeap (h1.push (seqObj "list" items.toList.toArray 0)) h1.objs.size items.toList) (bs.map enc)) false items.toList items.toList).toArray) hat
    refine ⟨_, rfl, wpAny_pure ⟨_, rfl, h h1 _ _ c k1 (fun b o z => ?_) hc' ?_ (sortVals_data false e er' hal)⟩⟩
    · rw [sortedHeap_old (Nat.ne_of_lt (Heap.lt_size z)) (by rw [size_push']; exact Nat.lt_succ_of_lt (Heap.lt_size z))]
      exact Heap.get?_push_of_some _ z
    · rw [sortVals_length false rfl]
      exact hlen
end
def SortOk (xs : List PyData) : Prop := AllAlike xs ∧ Sortable xs ∧ (∀ d ∈ xs, SeqAt.shaped d = true) ∧ xs.length ≤ sizeLine
open Classical in
noncomputable def sortD (a : PyData) : Option (List PyData) := (itemsD a).bind fun xs => if SortOk xs then some (xs.mergeSort (dataLe false id)) else none
def rSortA (K : PySem.W.Frag) : List V → Hp → VK → Prop := fun vs H Q => ∃ (a : Addr) (xs : List V) (ds : List PyData), vs = [V.ref a] ∧ (SqL K H a xs ∨ SqT K H a xs) ∧ DpAll K H xs ds ∧ SortOk ds ∧
  ∀ (ps : List (V × PyData)) (p : Addr), ps.Perm (xs.zip ds) → ps.map (·.2) = ds.mergeSort (dataLe false id) → H p = none → Q (.ref p) (upd H p (.lst (ps.map (·.1))))
theorem each_zip {h : Heap} : ∀ {xs : List V} {ds : List PyData} {us : List Value} {as : List Addr}, Vals xs us → ReadsAll h us ds as → EachIs (fun u (p : V × PyData) => RelV p.1 u) us (xs.zip ds) ∧ EachIs (fun u (p : V × PyData) => ∃ as, Reads h u p.2 as) us (xs.zip ds) ∧ (xs.zip ds).map (·.2) = ds ∧ xs.length = ds.length
  | _, _, _, _, .nil, .nil => ⟨.nil, .nil, rfl, rfl⟩
  | _, _, _, _, .cons r t, .cons q s => by
    obtain ⟨h1, h2, h3, h4⟩ := each_zip t s
    exact ⟨.cons r h1, .cons ⟨_, q⟩ h2, by rw [List.zip_cons_cons, List.map_cons, h3], by rw [List.length_cons, List.length_cons, h4]⟩
theorem vals_each : ∀ {us : List Value} {ps : List (V × PyData)}, EachIs (fun u (p : V × PyData) => RelV p.1 u) us ps → Vals (ps.map (·.1)) us
  | _, _, .nil => .nil
  | _, _, .cons h t => .cons h (vals_each t)
section
variable {X : Cx}
theorem cr_sortA (hu : X.A.units + 66 < cLine) : CallR X (.builtin "sorted") (rSortA X.K) := by
  intro pins s σ H vs us Q I r h
  obtain ⟨a, xs, ds, rfl, hs, hd, ⟨k1, k2, k3, k4⟩, q⟩ := h
  rw [Vals.ref1 r]
  have main : ∀ (T : String) (hT : T = "list" ∨ T = "tuple") (its : List Value) (o : Obj) (n : Nat), Vals xs its → s.heap.get? a = some o → o.cls = .type T → o.data = .seq its.toArray n → wpAny (model X.prog X.w) X.A (call (.builtin "sorted") [.ref a]) (EP X pins σ Q) X.xe s := fun T hT its o n rv ho hc hdt => by
    obtain ⟨as, rd⟩ := Dp.readsAll I ds _ its hd rv
    obtain ⟨e1, e2, e3, e4⟩ := each_zip rv rd
    have hzl : (xs.zip ds).length = ds.length := by rw [List.length_zip, e4, Nat.min_self]
    refine sorted_seq (enc := (·.2)) (bs := xs.zip ds) hT ho hc hdt (by simpa using e1) (by simpa using e2) (by rw [e3]; exact k1) (by rw [e3]; exact k2) (by rw [hzl]; exact k4) (fun b hb => ?_) fun h1 out h' c z1 z2 z3 z4 z5 => ?_
    · have : b.2 ∈ ds := by rw [← e3]; exact List.mem_map.mpr ⟨b, hb, rfl⟩
      have := SeqAt.depth_of_shaped (k3 _ this)
      omega
    · have I1 : Inv X pins σ H { s with heap := h1 } := I.kept (t' := s.toks) z1
      have hpm := List.mergeSort_perm (xs.zip ds) (dataLe false (·.2))
      have I2 : Inv X pins σ (upd H h1.objs.size (.lst (((xs.zip ds).mergeSort (dataLe false (·.2))).map (·.1)))) { s with heap := h' } := by
        refine I1.laid (t' := s.toks) z2 (Nat.le_refl _) ⟨?_, out, c, vals_each z5, z3⟩
        rw [List.length_map, hpm.length_eq, hzl]
        exact k4
      refine ⟨.ref h1.objs.size, _, I2, rfl, q _ _ hpm ?_ (I1.hok.fresh (Nat.le_refl _))⟩
      have em := List.map_mergeSort (r := dataLe false (fun x : V × PyData => x.2)) (s := dataLe false id) (f := fun x : V × PyData => x.2) (l := xs.zip ds) (fun a _ b _ => rfl)
      rw [em, e3]
  rcases hs with hs | hs
  · obtain ⟨its, rv, ⟨o, n, ho, hc, _, hdt⟩, hlen⟩ := I.list hs
    exact main _ (.inl rfl) its o n rv ho hc hdt
  · obtain ⟨its, rv, ⟨o, ho, hc, n, hdt⟩, hlen⟩ := I.tuple hs
    exact main _ (.inr rfl) its o n rv ho hc hdt
theorem rpAll_perm {K : PySem.W.Frag} {H : Hp} {xs : List V} {ds : List PyData} (r : RpAll K H xs ds) : ∀ p ∈ xs.zip ds, Rp K H p.1 p.2 := by
  intro p hp
  obtain ⟨i, hi⟩ := List.mem_iff_getElem?.mp hp
  rw [List.getElem?_zip_eq_some] at hi
  obtain ⟨d, h1, h2⟩ := r.getV hi.1
  rw [hi.2] at h1
  cases h1
  exact h2
theorem rpAll_of {K : PySem.W.Frag} {H : Hp} : ∀ {ps : List (V × PyData)}, (∀ p ∈ ps, Rp K H p.1 p.2) → RpAll K H (ps.map (·.1)) (ps.map (·.2))
  | [], _ => .nil
  | p :: ps, h => .cons (h p List.mem_cons_self) (rpAll_of fun q hq => h q (List.mem_cons_of_mem _ hq))
theorem canAll_of : ∀ {ds : List PyData}, (∀ d ∈ ds, SeqAt.shaped d = true) → PyData.canLayAll0 ds = true
  | [], _ => rfl
  | d :: ds, h => by
    unfold PyData.canLayAll0
    rw [SeqAt.canLay_of_shaped (h d List.mem_cons_self), canAll_of fun x hx => h x (List.mem_cons_of_mem _ hx)]
    rfl
theorem onn_sorted (hu : X.A.units + 66 < cLine) : ONn X (.builtin "sorted") (arg1 sortD) := by
  refine ⟨_, cr_sortA hu, fun P H vs as d Q hP ra hd q => ?_⟩
  replace hd := arg1_of hd
  obtain ⟨a, rfl, hd⟩ := hd
  obtain ⟨v, rfl, r⟩ := pone ra
  unfold sortD at hd
  obtain ⟨xs, hx, hd⟩ := Option.bind_eq_some_iff.mp hd
  split at hd
  · rename_i c
    have e : xs.mergeSort (dataLe false id) = d := Option.some.inj hd
    subst e
    have fin : ∀ (b : Addr) (us : List V), v = .ref b → us.length ≤ sizeLine → RpAll X.K (msk P H) us xs → (SqL X.K H b us ∨ SqT X.K H b us) → rSortA X.K [v] H Q := fun b us e l1 r1 hq => by
      subst e
      refine ⟨b, us, xs, rfl, hq, (r1.mono msk_sub).dp (canAll_of c.2.2.1), c, fun ps p hp he np => ?_⟩
      have e1 := r1.length
      refine q p _ np ?_ ?_
      · rw [List.length_map, hp.length_eq, List.length_zip]
        omega
      · rw [← he]
        exact rpAll_of fun z hz => rpAll_perm r1 z (hp.mem_iff.mp hz)
    cases a <;> try (simp [itemsD] at hx; done)
    · cases hx
      obtain ⟨b, us, e, e1, l1, r1⟩ := r.list msk_sub
      exact fin b us e l1 r1 (.inl e1)
    · cases hx
      obtain ⟨b, us, e, e1, e1', l1, r1⟩ := r.tuple msk_sub
      exact fin b us e l1 r1 (.inr e1)
  · cases hd
end
end PP
set_option maxRecDepth 100000
namespace PP
open PySem PySem.Spec PyProof.Rows L2
inductive AV where
  | sv (x : SV) | nw (xs : List PyData)
def Ops (O : Addr → Prop) (ps : List Addr) : Addr → Prop := fun a => O a ∨ a ∈ ps
theorem Ops.nil {O : Addr → Prop} : Ops O [] = O := funext fun a => propext ⟨fun h => h.elim id fun z => (List.not_mem_nil z).elim, .inl⟩
theorem Ops.cons {O : Addr → Prop} {p : Addr} {ps : List Addr} : Ops O (p :: ps) = Op (Ops O ps) p := funext fun a => propext ⟨fun h => h.elim (fun z => .inl (.inl z)) fun z => (List.mem_cons.mp z).elim .inr fun z => .inl (.inr z), fun h => h.elim (fun z => z.elim .inl fun z => .inr (List.mem_cons_of_mem _ z)) fun z => .inr (by rw [z]; exact List.mem_cons_self)⟩
theorem Ops.op {O : Addr → Prop} {p : Addr} {ps : List Addr} : Ops (Op O p) ps = Ops O (p :: ps) := funext fun a => propext ⟨fun h => h.elim (fun z => z.elim .inl fun z => .inr (by rw [z]; exact List.mem_cons_self)) fun z => .inr (List.mem_cons_of_mem _ z), fun h => h.elim (fun z => .inl (.inl z)) fun z => (List.mem_cons.mp z).elim (fun z => .inl (.inr z)) .inr⟩
inductive AVs (K : PySem.W.Frag) (O : Addr → Prop) (H : Hp) (σ : St) (e : Sls) : List V → List AV → List Addr → Prop
  | nil : AVs K O H σ e [] [] []
  | sv {v : V} {x : SV} {vs : List V} {as : List AV} {ps : List Addr} : SVR K O H σ e v x → AVs K O H σ e vs as ps → AVs K O H σ e (v :: vs) (.sv x :: as) ps
  | nw {p : Addr} {ys : List V} {xs : List PyData} {vs : List V} {as : List AV} {ps : List Addr} : H p = some (.lst ys) → ys.length ≤ sizeLine → RpAll K (msk (Hid O σ e) H) ys xs → AVs K O H σ e vs as ps → AVs K O H σ e (.ref p :: vs) (.nw xs :: as) (p :: ps)
inductive NewPs (O : Addr → Prop) (σ0 : St) (e0 : Sls) (H0 : Hp) : List Addr → Prop
  | nil : NewPs O σ0 e0 H0 []
  | cons {p : Addr} {ps : List Addr} : ¬ Ops O ps p → (H0 p = none ∨ OwnAt σ0 e0 p) → NewPs O σ0 e0 H0 ps → NewPs O σ0 e0 H0 (p :: ps)
def PoAN (M : Md) (O : Addr → Prop) (F : List (Nat × V)) (σ : St) (e : Sls) (H : Hp) (W : WX) (Q : List V → Hp → Prop) : Out (List AV) → Prop
  | .ok as e' => ∀ vs ps H', Good M.K (Ops O ps) F H' σ e' → NewPs O σ e H ps → AVs M.K (Ops O ps) H' σ e' vs as ps → Kp σ e H σ e' H' → Dn e e' → Q vs H'
  | .err x e' => ∀ cls d H', Good M.K O F H' σ e' → ER M.mg x cls d H' → Kp σ e H σ e' H' → W cls d σ H'
  | .stuck => False
def cAN (M : Md) (fx : List Nat) (W : WX) (f : Sls → Out (List AV)) : TA := fun σ H Q => ∃ O F e, (∀ p ∈ F, p.1 ∈ fx) ∧ Good M.K O F H σ e ∧ PoAN M O F σ e H W Q (f e)
def avNil : Sls → Out (List AV) := fun e => .ok [] e
def avSv (f : Sls → Out SV) (g : Sls → Out (List AV)) : Sls → Out (List AV) := fun e => (f e).bind fun x e1 => (g e1).bind fun as e2 => .ok (.sv x :: as) e2
def avNw (f : Sls → Out (List PyData)) (g : Sls → Out (List AV)) : Sls → Out (List AV) := fun e => (f e).bind fun xs e1 => (g e1).bind fun as e2 => .ok (.nw xs :: as) e2
section
variable {α : Type} {M : Md} {O : Addr → Prop} {F : List (Nat × V)} {σ : St} {e : Sls} {H : Hp} {W : WX} {Q : List V → Hp → Prop}
theorem NewPs.later {σ1 : St} {e1 : Sls} {H1 : Hp} (k : Kp σ e H σ1 e1 H1) : ∀ {ps : List Addr}, NewPs O σ1 e1 H1 ps → NewPs O σ e H ps
  | _, .nil => .nil
  | _, .cons h1 h2 h3 => .cons h1 (k.new h2) (NewPs.later k h3)
theorem NewPs.mem {σ1 : St} {e1 : Sls} {H1 : Hp} {b : Addr} : ∀ {qs : List Addr}, NewPs O σ1 e1 H1 qs → b ∈ qs → (H1 b = none ∨ OwnAt σ1 e1 b) ∧ ¬ O b
  | _, .cons (p := p) h1 h2 h3, y => by
    rcases List.mem_cons.mp y with y | y
    · subst y; exact ⟨h2, fun z => h1 (.inl z)⟩
    · exact NewPs.mem h3 y
theorem NewPs.weak {O' : Addr → Prop} (k : ∀ a, O' a → O a) {σ1 : St} {e1 : Sls} {H1 : Hp} : ∀ {qs : List Addr}, NewPs O σ1 e1 H1 qs → NewPs O' σ1 e1 H1 qs
  | _, .nil => .nil
  | _, .cons h1 h2 h3 => .cons (fun z => h1 (z.elim (fun z => .inl (k _ z)) .inr)) h2 (NewPs.weak k h3)
theorem vis_new {O' : Addr → Prop} {σ1 : St} {e1 : Sls} {H1 : Hp} {σ2 : St} {e2 : Sls} {H2 : Hp} {ps : List Addr} (k2 : Kp σ1 e1 H1 σ2 e2 H2) (n : NewPs O' σ1 e1 H1 ps) : Same (msk (Hid O' σ1 e1) H1) (msk (Hid (Ops O' ps) σ2 e2) H2) := fun b o z => by
  obtain ⟨nz, z⟩ := msk_some.mp z
  obtain ⟨z', nz'⟩ := k2 b o z fun y => nz (.inr y)
  refine msk_some.mpr ⟨fun y => ?_, z'⟩
  rcases y with (y | y) | y
  · exact nz (.inl y)
  · rcases (n.mem y).1 with y | y
    · rw [y] at z; cases z
    · exact nz (.inr y)
  · exact nz' y
theorem PoAN.later {e1 : Sls} {H1 : Hp} {o : Out (List AV)} (k : Kp σ e H σ e1 H1) (d : Dn e e1) (h : PoAN M O F σ e H W Q o) : PoAN M O F σ e1 H1 W Q o := by
  cases o with
  | ok as e' => exact fun vs ps H' g n a k' d' => h vs ps H' g (n.later k) a (k.trans k') (d.trans d')
  | err x e' => exact fun cls dd H' g er k' => h cls dd H' g er (k.trans k')
  | stuck => exact h
theorem PoAN.bind {o : Out α} {f : α → Sls → Out (List AV)} (h : PoAN M O F σ e H W Q (o.bind f)) : Po M O F σ e H W (fun a e1 H1 => PoAN M O F σ e1 H1 W Q (f a e1)) o := by
  cases o with
  | ok a e1 =>
    intro H1 g1 k1 d1
    exact PoAN.later k1 d1 h
  | err x e1 => exact h
  | stuck => exact h
end
section
variable {X : Cx} {fx : List Nat} {W : WX} {a : Expr} {es : List Expr} {fa : Sls → Out SV} {gs : Sls → Out (List AV)}
theorem ppan_nil : PA X [] (cAN X.md fx W avNil) := pa_nil.weak fun σ H Q ⟨O, F, e, hF, g, h⟩ => by
  exact h [] [] H (by rw [Ops.nil]; exact g) .nil .nil Kp.refl Dn.refl
theorem ppan_sv (hx : PE X a (cE X.md fx W fa)) (hr : PA X es (cAN X.md fx W gs)) (hs : starEach (a :: es) X.env = (false, eval a X.env) :: starEach es X.env := by rfl) : PA X (a :: es) (cAN X.md fx W (avSv fa gs)) := by
  refine (pa_cons hx hr hs).weak fun σ H Q ⟨O, F, e, hF, g, h⟩ => ?_
  refine ⟨O, F, e, hF, g, (PoAN.bind h).mono fun x e1 H1 g1 k1 d1 h1 v r1 => ?_⟩
  refine ⟨O, F, e1, hF, g1, ?_⟩
  cases q : gs e1 with
  | ok as e2 =>
    rw [q] at h1
    intro vs ps H2 g2 n a k2 d2
    refine h1 _ ps H2 g2 n (.sv ?_ a) k2 d2
    cases x with
    | val d =>
      have r2 : Rp X.md.K (msk (Hid O σ e1) H1) v d := r1
      exact r2.mono (vis_new k2 n)
    | var i =>
      obtain ⟨z1, s, z2, z3⟩ := r1
      exact ⟨z1, d2 i s z2 z3⟩
  | err y e2 => rw [q] at h1; exact h1
  | stuck => rw [q] at h1; exact h1
theorem ppan_nw {fa : Sls → Out (List PyData)} (hx : PE X a (cN X.md fx W fa)) (hr : PA X es (cAN X.md fx W gs)) (hs : starEach (a :: es) X.env = (false, eval a X.env) :: starEach es X.env := by rfl) : PA X (a :: es) (cAN X.md fx W (avNw fa gs)) := by
  refine (pa_cons hx hr hs).weak fun σ H Q ⟨O, F, e, hF, g, h⟩ => ?_
  refine ⟨O, F, e, hF, g, ?_⟩
  have h0 : PoAN X.md O F σ e H W Q ((fa e).bind fun xs e1 => (gs e1).bind fun as e2 => .ok (.nw xs :: as) e2) := h
  cases q0 : fa e with
  | ok xs e1 =>
    rw [q0] at h0
    intro p ys H1 g1 hp hl hr' ho hn k1 d1
    have h1 : PoAN X.md O F σ e H W Q ((gs e1).bind fun as e2 => .ok (.nw xs :: as) e2) := h0
    refine ⟨Op O p, F, e1, hF, g1, ?_⟩
    cases q : gs e1 with
    | ok as e2 =>
      rw [q] at h1
      have h2 : PoAN X.md O F σ e H W Q (.ok (.nw xs :: as) e2) := h1
      intro vs ps H2 g2 n a k2 d2
      have np : ¬ OwnAt σ e1 p := fun ⟨i, zs, z1, z2⟩ => by
        obtain ⟨p', _, y1, _, _, _, y5⟩ := g1.own i zs z1
        rw [z2] at y1; cases y1
        exact y5 (.inr rfl)
      have v := vis_new k2 n
      rw [Ops.op] at g2 a v
      have nin : p ∉ ps := fun z => (n.mem z).2 (.inr rfl)
      exact h2 _ (p :: ps) H2 g2 (.cons (fun z => z.elim ho nin) hn ((n.later k1).weak fun _ => .inl)) (.nw (k2 p _ hp np).1 hl (hr'.mono v) a) (k1.trans k2) (d1.trans d2)
    | err y e2 =>
      rw [q] at h1
      exact fun cls d H' g' er k' => h1 cls d H' g'.bare er (k1.trans k')
    | stuck => rw [q] at h1; exact h1
  | err y e1 => rw [q0] at h0; exact h0
  | stuck => rw [q0] at h0; exact h0
end
def frzAV : List AV → Sls → Out (List Sl)
  | [], e => .ok [] e
  | .sv x :: as, e => (frzO x e).bind fun y e1 =>
    match y with
    | .val d => (frzAV as e1).bind fun ss e2 => .ok (.val d :: ss) e2
    | _ => .stuck
  | .nw xs :: as, e => (frzAV as e).bind fun ss e1 => .ok (.own xs :: ss) e1
inductive FVs (K : PySem.W.Frag) (M H : Hp) : List V → List Sl → List Addr → Prop
  | nil : FVs K M H [] [] []
  | val {v : V} {d : PyData} {vs : List V} {ss : List Sl} {ps : List Addr} : Rp K M v d → FVs K M H vs ss ps → FVs K M H (v :: vs) (.val d :: ss) ps
  | own {p : Addr} {ys : List V} {xs : List PyData} {vs : List V} {ss : List Sl} {ps : List Addr} : H p = some (.lst ys) → ys.length ≤ sizeLine → RpAll K M ys xs → FVs K M H vs ss ps → FVs K M H (.ref p :: vs) (.own xs :: ss) (p :: ps)
section
variable {K : PySem.W.Frag} {O : Addr → Prop} {F : List (Nat × V)} {H M : Hp} {σ : St} {e : Sls}
theorem FVs.mono {M' : Hp} (s : Same M M') : ∀ {vs : List V} {ss : List Sl} {ps : List Addr}, FVs K M H vs ss ps → FVs K M' H vs ss ps
  | _, _, _, .nil => .nil
  | _, _, _, .val h t => .val (h.mono s) (FVs.mono s t)
  | _, _, _, .own h1 h2 h3 t => .own h1 h2 (h3.mono s) (FVs.mono s t)
theorem FVs.len : ∀ {vs : List V} {ss : List Sl} {ps : List Addr}, FVs K M H vs ss ps → vs.length = ss.length
  | _, _, _, .nil => rfl
  | _, _, _, .val _ t => by rw [List.length_cons, List.length_cons, FVs.len t]
  | _, _, _, .own _ _ _ t => by rw [List.length_cons, List.length_cons, FVs.len t]
theorem AVs.kp {e' : Sls} (g : Good K O F H σ e) (g' : Good K O F H σ e') (k : Kp σ e H σ e' H) (d : Dn e e') : ∀ {vs : List V} {as : List AV} {ps : List Addr}, AVs K O H σ e vs as ps → AVs K O H σ e' vs as ps
  | _, _, _, .nil => .nil
  | _, _, _, .sv h t => .sv (h.kp g g' k d) (AVs.kp g g' k d t)
  | _, _, _, .nw h1 h2 h3 t => .nw h1 h2 (h3.mono k.vis) (AVs.kp g g' k d t)
theorem frzAV_ok : ∀ {as : List AV} {vs : List V} {ps : List Addr} {e : Sls} {ss : List Sl} {e' : Sls}, Good K O F H σ e → AVs K O H σ e vs as ps → frzAV as e = .ok ss e' → Good K O F H σ e' ∧ Kp σ e H σ e' H ∧ Dn e e' ∧ FVs K (msk (Hid O σ e') H) H vs ss ps
  | [], _, _, e, _, _, g, r, h => by
    cases r
    cases h
    exact ⟨g, Kp.refl, Dn.refl, .nil⟩
  | .sv x :: as, _, _, e, ss, e', g, .sv (v := v) r t, h => by
    unfold frzAV at h
    have mk : ∀ {o : Out SV} , frzO x e = o → ∃ d e1, Good K O F H σ e1 ∧ Kp σ e H σ e1 H ∧ Dn e e1 ∧ Rp K (msk (Hid O σ e1) H) v d ∧ frzO x e = Out.ok (.val d) e1 := fun {o} q => by
      obtain ⟨d, e1, q1, q2, q3, q4, _, q6⟩ := SVR.freeze (M := ⟨K, fun _ => none⟩) (W := fun _ _ _ _ => True) (R := fun _ _ _ => True) g r (by
        cases q : frzO x e with
        | ok _ _ => exact fun _ _ _ _ => trivial
        | err _ _ => exact fun _ _ _ _ _ _ => trivial
        | stuck => rw [q] at h; cases h)
      exact ⟨d, e1, q1, q2, q3, q4, q6⟩
    obtain ⟨d, e1, g1, k1, d1, r1, q⟩ := mk rfl
    rw [q] at h
    replace h : ((frzAV as e1).bind fun ss e2 => Out.ok (Sl.val d :: ss) e2) = .ok ss e' := h
    obtain ⟨ss', e2, h1, h2⟩ := Out.bind_ok h
    cases h2
    obtain ⟨g2, k2, d2, f2⟩ := frzAV_ok g1 (t.kp g g1 k1 d1) h1
    exact ⟨g2, k1.trans k2, d1.trans d2, .val (r1.mono k2.vis) f2⟩
  | .nw xs :: as, _, _, e, ss, e', g, .nw h1 h2 h3 t, h => by
    unfold frzAV at h
    obtain ⟨ss', e2, q1, q2⟩ := Out.bind_ok h
    cases q2
    obtain ⟨g2, k2, d2, f2⟩ := frzAV_ok g t q1
    exact ⟨g2, k2, d2, .own h1 h2 (h3.mono k2.vis) f2⟩
theorem frzAV_noerr : ∀ {as : List AV} {e : Sls} {x : Exn} {e' : Sls}, frzAV as e ≠ .err x e'
  | [], e, x, e', h => by cases h
  | .sv y :: as, e, x, e', h => by
    unfold frzAV at h
    cases y with
    | val d =>
      cases q : frzAV as e with
      | ok ss e2 =>
        have h' : ((frzAV as e).bind fun ss e2 => Out.ok (Sl.val d :: ss) e2) = .err x e' := h
        rw [q] at h'; cases h'
      | err z e2 => exact frzAV_noerr q
      | stuck =>
        have h' : ((frzAV as e).bind fun ss e2 => Out.ok (Sl.val d :: ss) e2) = .err x e' := h
        rw [q] at h'; cases h'
    | var i =>
      have h0 : ((frz i e).bind fun y e1 => (match y with | .val d => (frzAV as e1).bind fun ss e2 => Out.ok (Sl.val d :: ss) e2 | _ => .stuck)) = .err x e' := h
      unfold frz at h0
      cases q : e[i]? with
      | none => rw [q] at h0; cases h0
      | some s =>
        rw [q] at h0
        cases s with
        | no => cases h0
        | val d =>
          cases q2 : frzAV as e with
          | ok ss e2 =>
            have h' : ((frzAV as e).bind fun ss e2 => Out.ok (Sl.val d :: ss) e2) = .err x e' := h0
            rw [q2] at h'; cases h'
          | err z e2 => exact frzAV_noerr q2
          | stuck =>
            have h' : ((frzAV as e).bind fun ss e2 => Out.ok (Sl.val d :: ss) e2) = .err x e' := h0
            rw [q2] at h'; cases h'
        | own xs =>
          cases q2 : frzAV as (e.set i (.val (.list xs))) with
          | ok ss e2 =>
            have h' : ((frzAV as (e.set i (.val (.list xs)))).bind fun ss e2 => Out.ok (Sl.val (.list xs) :: ss) e2) = .err x e' := h0
            rw [q2] at h'; cases h'
          | err z e2 => exact frzAV_noerr q2
          | stuck =>
            have h' : ((frzAV as (e.set i (.val (.list xs)))).bind fun ss e2 => Out.ok (Sl.val (.list xs) :: ss) e2) = .err x e' := h0
            rw [q2] at h'; cases h'
  | .nw xs :: as, e, x, e', h => by
    unfold frzAV at h
    cases q : frzAV as e with
    | ok ss e2 => rw [q] at h; cases h
    | err z e2 => exact frzAV_noerr q
    | stuck => rw [q] at h; cases h
def setAll : List Nat → List Sl → Sls → Sls
  | i :: is, s :: ss, e => setAll is ss (e.set i s)
  | _, _, e => e
def setSt : List Nat → List V → St → St
  | i :: is, v :: vs, σ => setSt is vs (σ.set i (some v))
  | _, _, σ => σ
theorem setN_sub {p : Addr} {xs : List PyData} {i : Nat} (g : Good K (Op O p) F H σ e) : Same (msk (Hid (Op O p) σ e) H) (msk (Hid O (σ.set i (some (V.ref p))) (e.set i (Sl.own xs))) H) := fun a o q => by
  obtain ⟨n, q⟩ := msk_some.mp q
  refine msk_some.mpr ⟨fun z => n ?_, q⟩
  rcases z with z | ⟨j, ys, h1, h2⟩
  · exact .inl (.inl z)
  · rcases getset2 (m := σ) (z := some (V.ref p)) g.len h1 with ⟨_, z, z2⟩ | ⟨_, z, z2⟩
    · rw [z2] at h2; cases h2; exact .inl (.inr rfl)
    · rw [z2] at h2; exact .inr ⟨j, ys, z, h2⟩
theorem setAll_ok {σ0 : St} {e0 : Sls} {H0 : Hp} : ∀ {is : List Nat} {vs : List V} {ss : List Sl} {ps : List Addr} {σ : St} {e : Sls}, Good K (Ops O ps) F H σ e → NewPs O σ0 e0 H0 ps → FVs K (msk (Hid (Ops O ps) σ e) H) H vs ss ps → Kp σ0 e0 H0 σ e H → (∀ i ∈ is, ∀ q ∈ F, q.1 ≠ i) → is.length = vs.length →
    Good K O F H (setSt is vs σ) (setAll is ss e) ∧ Kp σ0 e0 H0 (setSt is vs σ) (setAll is ss e) H
  | [], _, _, _, σ, e, g, n, f, k, hi, hl => by
    cases f with
    | nil => rw [Ops.nil] at g; exact ⟨g, k⟩
    | val _ _ => cases hl
    | own _ _ _ _ => cases hl
  | i :: is, _, _, _, σ, e, g, n, f, k, hi, hl => by
    cases f with
    | nil => cases hl
    | val h t =>
      rename_i v d vs ss
      obtain ⟨g1, k1⟩ := g.setV (i := i) h (hi i List.mem_cons_self)
      exact setAll_ok (is := is) g1 n (t.mono k1.vis) (k.trans k1) (fun j hj => hi j (List.mem_cons_of_mem _ hj)) (Nat.succ.inj hl)
    | own h1 h2 h3 t =>
      rename_i p ys xs vs ss ps
      cases n with
      | cons n1 n2 n3 =>
        rw [Ops.cons] at g h3 t
        obtain ⟨g1, k1⟩ := g.setN (i := i) h1 h2 h3 n1 n2 k (hi i List.mem_cons_self)
        exact setAll_ok (is := is) g1 n3 (t.mono (setN_sub g)) k1 (fun j hj => hi j (List.mem_cons_of_mem _ hj)) (Nat.succ.inj hl)
end
def parS (is : List Nat) (fs : Sls → Out (List AV)) : Sls → OutS := fun e => (fs e).toS fun as e1 => (frzAV as e1).toS fun ss e2 => if ss.length = is.length then .nx (setAll is ss e2) else .stuck
section
variable {X : Cx} {fx : List Nat} {W : WX} {fs : Sls → Out (List AV)}
theorem par_ok {is : List Nat} {D : Ends} {σ : St} {H : Hp} (hfx : ∀ i ∈ is, fx.contains i = false) (h : cS X.md fx W (parS is fs) D σ H) : cAN X.md fx W fs σ H (fun vs H1 => vs.length = is.length ∧ D.nx (setSt is vs σ) H1) := by
  obtain ⟨O, F, e, hF, g, h⟩ := h
  refine ⟨O, F, e, hF, g, ?_⟩
  unfold parS at h
  have hb := PoS.bind h
  cases q : fs e with
  | ok as e1 =>
    rw [q] at h
    intro vs ps H1 g1 n a k1 d1
    have h1 : PoS X.md O F σ e H W D ((frzAV as e1).toS fun ss e2 => if ss.length = is.length then .nx (setAll is ss e2) else .stuck) := h
    cases q2 : frzAV as e1 with
    | ok ss e2 =>
      rw [q2] at h1
      obtain ⟨g2, k2, d2, f2⟩ := frzAV_ok g1 a q2
      have h2 : PoS X.md O F σ e H W D (if ss.length = is.length then .nx (setAll is ss e2) else .stuck) := h1
      have lv : vs.length = ss.length := f2.len
      split at h2
      · rename_i hl
        obtain ⟨g3, k3⟩ := setAll_ok (is := is) g2 n f2 (k1.trans k2) (fun i hi q hq z => by
          have := hF q hq
          rw [z] at this
          have c := hfx i hi
          rw [List.contains_iff_mem.mpr this] at c
          cases c) (by omega)
        exact ⟨by omega, h2 _ H1 g3 k3⟩
      · exact h2.elim
    | err x e2 => exact absurd q2 frzAV_noerr
    | stuck => rw [q2] at h1; exact h1.elim
  | err x e1 => rw [q] at hb; exact hb
  | stuck => rw [q] at hb; exact hb
theorem pps_par2 {i j : Nat} {x y : Str} {a b : Expr} {px py pt pos : Pos} {kt k2 pt2} (hfx : ∀ k ∈ [i, j], fx.contains k = false) (hc : X.calm = true) (hN : X.N.Nodup) (ha : PA X [a, b] (cAN X.md fx W fs)) (hi : X.N[i]? = some x := by rfl) (hj : X.N[j]? = some y := by rfl) (hij : i ≠ j := by decide)
    (hx : X.env.scope.names.lookup x = some .local := by rfl) (hy : X.env.scope.names.lookup y = some .local := by rfl)
    (hw : swappedStores [.Tuple [.Name x px, .Name y py] kt pt] (.Tuple [a, b] k2 pt2) X.env = pure (some [x, y]) := by rfl)
    (hs : swapsWithSole [.Tuple [.Name x px, .Name y py] kt pt] (.Tuple [a, b] k2 pt2) pos.line X.env = pure false := by rfl) :
    PS X (.Assign [.Tuple [.Name x px, .Name y py] kt pt] (.Tuple [a, b] k2 pt2) pos) (cS X.md fx W (parS [i, j] fs)) := by
  refine (ps_par hc hN hi hj hij hx hy ha hw hs).weak fun D σ H h => ?_
  obtain ⟨O, F, e, hF, g, h⟩ := par_ok hfx h
  refine ⟨O, F, e, hF, g, ?_⟩
  cases q : fs e with
  | ok as e1 =>
    rw [q] at h
    intro vs ps H1 g1 n a k1 d1
    obtain ⟨hl, hq⟩ := h vs ps H1 g1 n a k1 d1
    match vs, hl with
    | [v, w], _ => exact ⟨v, w, rfl, hq⟩
  | err x e1 => rw [q] at h; exact h
  | stuck => rw [q] at h; exact h
theorem pps_par3 {i j l : Nat} {x y z : Str} {a b c : Expr} {px py pz pt pos : Pos} {kt k2 pt2} (hfx : ∀ k ∈ [i, j, l], fx.contains k = false) (hc : X.calm = true) (hN : X.N.Nodup) (ha : PA X [a, b, c] (cAN X.md fx W fs)) (hi : X.N[i]? = some x := by rfl) (hj : X.N[j]? = some y := by rfl) (hl : X.N[l]? = some z := by rfl) (hij : i ≠ j := by decide) (hil : i ≠ l := by decide) (hjl : j ≠ l := by decide)
    (hx : X.env.scope.names.lookup x = some .local := by rfl) (hy : X.env.scope.names.lookup y = some .local := by rfl) (hz : X.env.scope.names.lookup z = some .local := by rfl)
    (hw : swappedStores [.Tuple [.Name x px, .Name y py, .Name z pz] kt pt] (.Tuple [a, b, c] k2 pt2) X.env = pure (some [x, y, z]) := by rfl)
    (hs : swapsWithSole [.Tuple [.Name x px, .Name y py, .Name z pz] kt pt] (.Tuple [a, b, c] k2 pt2) pos.line X.env = pure false := by rfl) :
    PS X (.Assign [.Tuple [.Name x px, .Name y py, .Name z pz] kt pt] (.Tuple [a, b, c] k2 pt2) pos) (cS X.md fx W (parS [i, j, l] fs)) := by
  refine (ps_par3 hc hN hi hj hl hij hil hjl hx hy hz ha hw hs).weak fun D σ H h => ?_
  obtain ⟨O, F, e, hF, g, h⟩ := par_ok hfx h
  refine ⟨O, F, e, hF, g, ?_⟩
  cases q : fs e with
  | ok as e1 =>
    rw [q] at h
    intro vs ps H1 g1 n a k1 d1
    obtain ⟨hl, hq⟩ := h vs ps H1 g1 n a k1 d1
    match vs, hl with
    | [u, v, w], _ => exact ⟨u, v, w, rfl, hq⟩
  | err x e1 => rw [q] at h; exact h
  | stuck => rw [q] at h; exact h
end
end PP
set_option maxRecDepth 100000
namespace PP
open PySem PySem.Spec PyProof.Rows L2
structure Ct (X : Cx) (W : WX) (k : Nat) : Prop where
  calm : X.calm = true
  gd : X.A.guards = some []
  room : Room k X.A
  tk : Takes X W
  nd : X.N.Nodup
theorem Ct.u64 {X : Cx} {W : WX} {k : Nat} (c : Ct X W k) : X.A.units + 64 < cLine := by have := c.room.un; omega
theorem Ct.u65 {X : Cx} {W : WX} {k : Nat} (c : Ct X W k) : X.A.units + 65 < cLine := by have := c.room.un; omega
theorem Ct.u66 {X : Cx} {W : WX} {k : Nat} (c : Ct X W k) : X.A.units + 66 < cLine := by have := c.room.un; omega
theorem Ct.blk {X : Cx} {W : WX} {k : Nat} (c : Ct X W k) (s : Shared) (H : Hp) (scope : Scope) (env : Env) (fp : List Addr) : Ct (X.blk s H scope env fp) W0 k := ⟨c.calm, c.gd, c.room, takes0, c.nd⟩
structure Cs (X : Cx) (W : WX) (k : Nat) : Prop extends Ct X W k where
  pass : PassesOwn (model X.prog X.w) X.A X.env X.xe
  stk : X.stack = X.env :: X.outer
  fr : X.env.frame = some X.env.locals
theorem cs_of {P : Program} {w : World} {K : PySem.W.Frag} {mg : Str → Option Value} {base : Heap} {N : List Str} {qual : Str} {scope : Scope} {f : Addr} {cdv : Value} {A : Around} {outer : List Env} {s : Shared} {H : Hp} {E : XK} {k : Nat} (gd : A.guards = some []) (hr : Room k (A.deeper (envOfC qual scope s.heap.objs.size f cdv))) (nd : N.Nodup) :
    Cs (cxOf (L2.CX P w) P w K mg base N qual scope f cdv A outer s H E) (fun cls d _ H => E cls d H) k :=
  ⟨⟨rfl, gd, hr, takes_of (E := E) rfl rfl rfl rfl, nd⟩, passes_of rfl, rfl, rfl⟩
theorem Cs.tr {X : Cx} {W W' : WX} {k : Nat} (c : Cs X W k) {pn : List (Addr × Obj)} {xe : Value → Shared → Prop} (tk : Takes (X.tr pn xe) W') (p : PassesOwn (model X.prog X.w) X.A X.env xe) : Cs (X.tr pn xe) W' k :=
  ⟨⟨c.calm, c.gd, c.room, tk, c.nd⟩, p, c.stk, c.fr⟩
structure CallOk (P : Program) (w : World) (K : PySem.W.Frag) (mg : Str → Option Value) (base : Heap) (k : Nat) (x : Str) (ps : List Str) (sp : Sp) : Prop where
  ex : ∃ f fd, mg x = some (.ref f) ∧ PySem.W.keepIn K (.ref f) = true ∧ Binds K fd ps [] ∧ FnG P w K mg base k f fd ps sp
structure KindOk (P : Program) (w : World) (K : PySem.W.Frag) (mg : Str → Option Value) (base : Heap) (k : Nat) (x nm : Str) (kind : String → Option Str) : Prop where
  ex : ∃ f fd, mg x = some (.ref f) ∧ PySem.W.keepIn K (.ref f) = true ∧ Binds K fd [nm] [] ∧ FnK P w K mg base k f fd nm kind
theorem fun_of {K : PySem.W.Frag} {x q : Str} {st : Stmt} {f : Addr} {fd : FuncData} {kws : List (Str × V)} (F : FunD K x q (defArgs st) (defBody st) (defScope st) [] kws f fd) : Fun K x q st f fd := by
  obtain ⟨oc, od, dV, kV, doc, pm, an, cdv, ct, osl, e, lk, hcd, hD, hK⟩ := F.ex
  rcases hD with ⟨_, e2⟩ | ⟨e2, _⟩
  · subst e2
    exact ⟨⟨oc, od, kV, doc, pm, an, cdv, ct, osl, e, lk, hcd⟩, F.kp⟩
  · simp at e2
section
variable {X : Cx} {fx : List Nat} {W : WX} {k : Nat} {a b c d : Expr} {es : List Expr} {fa fb fc : Sls → Out SV} {fs : Sls → Out (List SV)} {pos p : Pos}
theorem w_op {op : Operator} {od : PyData → PyData → Option PyData} (h : O2 X (binaryOp op) od) (ha : PE X a (cE X.md fx W fa)) (hb : PE X b (cE X.md fx W fb)) : PE X (.BinOp a op b pos) (cE X.md fx W (bin2 od fa fb)) := by
  obtain ⟨r, h1, h2⟩ := h
  exact pp_op h1 h2 ha hb
theorem w_opn {op : Operator} {od : PyData → PyData → Option (List PyData)} (h : O2n X (binaryOp op) od) (ha : PE X a (cE X.md fx W fa)) (hb : PE X b (cE X.md fx W fb)) : PE X (.BinOp a op b pos) (cN X.md fx W (bin2n od fa fb)) := by
  obtain ⟨r, h1, h2⟩ := h
  exact pp_opn h1 h2 ha hb
theorem w_neg (ha : PE X a (cE X.md fx W fa)) : PE X (.UnaryOp .USub a pos) (cE X.md fx W (un1 negD fa)) := by
  obtain ⟨r, h1, h2⟩ := @o1_neg X
  exact pp_un h1 h2 ha
theorem w_cmp {op : CmpOp} {od : PyData → PyData → Option PyData} (h : O2 X (compareOp op) od) (ha : PE X a (cE X.md fx W fa)) (hb : PE X b (cE X.md fx W fb)) (hm : behindInMarks op b = false := by first | exact nomark _ | with_unfolding_all rfl) : PE X (.Compare a [op] [b] pos) (cE X.md fx W (bin2 od fa fb)) := by
  obtain ⟨r, h1, h2⟩ := h
  exact pp_cmp h1 h2 ha hb hm
theorem wt_cmp {op : CmpOp} {od : PyData → PyData → Option PyData} (h : O2 X (compareOp op) od) (ha : PE X a (cE X.md fx W fa)) (hb : PE X b (cE X.md fx W fb)) (hm : behindInMarks op b = false := by first | exact nomark _ | with_unfolding_all rfl) : PT X (.Compare a [op] [b] pos) (cT X.md fx W (asB (bin2 od fa fb))) := by
  obtain ⟨r, h1, h2⟩ := h
  exact ppt_cmp h1 h2 ha hb hm
theorem w_chain {op op' : CmpOp} {od od' : PyData → PyData → Option PyData} (h : O2 X (compareOp op) od) (h' : O2 X (compareOp op') od') (ha : PE X a (cE X.md fx W fa)) (hb : PE X b (cE X.md fx W fb)) (hc : PE X c (cE X.md fx W fc)) (hm : lastMarks [op, op'] [b, c] = false := by with_unfolding_all rfl) :
    PE X (.Compare a [op, op'] [b, c] pos) (cE X.md fx W (chain od od' fa fb fc)) := by
  obtain ⟨r, h1, h2⟩ := h
  obtain ⟨r', h3, h4⟩ := h'
  exact pp_chain h1 h3 h2 h4 ha hb hc hm
theorem wt_chain {op op' : CmpOp} {od od' : PyData → PyData → Option PyData} (h : O2 X (compareOp op) od) (h' : O2 X (compareOp op') od') (ha : PE X a (cE X.md fx W fa)) (hb : PE X b (cE X.md fx W fb)) (hc : PE X c (cE X.md fx W fc)) (hm : lastMarks [op, op'] [b, c] = false := by with_unfolding_all rfl) :
    PT X (.Compare a [op, op'] [b, c] pos) (cT X.md fx W (asB (chain od od' fa fb fc))) := by
  obtain ⟨r, h1, h2⟩ := h
  obtain ⟨r', h3, h4⟩ := h'
  exact ppt_chain h1 h3 h2 h4 ha hb hc hm
theorem w_ix (ha : PE X a (cE X.md fx W fa)) (hb : PE X b (cE X.md fx W fb)) (hm : PlainIx b := by intro _ _; with_unfolding_all rfl) : PE X (.Subscript a b pos) (cE X.md fx W (bin2 ixD fa fb)) := by
  obtain ⟨r, h1, h2⟩ := @i2_ix X
  exact pp_ix h1 h2 ha hb hm
theorem w_glo {x : Str} {d : PyData} (hm : ∃ v u, X.mg x = some u ∧ RelV v u ∧ ∀ K H, Rp K H v d) (hg : Gl X x := by rfl) (hd : (x == ("__debug__" : Str)) = false := by decide) : PE X (.Name x pos) (cE X.md fx W (cst d)) := by
  obtain ⟨v, u, h1, h2, h3⟩ := hm
  exact pp_cst (pe_glob hg h1 h2 hd) h3
theorem gint {x : Str} {i : Int} (h : ∃ t, X.mg x = some (.int i t)) : ∃ v u, X.mg x = some u ∧ RelV v u ∧ ∀ K H, Rp K H v (.int i) := by
  obtain ⟨t, h⟩ := h
  exact ⟨.int i, _, h, ⟨t, rfl⟩, fun _ _ => .int i⟩
theorem gstr {x : Str} {i : Str} (h : ∃ t, X.mg x = some (.str i t)) : ∃ v u, X.mg x = some u ∧ RelV v u ∧ ∀ K H, Rp K H v (.str i) := by
  obtain ⟨t, h⟩ := h
  exact ⟨.str i, _, h, ⟨t, rfl⟩, fun _ _ => .str i⟩
theorem w_bi {x : Str} {id : String} {od : List PyData → Option PyData} (h : ON X (.builtin id) od) (hm : X.mg x = none) (ha : PA X (a :: es) (cA X.md fx W fs)) (hv : bootBuiltins x = some (.builtin id) := by first | decide +kernel | rfl) (hg : Gl X x := by rfl) (hn : x ≠ "__name__" := by decide) (hdb : (x == ("__debug__" : Str)) = false := by decide)
    (he : starEach (a :: es) X.env = (false, eval a X.env) :: starEach es X.env := by rfl) (hpl : (backTo pos (starEach es X.env)).any (·.1) = false := by rfl) : PE X (.Call (.Name x p) (a :: es) [] pos) (cE X.md fx W (argsN od fs)) := by
  obtain ⟨r, h1, h2⟩ := h
  exact pp_callB h1 h2 hg hm hv ha hn hdb he hpl
theorem w_bin {x : Str} {id : String} {od : List PyData → Option (List PyData)} (h : ONn X (.builtin id) od) (hm : X.mg x = none) (ha : PA X (a :: es) (cA X.md fx W fs)) (hv : bootBuiltins x = some (.builtin id) := by first | decide +kernel | rfl) (hg : Gl X x := by rfl) (hn : x ≠ "__name__" := by decide) (hdb : (x == ("__debug__" : Str)) = false := by decide)
    (he : starEach (a :: es) X.env = (false, eval a X.env) :: starEach es X.env := by rfl) (hpl : (backTo pos (starEach es X.env)).any (·.1) = false := by rfl) : PE X (.Call (.Name x p) (a :: es) [] pos) (cN X.md fx W (argsNn od fs)) := by
  obtain ⟨r, h1, h2⟩ := h
  exact pp_callBn h1 h2 hg hm hv ha hn hdb he hpl
theorem w_ty {x : Str} {T : String} {od : List PyData → Option PyData} (h : ON X (.type T) od) (hm : X.mg x = none) (ha : PA X (a :: es) (cA X.md fx W fs)) (hv : bootBuiltins x = some (.type T) := by first | decide +kernel | rfl) (hg : Gl X x := by rfl) (hn : x ≠ "__name__" := by decide) (hdb : (x == ("__debug__" : Str)) = false := by decide)
    (he : starEach (a :: es) X.env = (false, eval a X.env) :: starEach es X.env := by rfl) (hpl : (backTo pos (starEach es X.env)).any (·.1) = false := by rfl) : PE X (.Call (.Name x p) (a :: es) [] pos) (cE X.md fx W (argsN od fs)) := by
  obtain ⟨r, h1, h2⟩ := h
  exact pp_callTy h1 h2 hg hm hv ha hn hdb he hpl
theorem w_tyn {x : Str} {T : String} {od : List PyData → Option (List PyData)} (h : ONn X (.type T) od) (hm : X.mg x = none) (ha : PA X (a :: es) (cA X.md fx W fs)) (hv : bootBuiltins x = some (.type T) := by first | decide +kernel | rfl) (hg : Gl X x := by rfl) (hn : x ≠ "__name__" := by decide) (hdb : (x == ("__debug__" : Str)) = false := by decide)
    (he : starEach (a :: es) X.env = (false, eval a X.env) :: starEach es X.env := by rfl) (hpl : (backTo pos (starEach es X.env)).any (·.1) = false := by rfl) : PE X (.Call (.Name x p) (a :: es) [] pos) (cN X.md fx W (argsNn od fs)) := by
  obtain ⟨r, h1, h2⟩ := h
  exact pp_callTyn h1 h2 hg hm hv ha hn hdb he hpl
theorem w_call {x : Str} {ps : List Str} {j : Nat} {spec : List PyData → Rs PyData} (ct : Ct X W k) (C : CallOk X.prog X.w X.K X.mg X.base j x ps (spP X.md ps.length spec)) (hj : j ≤ k) (ha : PA X (a :: es) (cA X.md fx W fs)) (hlen : ALen fs (a :: es).length) (hn : (a :: es).length = ps.length := by rfl) (hg : Gl X x := by rfl) (hdb : (x == ("__debug__" : Str)) = false := by decide)
    (he : starEach (a :: es) X.env = (false, eval a X.env) :: starEach es X.env := by rfl) (hpl : (backTo pos (starEach es X.env)).any (·.1) = false := by rfl) : PE X (.Call (.Name x p) (a :: es) [] pos) (cE X.md fx W (callP spec fs)) := by
  obtain ⟨f, fd, h1, h2, h3, F⟩ := C.ex
  exact pp_callP F ct.gd (ct.room.mono hj) h1 h2 h3 ct.tk ha hn hg hdb he hpl hlen
theorem w_calln {x : Str} {ps : List Str} {j : Nat} {spec : List PyData → Rs (List PyData)} (ct : Ct X W k) (C : CallOk X.prog X.w X.K X.mg X.base j x ps (spN X.md ps.length spec)) (hj : j ≤ k) (ha : PA X (a :: es) (cA X.md fx W fs)) (hlen : ALen fs (a :: es).length) (hn : (a :: es).length = ps.length := by rfl) (hg : Gl X x := by rfl) (hdb : (x == ("__debug__" : Str)) = false := by decide)
    (he : starEach (a :: es) X.env = (false, eval a X.env) :: starEach es X.env := by rfl) (hpl : (backTo pos (starEach es X.env)).any (·.1) = false := by rfl) : PE X (.Call (.Name x p) (a :: es) [] pos) (cN X.md fx W (callN spec fs)) := by
  obtain ⟨f, fd, h1, h2, h3, F⟩ := C.ex
  exact pp_callN F ct.gd (ct.room.mono hj) h1 h2 h3 ct.tk ha hn hg hdb he hpl hlen
theorem w_callo {x y : Str} {xp : Pos} {ps : List Str} {i j : Nat} {spec : List PyData → List PyData → Rs (PyData × List PyData)} (ct : Ct X W k) (C : CallOk X.prog X.w X.K X.mg X.base j x ps (spO X.md ps.length spec)) (hj : j ≤ k) (ha : PA X es (cA X.md fx W fs)) (hlen : ALen fs es.length) (hN : X.N[i]? = some y := by rfl) (hn : es.length + 1 = ps.length := by rfl) (hv : Vis X.env.scope y := by first | exact .inl rfl | exact .inr (.inl rfl) | exact .inr (.inr rfl)) (hd : (y == ("__debug__" : Str)) = false := by decide) (hcd : (y == ("__classdict__" : Str)) = false := by decide)
    (hg : Gl X x := by rfl) (hdb : (x == ("__debug__" : Str)) = false := by decide) (he : starEach (.Name y xp :: es) X.env = (false, eval (.Name y xp) X.env) :: starEach es X.env := by rfl) (hpl : (backTo pos (starEach es X.env)).any (·.1) = false := by rfl) :
    PE X (.Call (.Name x p) (.Name y xp :: es) [] pos) (cE X.md fx W (callO i spec fs)) := by
  obtain ⟨f, fd, h1, h2, h3, F⟩ := C.ex
  exact pp_callO F ct.gd (ct.room.mono hj) h1 h2 h3 ct.tk ha hlen hn hN hv hd hcd hg hdb he hpl
theorem w_callon {x y : Str} {xp : Pos} {ps : List Str} {i j : Nat} {spec : List PyData → List PyData → Rs (List PyData × List PyData)} (ct : Ct X W k) (C : CallOk X.prog X.w X.K X.mg X.base j x ps (spON X.md ps.length spec)) (hj : j ≤ k) (ha : PA X es (cA X.md fx W fs)) (hlen : ALen fs es.length) (hN : X.N[i]? = some y := by rfl) (hn : es.length + 1 = ps.length := by rfl) (hv : Vis X.env.scope y := by first | exact .inl rfl | exact .inr (.inl rfl) | exact .inr (.inr rfl)) (hd : (y == ("__debug__" : Str)) = false := by decide) (hcd : (y == ("__classdict__" : Str)) = false := by decide)
    (hg : Gl X x := by rfl) (hdb : (x == ("__debug__" : Str)) = false := by decide) (he : starEach (.Name y xp :: es) X.env = (false, eval (.Name y xp) X.env) :: starEach es X.env := by rfl) (hpl : (backTo pos (starEach es X.env)).any (·.1) = false := by rfl) :
    PE X (.Call (.Name x p) (.Name y xp :: es) [] pos) (cN X.md fx W (callON i spec fs)) := by
  obtain ⟨f, fd, h1, h2, h3, F⟩ := C.ex
  exact pp_callON F ct.gd (ct.room.mono hj) h1 h2 h3 ct.tk ha hlen hn hN hv hd hcd hg hdb he hpl
theorem w_slT {lo hi : Option Expr} {p2 : Pos} {l u : Sls → Out (Option Int)} (ha : PE X a (cE X.md fx W fa)) (hl : PO X lo (cO X.md fx W l)) (hu : PO X hi (cO X.md fx W u)) : PE X (.Subscript a (.Slice lo hi none p2) pos) (cE X.md fx W (slc slTD fa l u)) := by
  obtain ⟨r, h1, h2⟩ := @os_tup X
  exact pp_slice h1 h2 ha hl hu
theorem w_slL {lo hi : Option Expr} {p2 : Pos} {l u : Sls → Out (Option Int)} (ha : PE X a (cE X.md fx W fa)) (hl : PO X lo (cO X.md fx W l)) (hu : PO X hi (cO X.md fx W u)) : PE X (.Subscript a (.Slice lo hi none p2) pos) (cN X.md fx W (slcN slLD fa l u)) := by
  obtain ⟨r, h1, h2⟩ := @osn_list X
  exact pp_sliceN h1 h2 ha hl hu
end
end PP
namespace PP
open PySem PySem.Spec PyProof.Rows L2
section
variable {X : Cx} {fx : List Nat} {W : WX} {k : Nat} {a b c d : Expr} {es : List Expr} {fa fb fc : Sls → Out SV} {fs : Sls → Out (List SV)} {apos cpos xp : Pos}
theorem w_index (ct : Ct X W k) (ho : PE X a (cE X.md fx W fa)) (ha : PA X (b :: es) (cA X.md fx W fs)) (hbase : attributeBase a "index" X.env (eval a X.env) = eval a X.env := by rfl)
    (hfew : ((backTo cpos (starEach (b :: es) X.env)).all (fun x => !x.1) && (backToKw cpos (keywordEach [] X.env)).all (fun x => x.1.isSome)
      && decide ((b :: es).length + ([] : List Keyword).length + (if ([] : List Keyword).isEmpty then 0 else 1) < 30)) = true := by rfl)
    (hline : (apos.endLine == cpos.line) = true := by rfl) (hst : starEach (b :: es) X.env = (false, eval b X.env) :: starEach es X.env := by rfl) (hplain : (backTo cpos (starEach es X.env)).any (·.1) = false := by rfl) :
    PE X (.Call (.Attribute a "index" apos) (b :: es) [] cpos) (cE X.md fx W (meth "list" idxD fa fs)) := by
  obtain ⟨r, h1, h2⟩ := om_index (X := X) ct.u65
  exact pp_meth PySem.F.plainAttrs_list PySem.F.slot_list_index PySem.F.type_list_index h1 h2 ho ha hbase hfew hline hst hplain
theorem w_count (ct : Ct X W k) (ho : PE X a (cE X.md fx W fa)) (ha : PA X (b :: es) (cA X.md fx W fs)) (hbase : attributeBase a "count" X.env (eval a X.env) = eval a X.env := by rfl)
    (hfew : ((backTo cpos (starEach (b :: es) X.env)).all (fun x => !x.1) && (backToKw cpos (keywordEach [] X.env)).all (fun x => x.1.isSome)
      && decide ((b :: es).length + ([] : List Keyword).length + (if ([] : List Keyword).isEmpty then 0 else 1) < 30)) = true := by rfl)
    (hline : (apos.endLine == cpos.line) = true := by rfl) (hst : starEach (b :: es) X.env = (false, eval b X.env) :: starEach es X.env := by rfl) (hplain : (backTo cpos (starEach es X.env)).any (·.1) = false := by rfl) :
    PE X (.Call (.Attribute a "count" apos) (b :: es) [] cpos) (cE X.md fx W (meth "list" cntD fa fs)) := by
  obtain ⟨r, h1, h2⟩ := om_count (X := X) ct.u65
  exact pp_meth PySem.F.plainAttrs_list PySem.F.slot_list_count PySem.F.type_list_count h1 h2 ho ha hbase hfew hline hst hplain
variable {i : Nat} {x : Str}
theorem w_append (ha : PA X (b :: es) (cA X.md fx W fs)) (hN : X.N[i]? = some x := by rfl) (hv : Vis X.env.scope x := by first | exact .inl rfl | exact .inr (.inl rfl) | exact .inr (.inr rfl)) (hd : (x == ("__debug__" : Str)) = false := by decide) (hcd : (x == ("__classdict__" : Str)) = false := by decide)
    (hbase : attributeBase (.Name x xp) "append" X.env (eval (.Name x xp) X.env) = eval (.Name x xp) X.env := by rfl)
    (hfew : ((backTo cpos (starEach (b :: es) X.env)).all (fun x => !x.1) && (backToKw cpos (keywordEach [] X.env)).all (fun x => x.1.isSome)
      && decide ((b :: es).length + ([] : List Keyword).length + (if ([] : List Keyword).isEmpty then 0 else 1) < 30)) = true := by rfl)
    (hline : (apos.endLine == cpos.line) = true := by rfl) (hst : starEach (b :: es) X.env = (false, eval b X.env) :: starEach es X.env := by rfl) (hplain : (backTo cpos (starEach es X.env)).any (·.1) = false := by rfl) :
    PE X (.Call (.Attribute (.Name x xp) "append" apos) (b :: es) [] cpos) (cE X.md fx W (mutF i appD fs)) := by
  obtain ⟨r, h1, h2⟩ := @om_append X
  exact pp_mutF PySem.F.plainAttrs_list PySem.F.slot_list_append PySem.F.type_list_append h1 h2 ha hN hv hd hcd hbase hfew hline hst hplain
theorem w_extend (ha : PA X (b :: es) (cA X.md fx W fs)) (hN : X.N[i]? = some x := by rfl) (hv : Vis X.env.scope x := by first | exact .inl rfl | exact .inr (.inl rfl) | exact .inr (.inr rfl)) (hd : (x == ("__debug__" : Str)) = false := by decide) (hcd : (x == ("__classdict__" : Str)) = false := by decide)
    (hbase : attributeBase (.Name x xp) "extend" X.env (eval (.Name x xp) X.env) = eval (.Name x xp) X.env := by rfl)
    (hfew : ((backTo cpos (starEach (b :: es) X.env)).all (fun x => !x.1) && (backToKw cpos (keywordEach [] X.env)).all (fun x => x.1.isSome)
      && decide ((b :: es).length + ([] : List Keyword).length + (if ([] : List Keyword).isEmpty then 0 else 1) < 30)) = true := by rfl)
    (hline : (apos.endLine == cpos.line) = true := by rfl) (hst : starEach (b :: es) X.env = (false, eval b X.env) :: starEach es X.env := by rfl) (hplain : (backTo cpos (starEach es X.env)).any (·.1) = false := by rfl) :
    PE X (.Call (.Attribute (.Name x xp) "extend" apos) (b :: es) [] cpos) (cE X.md fx W (mutR i extD fs)) := by
  obtain ⟨r, h1, h2⟩ := @om_extend X
  exact pp_mutR PySem.F.plainAttrs_list PySem.F.slot_list_extend PySem.F.type_list_extend h1 h2 ha hN hv hd hcd hbase hfew hline hst hplain
theorem w_popAt (ha : PA X (b :: es) (cA X.md fx W fs)) (hN : X.N[i]? = some x := by rfl) (hv : Vis X.env.scope x := by first | exact .inl rfl | exact .inr (.inl rfl) | exact .inr (.inr rfl)) (hd : (x == ("__debug__" : Str)) = false := by decide) (hcd : (x == ("__classdict__" : Str)) = false := by decide)
    (hbase : attributeBase (.Name x xp) "pop" X.env (eval (.Name x xp) X.env) = eval (.Name x xp) X.env := by rfl)
    (hfew : ((backTo cpos (starEach (b :: es) X.env)).all (fun x => !x.1) && (backToKw cpos (keywordEach [] X.env)).all (fun x => x.1.isSome)
      && decide ((b :: es).length + ([] : List Keyword).length + (if ([] : List Keyword).isEmpty then 0 else 1) < 30)) = true := by rfl)
    (hline : (apos.endLine == cpos.line) = true := by rfl) (hst : starEach (b :: es) X.env = (false, eval b X.env) :: starEach es X.env := by rfl) (hplain : (backTo cpos (starEach es X.env)).any (·.1) = false := by rfl) :
    PE X (.Call (.Attribute (.Name x xp) "pop" apos) (b :: es) [] cpos) (cE X.md fx W (mutR i popAtD fs)) := by
  obtain ⟨r, h1, h2⟩ := @om_popAt X
  exact pp_mutR PySem.F.plainAttrs_list PySem.F.slot_list_pop PySem.F.type_list_pop h1 h2 ha hN hv hd hcd hbase hfew hline hst hplain
theorem w_pop (hN : X.N[i]? = some x := by rfl) (hv : Vis X.env.scope x := by first | exact .inl rfl | exact .inr (.inl rfl) | exact .inr (.inr rfl)) (hd : (x == ("__debug__" : Str)) = false := by decide) (hcd : (x == ("__classdict__" : Str)) = false := by decide)
    (hbase : attributeBase (.Name x xp) "pop" X.env (eval (.Name x xp) X.env) = eval (.Name x xp) X.env := by rfl) (hline : (apos.endLine == cpos.line) = true := by rfl) :
    PE X (.Call (.Attribute (.Name x xp) "pop" apos) [] [] cpos) (cE X.md fx W (mut0 i popD)) := by
  obtain ⟨r, h1, h2⟩ := @om_pop X
  exact pp_mut0 PySem.F.plainAttrs_list PySem.F.slot_list_pop PySem.F.type_list_pop h1 h2 hN hv hd hcd hbase hline
theorem w_reverse (hN : X.N[i]? = some x := by rfl) (hv : Vis X.env.scope x := by first | exact .inl rfl | exact .inr (.inl rfl) | exact .inr (.inr rfl)) (hd : (x == ("__debug__" : Str)) = false := by decide) (hcd : (x == ("__classdict__" : Str)) = false := by decide)
    (hbase : attributeBase (.Name x xp) "reverse" X.env (eval (.Name x xp) X.env) = eval (.Name x xp) X.env := by rfl) (hline : (apos.endLine == cpos.line) = true := by rfl) :
    PE X (.Call (.Attribute (.Name x xp) "reverse" apos) [] [] cpos) (cE X.md fx W (mut0 i rvsD)) := by
  obtain ⟨r, h1, h2⟩ := @om_reverse X
  exact pp_mut0 PySem.F.plainAttrs_list PySem.F.slot_list_reverse PySem.F.type_list_reverse h1 h2 hN hv hd hcd hbase hline
end
def ltD : PyData → PyData → Option PyData := iiD (fun _ _ => True) fun i j => .bool (decide (i < j))
def leD : PyData → PyData → Option PyData := iiD (fun _ _ => True) fun i j => .bool (decide (i ≤ j))
def gtD : PyData → PyData → Option PyData := iiD (fun _ _ => True) fun i j => .bool (decide (j < i))
def geD : PyData → PyData → Option PyData := iiD (fun _ _ => True) fun i j => .bool (decide (j ≤ i))
def subD : PyData → PyData → Option PyData := iiD (fun _ _ => True) fun i j => .int (i - j)
def modD : PyData → PyData → Option PyData := iiD (fun _ j => j ≠ 0) fun i j => .int (i.fmod j)
def fdivD : PyData → PyData → Option PyData := iiD CDivD fun i j => .int (i.fdiv j)
section
variable {X : Cx} {fx : List Nat} {W : WX} {k : Nat} {pos p p2 pos2 : Pos}
theorem w_raise {c : String} {m : Str} {j : Nat} (E : ∃ C, ErrC X.K X.mg (Str.ofString c) C) (hc : X.calm = true) (tk : Takes X W) (hg : Gl X (Str.ofString c) := by rfl) (hdb : (Str.ofString c == ("__debug__" : Str)) = false := by decide) :
    PS X (.Raise (some (.Call (.Name (Str.ofString c) p) [.Constant (.str m) j p2] [] pos2)) none pos) (cS X.md fx W (raiseS c)) := by
  obtain ⟨C, E⟩ := E
  exact pps_raise E hc tk hg hdb
theorem w_try {x nm n c0 : Str} {kd : String → Option Str} {j i : Nat} {body : List Stmt} {g : Sls → OutS} {np pos' p q cpos rpos : Pos} (ct : Cs X W k) (C : KindOk X.prog X.w X.K X.mg X.base j x nm kd) (hj : j ≤ k) (hC : ∃ C, X.mg c0 = some (.ref C) ∧ ∀ c D, kd c ≠ none → X.mg (Str.ofString c) = some (.ref D) → PySem.W.exmOne X.K (.ref D) (.ref C) = some true)
    (hb : ∀ (W : WX) (pn : List (Addr × Obj)) (xe : Value → Shared → Prop), Cs (X.tr pn xe) W k → PSs (X.tr pn xe) body (cS X.md fx W g))
    (hi : X.N[i]? = some n := by rfl) (hln : X.env.kindOf n = some .local := by rfl) (hd : (n == ("__debug__" : Str)) = false := by decide) (hcd : (n == ("__classdict__" : Str)) = false := by decide) (hg : Gl X x := by rfl) (hdb : (x == ("__debug__" : Str)) = false := by decide) (hgc : Gl X c0 := by rfl) (hdc : (c0 == ("__debug__" : Str)) = false := by decide)
    (he : ∀ a oe pn, starEach [.Name n q] (X.suite a ((a, oe) :: pn)).env = (false, eval (.Name n q) X.env) :: starEach [] X.env := by intros; rfl) (hpl : (backTo cpos (starEach [] X.env)).any (·.1) = false := by rfl) :
    PS X (.Try body [.ExceptHandler (some (.Name c0 np)) (some n) [.Return (some (.Call (.Name x p) [.Name n q] [] cpos)) rpos] pos'] [] [] pos) (cS X.md fx W (tryK kd g)) := by
  obtain ⟨f, fd, h1, h2, h3, F⟩ := C.ex
  obtain ⟨C', h4, h5⟩ := hC
  exact pps_tryK F ((⟨ct.room.dp, ct.room.un⟩ : L2H.RoomH k X.A).mono hj) h1 h2 h3 ct.tk h4 h5 ct.stk ct.fr ct.nd (fun W' pn xe tk p => hb W' pn xe (ct.tr tk p)) hi hln hd hcd hg hdb hgc hdc he hpl
end
end PP
set_option maxRecDepth 100000
namespace PP
open PySem PySem.Spec PyProof.Rows L2
mutual
def nk : PyData → Option NestedKey
  | .none => some .none
  | .bool b => some (.num (if b then 1 else 0))
  | .int i => some (.num i)
  | .str x => some (.text x)
  | .tuple xs => (nks xs).map .tup
  | .list _ => none
  | .dict _ => none
def nks : List PyData → Option (List NestedKey)
  | [] => some []
  | x :: xs => (nk x).bind fun k => (nks xs).map (k :: ·)
end
section
variable {X : Cx} {pins : List (Addr × Obj)} {σ : St} {H : Hp} {s : Shared}
mutual
theorem Rp.nested (I : Inv X pins σ H s) : ∀ {d : PyData} {v : V} {u : Value} {k : NestedKey}, Rp X.K H v d → nk d = some k → RelV v u → NestedIs s.heap k u
  | _, _, _, _, .non, e, r => by
    cases e; cases r
    exact .none
  | _, _, _, _, .bl b, e, r => by
    cases e; cases r
    exact .bool rfl
  | _, _, _, _, .int i, e, r => by
    cases e
    obtain ⟨t, rfl⟩ := r
    exact .int i t
  | _, _, _, _, .str x, e, r => by
    cases e
    obtain ⟨t, rfl⟩ := r
    exact .text x t
  | .tuple ds, _, _, _, .tup hs _ ha, e, r => by
    cases r
    unfold nk at e
    obtain ⟨ks, e1, e2⟩ := Option.map_eq_some_iff.mp e
    subst e2
    obtain ⟨its, rv, ⟨o, ho, hc, n, hd⟩, _⟩ := I.tuple hs
    exact .tup ho hc hd (by simpa using RpAll.nested I ha e1 rv)
  | .list ds, _, _, _, .lst _ _ _, e, _ => by unfold nk at e; cases e
  | .dict _, _, _, _, .dct _ _ _, e, _ => by unfold nk at e; cases e
  | .dict _, _, _, _, .dcT _ _ _, e, _ => by unfold nk at e; cases e
  | .dict _, _, _, _, .obj _, e, _ => by unfold nk at e; cases e
theorem RpAll.nested (I : Inv X pins σ H s) : ∀ {ds : List PyData} {vs : List V} {us : List Value} {ks : List NestedKey}, RpAll X.K H vs ds → nks ds = some ks → Vals vs us → NestedAll s.heap ks us
  | _, _, _, _, .nil, e, r => by
    unfold nks at e
    cases e; cases r
    exact .nil
  | d :: ds, _, _, _, .cons h t, e, r => by
    unfold nks at e
    obtain ⟨k, e1, e2⟩ := Option.bind_eq_some_iff.mp e
    obtain ⟨ks, e3, e4⟩ := Option.map_eq_some_iff.mp e2
    subst e4
    cases r with
    | cons r1 r2 => exact .cons (Rp.nested I h e1 r1) (RpAll.nested I t e3 r2)
end
end
def DNraw (P : Program) (w : World) (h : Heap) (a : Addr) (xs : List (NestedKey × Addr × Value)) : Prop :=
  ∃ o es ep, h.get? a = some o ∧ o.ExactDict ∧ o.data = .dict es ep ∧ es.toList = xs.map (entryOfKey (nestedKind P w)) ∧ (xs.map (·.1)).Nodup
def DN (P : Program) (w : World) (a : Addr) (ks : List (NestedKey × Addr)) : HO := .ext fun h => (a == sysModules) = false ∧ ks.length ≤ sizeLine ∧ ∃ xs, xs.map (fun x => (x.1, x.2.1)) = ks ∧ DNraw P w h a xs
theorem dn_ok {P : Program} {w : World} {H : Hp} {h : Heap} {a : Addr} {ks : List (NestedKey × Addr)} (h1 : (a == sysModules) = false) (h2 : ks.length ≤ sizeLine) {xs : List (NestedKey × Addr × Value)} (h3 : xs.map (fun x => (x.1, x.2.1)) = ks) (d : DNraw P w h a xs) : ObjOk P w H h a (DN P w a ks) := by
  refine ⟨⟨h1, h2, xs, h3, d⟩, ?_, ?_⟩
  · obtain ⟨o, es, ep, e, _⟩ := d
    exact ⟨o, e⟩
  · rintro g1 g2 ⟨z1, z2, ys, z3, o, es, ep, e, r⟩ k
    exact ⟨z1, z2, ys, z3, o, es, ep, k _ e, r⟩
def addKey (acc : List (NestedKey × Addr)) (p : NestedKey × Addr) : List (NestedKey × Addr) := if acc.any (fun x => decide (x.1 = p.1)) then acc else acc ++ [p]
theorem storedH_keys (xs : List (NestedKey × Addr × Value)) (k : NestedKey) (b : Addr) (v : Value) : (storedH xs k b v).map (fun x => (x.1, x.2.1)) = addKey (xs.map fun x => (x.1, x.2.1)) (k, b) := by
  have e : (atKey xs k).isSome = (xs.map fun x => (x.1, x.2.1)).any (fun x => decide (x.1 = k)) := by
    unfold atKey
    rw [Option.isSome_map, List.any_map, Bool.eq_iff_iff, List.find?_isSome, List.any_eq_true]
    simp
  unfold storedH addKey
  rw [e]
  split
  · rw [List.map_map]
    apply List.map_congr_left
    intro x _
    show ((putAt k v x).1, (putAt k v x).2.1) = _
    unfold putAt
    split <;> rfl
  · rw [List.map_append]
    rfl
theorem storedAll_keys : ∀ (ps xs : List (NestedKey × Addr × Value)), (storedAllH xs ps).map (fun x => (x.1, x.2.1)) = (ps.map fun x => (x.1, x.2.1)).foldl addKey (xs.map fun x => (x.1, x.2.1))
  | [], xs => rfl
  | p :: ps, xs => by
    show (storedAllH (storedH xs p.1 p.2.1 p.2.2) ps).map _ = _
    rw [storedAll_keys ps, storedH_keys]
    rfl
def addKeyD (acc : List PyData) (d : PyData) : List PyData := if acc.any (fun x => decide (nk x = nk d)) then acc else acc ++ [d]
def pairsK : List PyData → Option (List (PyData × PyData))
  | [] => some []
  | .tuple [k, v] :: xs => if (nk k).any (fun z => decide (z.depth ≤ 8)) && isTup k then (pairsK xs).map ((k, v) :: ·) else none
  | _ => none
where isTup : PyData → Bool
  | .tuple _ => true
  | _ => false
theorem rp_tup_ref {K : PySem.W.Frag} {H : Hp} {v : V} {k : PyData} (r : Rp K H v k) (h : pairsK.isTup k = true) : ∃ b, v = .ref b := by
  cases k <;> simp [pairsK.isTup] at h
  cases r
  exact ⟨_, rfl⟩
def dkeys (kvs : List (PyData × PyData)) : List PyData := (kvs.map (·.1)).foldl addKeyD []
inductive KeysAre (K : PySem.W.Frag) (H : Hp) : List (NestedKey × Addr) → List PyData → Prop
  | nil : KeysAre K H [] []
  | cons {k : NestedKey} {b : Addr} {d : PyData} {ks : List (NestedKey × Addr)} {ds : List PyData} : Rp K H (.ref b) d → nk d = some k → k.depth ≤ 8 → KeysAre K H ks ds → KeysAre K H ((k, b) :: ks) (d :: ds)
section
variable {K : PySem.W.Frag} {H H' : Hp}
theorem KeysAre.mono (s : Same H H') : ∀ {ks : List (NestedKey × Addr)} {ds : List PyData}, KeysAre K H ks ds → KeysAre K H' ks ds
  | _, _, .nil => .nil
  | _, _, .cons h e l t => .cons (h.mono s) e l (KeysAre.mono s t)
theorem KeysAre.append : ∀ {ks ks' : List (NestedKey × Addr)} {ds ds' : List PyData}, KeysAre K H ks ds → KeysAre K H ks' ds' → KeysAre K H (ks ++ ks') (ds ++ ds')
  | _, _, _, _, .nil, r => r
  | _, _, _, _, .cons h e l t, r => .cons h e l (KeysAre.append t r)
theorem KeysAre.any {k : NestedKey} {d : PyData} (e : nk d = some k) : ∀ {ks : List (NestedKey × Addr)} {ds : List PyData}, KeysAre K H ks ds → ks.any (fun x => decide (x.1 = k)) = ds.any (fun x => decide (nk x = nk d))
  | _, _, .nil => rfl
  | _, _, .cons h e' l t => by
    rw [List.any_cons, List.any_cons, KeysAre.any e t, e', e]
    simp
theorem KeysAre.add {k : NestedKey} {b : Addr} {d : PyData} (h : Rp K H (.ref b) d) (e : nk d = some k) (l : k.depth ≤ 8) {ks : List (NestedKey × Addr)} {ds : List PyData} (r : KeysAre K H ks ds) : KeysAre K H (addKey ks (k, b)) (addKeyD ds d) := by
  unfold addKey addKeyD
  rw [r.any e]
  split
  · exact r
  · exact r.append (.cons h e l .nil)
theorem KeysAre.fold {qs : List (NestedKey × Addr)} {es : List PyData} (q : KeysAre K H qs es) : ∀ {ks : List (NestedKey × Addr)} {ds : List PyData}, KeysAre K H ks ds → KeysAre K H (qs.foldl addKey ks) (es.foldl addKeyD ds) := by
  induction q with
  | nil => exact fun r => r
  | cons h e l t ih => exact fun r => ih (r.add h e l)
theorem KeysAre.refs : ∀ {ks : List (NestedKey × Addr)} {ds : List PyData}, KeysAre K H ks ds → RpAll K H (ks.map fun x => V.ref x.2) ds
  | _, _, .nil => .nil
  | _, _, .cons h _ _ t => .cons h (KeysAre.refs t)
theorem KeysAre.length : ∀ {ks : List (NestedKey × Addr)} {ds : List PyData}, KeysAre K H ks ds → ks.length = ds.length
  | _, _, .nil => rfl
  | _, _, .cons _ _ _ t => by rw [List.length_cons, List.length_cons, KeysAre.length t]
theorem addKey_length (ks : List (NestedKey × Addr)) (p : NestedKey × Addr) : (addKey ks p).length ≤ ks.length + 1 := by
  unfold addKey
  split
  · omega
  · rw [List.length_append]; simp
theorem foldKey_length : ∀ (qs ks : List (NestedKey × Addr)), (qs.foldl addKey ks).length ≤ ks.length + qs.length
  | [], ks => Nat.le_refl _
  | q :: qs, ks => by
    have h1 := foldKey_length qs (addKey ks q)
    have h2 := addKey_length ks q
    rw [List.foldl_cons, List.length_cons]
    omega
end
section
variable {X : Cx}
def rDictN (K : PySem.W.Frag) (P : Program) (w : World) : List V → Hp → VK → Prop := fun vs H Q => ∃ (M : Hp) (a : Addr) (us : List V) (ds : List PyData) (kvs : List (PyData × PyData)), vs = [.ref a] ∧ SqL K H a us ∧ Same M H ∧ RpAll K M us ds ∧ pairsK ds = some kvs ∧
  ∀ D ks, H D = none → KeysAre K M ks (dkeys kvs) → Q (.ref D) (upd H D (DN P w D ks))
theorem pairs_at {pins : List (Addr × Obj)} {σ : St} {H : Hp} {s : Shared} (I : Inv X pins σ H s) {M : Hp} (sm : Same M H) : ∀ {ds : List PyData} {us : List V} {its : List Value} {kvs : List (PyData × PyData)}, RpAll X.K M us ds → Vals us its → pairsK ds = some kvs →
    ∃ (Ts : List Addr) (ps : List (NestedKey × Addr × Value)), its = Ts.map Value.ref ∧ ps.length = its.length ∧ Ts.length = ps.length ∧ (∀ (j : Nat) (p : NestedKey × Addr × Value), ps[j]? = some p → ∃ T, Ts[j]? = some T ∧ IsTup s.heap T #[.ref p.2.1, p.2.2]) ∧ (∀ p ∈ ps, (nestedKind X.prog X.w).is s.heap p.1 p.2.1) ∧ KeysAre X.K M (ps.map fun x => (x.1, x.2.1)) (kvs.map (·.1))
  | [], _, _, _, .nil, .nil, e => by
    cases e
    exact ⟨[], [], rfl, rfl, rfl, fun j p h => by simp at h, fun p h => (List.not_mem_nil h).elim, .nil⟩
  | d :: ds, _, _, kvs, .cons h t, .cons r1 r2, e => by
    unfold pairsK at e
    split at e
    · cases e
      rename_i h0
      cases h0
    · rename_i k0 v0 xs0 heq
      cases heq
      split at e
      · rename_i c
        rw [Bool.and_eq_true] at c
        obtain ⟨z, hz, hdep⟩ := (Option.any_eq_true _ _).mp c.1
        obtain ⟨kvs', e1, e2⟩ := Option.map_eq_some_iff.mp e
        subst e2
        obtain ⟨Ts, ps, q1, q2, q3, q4, q5, q6⟩ := pairs_at I sm t r2 e1
        cases h with
        | tup hs hl ha =>
          cases r1
          cases ha with
          | cons hk ha2 =>
            cases ha2 with
            | cons hv ha3 =>
              cases ha3
              obtain ⟨b, rfl⟩ := rp_tup_ref hk c.2
              obtain ⟨its', rv, it, _⟩ := I.tuple (Same.seqT sm hs)
              obtain ⟨u1, u2, rfl, ru1, ru2⟩ := vals2 rv
              cases ru1
              refine ⟨_ :: Ts, (z, b, u2) :: ps, by rw [q1]; rfl, by rw [List.length_cons, List.length_cons, q2], by rw [List.length_cons, List.length_cons, q3], fun j p hj => ?_, fun p hp => ?_, .cons hk hz (of_decide_eq_true hdep) q6⟩
              · cases j with
                | zero =>
                  have ep : (z, b, u2) = p := Option.some.inj hj
                  subst ep
                  exact ⟨_, rfl, it⟩
                | succ j =>
                  obtain ⟨T, w1, w2⟩ := q4 j p (by simpa using hj)
                  exact ⟨T, by simpa using w1, w2⟩
              · rcases List.mem_cons.mp hp with z1 | z1
                · subst z1
                  exact ⟨Rp.nested I (hk.mono sm) hz rfl, of_decide_eq_true hdep⟩
                · exact q5 p z1
      · cases e
    · cases e
open PySem.W in
theorem cr_dictN (hc : X.calm = true) (hu : X.A.units + 66 < cLine) : CallR X (.type "dict") (rDictN X.K X.prog X.w) := by
  intro pins s σ H vs us Q I r h
  obtain ⟨M, a, ws, ds, kvs, rfl, hs, sm, ra, hk, q⟩ := h
  obtain ⟨its, rv, ⟨o, n, ho, hcl, hdn, hdt⟩, hz⟩ := I.list hs
  rw [Vals.ref1 r]
  obtain ⟨Ts, ps, q1, q2, q3, q4, q5, q6⟩ := pairs_at I sm ra rv hk
  have hwl := rv.length
  let pv : List (Value × Value) := ps.map fun x => (.ref x.2.1, x.2.2)
  have hpl : pv.length = ps.length := List.length_map ..
  have P := PairArg.list (prog := X.prog) (w := X.w) a its.toArray (fun j => Ts.getD j 0) pv
  have ok : PlainSeq "list" s.heap a its.toArray ∧ PairItems s.heap its.toArray (fun j => Ts.getD j 0) pv := by
    refine ⟨⟨o, n, ho, hcl, hdn, hdt⟩, by rw [List.size_toArray, hpl, q2], fun j k v hj => ?_⟩
    have hj' : (ps.map fun x => ((Value.ref x.2.1, x.2.2) : Value × Value))[j]? = some (k, v) := hj
    rw [List.getElem?_map] at hj'
    obtain ⟨p, e1, e2⟩ := Option.map_eq_some_iff.mp hj'
    cases e2
    obtain ⟨T, w1, w2⟩ := q4 j p e1
    have eT : Ts.getD j 0 = T := by rw [List.getD_eq_getElem?_getD, w1]; rfl
    refine ⟨?_, .inl ?_⟩
    · show its.toArray[j]? = some (Value.ref (Ts.getD j 0))
      rw [q1, eT]
      simp [w1]
    · show s.heap.IsTuple (Ts.getD j 0) _
      rw [eT]; exact w2
  refine call_dict_pairsH (knd := nestedKind X.prog X.w) (ps := ps) P (I.ok.hd hc) (by show X.A.units + 1 + 1 + 8 < cLine; omega) ok ⟨by rw [hpl], fun i key v hrel => ?_⟩ (fun h' hk' x hx => ?_) (by rw [hpl, q2]; omega) fun h' tk hd' hk' => ?_
  · have hj' : (ps.map fun x => ((Value.ref x.2.1, x.2.2) : Value × Value))[i]? = some (key, v) := hrel
    rw [List.getElem?_map] at hj'
    obtain ⟨p, e1, e2⟩ := Option.map_eq_some_iff.mp hj'
    cases e2
    exact ⟨p.1, p.2.1, e1, rfl⟩
  · have k0 : ∀ b o, s.heap.get? b = some o → h'.get? b = some o := fun b ob e => hk' b ob (Nat.ne_of_lt (Heap.lt_size e)) (by simp) e
    exact (nestedKind_stays (prog := X.prog) (w := X.w)).stays (fun b ob _ _ e _ => k0 b ob e) (q5 x hx)
  · obtain ⟨od, es, ep, e1, e2, e3, e4, e5, e6⟩ := hd'
    have ek : (storedAllH [] ps).map (fun x => (x.1, x.2.1)) = (ps.map fun x => (x.1, x.2.1)).foldl addKey [] := storedAll_keys ps []
    have lk := foldKey_length (ps.map fun x => (x.1, x.2.1)) []
    rw [List.length_map, List.length_nil, Nat.zero_add] at lk
    have hm : (s.heap.objs.size == sysModules) = false := beq_eq_false_iff_ne.mpr (Nat.ne_of_gt I.big)
    refine ⟨.ref s.heap.objs.size, _, I.laid (t' := tk) (o := DN X.prog X.w s.heap.objs.size ((ps.map fun x => (x.1, x.2.1)).foldl addKey [])) (fun b ob e => hk' b ob (by simp) e) (Nat.le_refl _) (dn_ok hm (by omega) ek ⟨od, es, ep, e1, e2, e3, e4, e6⟩), rfl, q _ _ (I.hok.fresh (Nat.le_refl _)) (q6.fold .nil)⟩
def rDNkeys (K : PySem.W.Frag) (P : Program) (w : World) (R : List PyData → Prop) : List V → Hp → (Addr → List (NestedKey × Addr) → List PyData → Prop) → Prop := fun vs H k => ∃ D ks ds, vs = [V.ref D] ∧ H D = some (DN P w D ks) ∧ KeysAre K H ks ds ∧ R ds ∧ k D ks ds
def rLenN (K : PySem.W.Frag) (P : Program) (w : World) : List V → Hp → VK → Prop := fun vs H Q => rDNkeys K P w (fun _ => True) vs H fun _ _ ds => Q (.int ds.length) H
theorem dn_at {pins : List (Addr × Obj)} {σ : St} {H : Hp} {s : Shared} (I : Inv X pins σ H s) {D : Addr} {ks : List (NestedKey × Addr)} {ds : List PyData} (h : H D = some (DN X.prog X.w D ks)) (r : KeysAre X.K H ks ds) : (D == sysModules) = false ∧ ks.length ≤ sizeLine ∧ ∃ xs, xs.map (fun x => (x.1, x.2.1)) = ks ∧ s.heap.DictOfH (nestedKind X.prog X.w) D xs := by
  obtain ⟨⟨h1, h2, xs, h3, o, es, ep, e1, e2, e3, e4, e5⟩, _⟩ := (show ObjOk X.prog X.w H s.heap D (DN X.prog X.w D ks) from I.hok D _ h)
  refine ⟨h1, h2, xs, h3, o, es, ep, e1, e2, e3, e4, fun x hx => ?_, e5⟩
  have all : ∀ {ks : List (NestedKey × Addr)} {ds : List PyData}, KeysAre X.K H ks ds → ∀ p ∈ ks, (nestedKind X.prog X.w).is s.heap p.1 p.2 := fun {ks ds} r => by
    induction r with
    | nil => exact fun p hp => (List.not_mem_nil hp).elim
    | cons h e l t ih =>
      intro p hp
      rcases List.mem_cons.mp hp with z | z
      · subst z; exact ⟨Rp.nested I h e rfl, l⟩
      · exact ih p z
  exact all r (x.1, x.2.1) (by rw [← h3]; exact List.mem_map.mpr ⟨x, hx, rfl⟩)
theorem cr_lenN : CallR X (.builtin "len") (rLenN X.K X.prog X.w) := by
  intro pins s σ H vs us Q I r h
  obtain ⟨D, ks, ds, rfl, hD, rk, _, q⟩ := h
  rw [Vals.ref1 r]
  obtain ⟨h1, h2, xs, h3, hm⟩ := dn_at I hD rk
  have e : xs.length = ds.length := by
    have := congrArg List.length h3
    rw [List.length_map] at this
    rw [this, rk.length]
  have hl := rk.length
  have hn := line63
  refine call_len_dictH h1 hm (by omega) ?_
  rw [e]
  exact ⟨.int _, H, I.tok _, ⟨_, rfl⟩, q⟩
end
section
open PySem.W PySem.Calls
variable {prog : Program} {w : World} {A : Around} {E : Value → Shared → Prop} {s : Shared} {β : Type}
theorem sorted_col {a : Addr} {vs : List Value} {R : Value → β → Prop} {enc : β → PyData} {bs : List β} {Q : Value → Shared → Prop}
    (hcol : ∀ (Q' : List Value → Shared → Prop) (E' : Value → Shared → Prop), (∀ h1 tk, (∀ b o, s.heap.get? b = some o → h1.get? b = some o) → Q' vs { s with heap := h1, toks := tk }) → wpAny (model prog w) A.in1 (collect (.ref a)) Q' E' s)
    (e : EachIs R vs bs) (er : EachIs (fun v b => ∃ as, Reads s.heap v (enc b) as) vs bs) (hal : AllAlike (bs.map enc)) (hk : Sortable (bs.map enc)) (hL : bs.length ≤ sizeLine) (hu : ∀ b, b ∈ bs → A.units + 2 + (enc b).depth < cLine)
    (h : ∀ (h1 : Heap) (tk : Nat) (out : List Value) (h' : Heap) (c : Nat), (∀ b o, s.heap.get? b = some o → h1.get? b = some o) → (∀ b o, h1.get? b = some o → h'.get? b = some o) → h'.get? h1.objs.size = some { cls := .type "list", data := .seq (List.toArray out) c } → out.length = bs.length → EachIs R out (bs.mergeSort (dataLe false enc)) → Q (.ref h1.objs.size) { s with heap := h', toks := tk }) :
    wpAny (model prog w) A (call (.builtin "sorted") [.ref a]) Q E s := by
  have hlen : vs.length = bs.length := e.length
  refine call_function_entry_kw (kw := []) kind_sorted plain_sorted entry_sorted (args_sorted1 _) ?_
  unfold Builtin.«sorted»
  refine wpAny_bind (m := checkCount "sorted" 1 1 _) (wpAny_pure ?_)
  refine wpAny_bind (hcol _ _ fun h1 tk k1 => ?_)
  refine wpAny_bind (wpAny_newList ?_ (by rw [hlen]; exact hL))
  have hat : (h1.push (seqObj "list" vs.toArray 0)).get? h1.objs.size = some (seqObj "list" vs.toArray 0) := Heap.get?_push_size _ rfl
  have k2 : ∀ b o, s.heap.get? b = some o → (h1.push (seqObj "list" vs.toArray 0)).get? b = some o := fun b o z => Heap.get?_push_of_some _ (k1 b o z)
  have hlt : ∀ b o, s.heap.get? b = some o → b ≠ h1.objs.size := fun b o z => Nat.ne_of_lt (Heap.lt_size (k1 b o z))
  show wpAny _ _ _ _ _ { s with heap := h1.push (seqObj "list" vs.toArray 0), toks := tk }
  refine wpAny_bind (wpAny_holding (wpAny_call_entry_kw (kw := []) slot_list_sort ⟨_, hat, rfl⟩ entry_list_sort ?body (args_list_sort _)))
  case body =>
    show wpAny (model prog w) A.in1.in1 (Builtin.«list.sort» ⟨[.ref h1.objs.size], []⟩) _ _ _
    have er' : EachIs (fun v b => ∃ as, Reads (sortingHeap (h1.push (seqObj "list" vs.toArray 0)) h1.objs.size vs) v (enc b) as) vs bs :=
      er.mono fun _ _ ⟨as, r⟩ => ⟨as, PyProof.Rows.Reads.keeps (fun b o z => sortingHeap_old (hlt b o z) (k2 b o z)) r⟩
    refine list_sort_vals (s := { s with heap := h1.push (seqObj "list" vs.toArray 0), toks := tk }) hat
      (SortsAt.data (s := { s with heap := sortingHeap (h1.push (seqObj "list" vs.toArray 0)) h1.objs.size vs, toks := tk }) (each_map (R := fun v d => ∃ as, Reads (sortingHeap (h1.push (seqObj "list" vs.toArray 0)) h1.objs.size vs) v d as) enc er') hal hk (bound_map hu)) (by rw [hlen]; exact hL) ?_
    obtain ⟨c, hc'⟩ := sortedHeap_at (out := (sortVals (dataKind (sortingHeap (h1.push (seqObj "list" vs.toArray 0)) h1.objs.size vs) (bs.map enc)) false vs vs).toArray) hat
    refine ⟨_, rfl, wpAny_pure ⟨_, rfl, h h1 tk _ _ c k1 (fun b o z => ?_) hc' ?_ (sortVals_data false e er' hal)⟩⟩
    · rw [sortedHeap_old (Nat.ne_of_lt (Heap.lt_size z)) (by rw [size_push']; exact Nat.lt_succ_of_lt (Heap.lt_size z))]
      exact Heap.get?_push_of_some _ z
    · rw [sortVals_length false rfl]
      exact hlen
end
section
variable {X : Cx}
def rSortN (K : PySem.W.Frag) (P : Program) (w : World) : List V → Hp → VK → Prop := fun vs H Q => rDNkeys K P w SortOk vs H fun D ks ds =>
  ∀ (ps : List (V × PyData)) (p : Addr), ps.Perm ((ks.map fun x => V.ref x.2).zip ds) → ps.map (·.2) = ds.mergeSort (PySem.W.dataLe false id) → H p = none → Q (.ref p) (upd H p (.lst (ps.map (·.1))))
theorem refs_vals : ∀ ks : List (NestedKey × Addr), Vals (ks.map fun x => V.ref x.2) (ks.map fun x => Value.ref x.2)
  | [] => .nil
  | _ :: t => .cons rfl (refs_vals t)
open PySem.W in
theorem cr_sortN (hc : X.calm = true) (hu : X.A.units + 66 < cLine) : CallR X (.builtin "sorted") (rSortN X.K X.prog X.w) := by
  intro pins s σ H vs us Q I r h
  obtain ⟨D, ks, ds, rfl, hD, rk, ⟨k1, k2, k3, k4⟩, q⟩ := h
  rw [Vals.ref1 r]
  obtain ⟨h1, h2, xs, h3, hm⟩ := dn_at I hD rk
  obtain ⟨o, es, ep, e1, e2, e3, e4, e5, e6⟩ := hm
  have hl := rk.length
  have hxl : xs.length = ks.length := by rw [← h3, List.length_map]
  have hes : es.size = xs.length := size_of_entries e4
  have rall : RpAll X.K H (ks.map fun x => V.ref x.2) ds := rk.refs
  have rv := refs_vals ks
  obtain ⟨as, rd⟩ := Dp.readsAll I ds _ _ (rall.dp (canAll_of k3)) rv
  obtain ⟨g1, g2, g3, g4⟩ := each_zip rv rd
  have hzl : ((ks.map fun x => V.ref x.2).zip ds).length = ds.length := by rw [List.length_zip, g4, Nat.min_self]
  refine sorted_col (enc := (·.2)) (bs := (ks.map fun x => V.ref x.2).zip ds) (fun Q' E' hq => ?_) g1 g2 (by rw [g3]; exact k1) (by rw [g3]; exact k2) (by rw [hzl]; exact k4) (fun b hb => ?_) fun hh tk out h' c z1 z2 z3 z4 z5 => ?_
  · refine kdu_collect (kdl_raw h1 e2 e3) (I.ok.hd hc) e1 (by omega) fun h' tk acc kp it => ?_
    have ea : acc.toList = ks.map fun x => Value.ref x.2 := by
      have hal : acc.toList.length = xs.length := by rw [Array.length_toList, it.1]; exact hes
      have e7 : ks.map (fun x => Value.ref x.2) = xs.map fun x => Value.ref x.2.1 := by rw [← h3, List.map_map]; rfl
      rw [e7]
      apply List.ext_getElem?
      intro j
      rw [List.getElem?_map]
      cases hj : acc.toList[j]? with
      | none =>
        have w1 := List.getElem?_eq_none_iff.mp hj
        rw [List.getElem?_eq_none (by omega)]
        rfl
      | some v =>
        obtain ⟨en, hen, hv⟩ := it.2 j v (by rw [← Array.getElem?_toList]; exact hj)
        have qe := entry_at e4 j
        rw [hen] at qe
        cases hb : xs[j]? with
        | none => rw [hb] at qe; cases qe
        | some b =>
          rw [hb] at qe
          have e8 : en = entryOfKey (nestedKind X.prog X.w) b := Option.some.inj qe
          rw [hv, e8]
          rfl
    rw [ea]
    exact hq h' tk kp
  · have hb2 : b.2 ∈ ds := by rw [← g3]; exact List.mem_map.mpr ⟨b, hb, rfl⟩
    have := SeqAt.depth_of_shaped (k3 _ hb2)
    omega
  · have I1 : Inv X pins σ H { s with heap := hh, toks := tk } := I.kept z1
    have hpm := List.mergeSort_perm ((ks.map fun x => V.ref x.2).zip ds) (dataLe false (·.2))
    have em := List.map_mergeSort (r := dataLe false (fun x : V × PyData => x.2)) (s := dataLe false id) (f := fun x : V × PyData => x.2) (l := (ks.map fun x => V.ref x.2).zip ds) (fun a _ b _ => rfl)
    have I2 : Inv X pins σ (upd H hh.objs.size (.lst ((((ks.map fun x => V.ref x.2).zip ds).mergeSort (dataLe false (·.2))).map (·.1)))) { s with heap := h', toks := tk } := by
      refine I1.laid z2 (Nat.le_refl _) ⟨?_, out, c, vals_each z5, z3⟩
      rw [List.length_map, hpm.length_eq, hzl]
      exact k4
    exact ⟨.ref hh.objs.size, _, I2, rfl, q _ _ hpm (by rw [em, g3]) (I1.hok.fresh (Nat.le_refl _))⟩
open Classical in
noncomputable def sdD (a : PyData) : Option (List PyData) :=
  match a with
  | .list xs => (pairsK xs).bind fun kvs => if SortOk (dkeys kvs) then some ((dkeys kvs).mergeSort (PySem.W.dataLe false id)) else none
  | _ => none
theorem PoN.of2 {M : Md} {O : Addr → Prop} {F : List (Nat × V)} {σ : St} {e : Sls} {H : Hp} {W : WX} {Q : VK} {o : Option (List PyData)} (g : Good M.K O F H σ e) (h : PoN M O F σ e H W Q (.of o e)) : ∃ d, o = some d ∧ ∀ H2 p ys, Same H H2 → H2 p = none → ys.length ≤ sizeLine → RpAll M.K (msk (Hid O σ e) H2) ys d → Q (.ref p) (upd H2 p (.lst ys)) := by
  cases o with
  | none => exact h.elim
  | some d =>
    refine ⟨d, rfl, fun H2 p ys s np hl hr => ?_⟩
    have g2 := g.ext s
    obtain ⟨g', s'⟩ := g2.laid (u := .lst ys) np
    have np1 : H p = none := by
      cases q : H p with
      | none => rfl
      | some u => rw [s _ _ q] at np; cases np
    exact h p ys _ g' upd_same hl (hr.mono s') (fun z => g2.old p z np) (.inl np1) (Kp.same (fun a o ho => by rw [upd_ne (ne_of_none (s _ _ ho) np)]; exact s _ _ ho)) Dn.refl
variable {fx : List Nat} {W : WX} {k : Nat} {a : Expr} {fa : Sls → Out SV}
theorem w_sortDict {p p2 pos pos2 : Pos} (ct : Ct X W k) (hm1 : X.mg "sorted" = none) (hm2 : X.mg "dict" = none) (ha : PE X a (cE X.md fx W fa)) (hg1 : Gl X "sorted" := by rfl) (hg2 : Gl X "dict" := by rfl)
    (hs1 : starEach [.Call (.Name "dict" p2) [a] [] pos2] X.env = (false, eval (.Call (.Name "dict" p2) [a] [] pos2) X.env) :: starEach [] X.env := by rfl) (hs2 : starEach [a] X.env = (false, eval a X.env) :: starEach [] X.env := by rfl)
    (hpl1 : (backTo pos (starEach [] X.env)).any (·.1) = false := by rfl) (hpl2 : (backTo pos2 (starEach [] X.env)).any (·.1) = false := by rfl) :
    PE X (.Call (.Name "sorted" p) [.Call (.Name "dict" p2) [a] [] pos2] [] pos) (cN X.md fx W (un1n sdD fa)) := by
  have inner := pe_callTy (x := "dict") (p := p2) (pos := pos2) (cr_dictN (X := X) ct.calm ct.u66) hg2 hm2 (by first | decide +kernel | rfl) (pa_cons ha pa_nil hs2) (by decide) (by decide) hs2 hpl2
  refine (pe_callB (x := "sorted") (p := p) (pos := pos) (cr_sortN (X := X) ct.calm ct.u66) hg1 hm1 (by first | decide +kernel | rfl) (pa_cons inner pa_nil hs1) (by decide) (by decide) hs1 hpl1).weak fun σ H Q ⟨O, F, e, hF, g, h⟩ => ?_
  refine ⟨O, F, e, hF, g, (PoN.bind h).mono fun x e1 H1 g1 k1 d1 h1 v r1 => ?_⟩
  obtain ⟨d, hd, q⟩ := PoN.of2 g1 h1
  have rt := r1.top g1
  generalize rd e1 x = dx at hd rt
  cases dx <;> try (simp [sdD] at hd; done)
  rename_i xs
  unfold sdD at hd
  dsimp only at hd
  obtain ⟨kvs, e2, hd⟩ := Option.bind_eq_some_iff.mp hd
  split at hd
  · rename_i so
    cases hd
    obtain ⟨b, vs, rfl, hb, l1, r2⟩ := rt.list msk_sub
    refine ⟨_, b, vs, xs, kvs, rfl, hb, msk_sub, r2, e2, fun D ks nD rk => ?_⟩
    have s1 : Same H1 (upd H1 D (DN X.prog X.w D ks)) := same_updN nD
    refine ⟨D, ks, dkeys kvs, rfl, upd_same, rk.mono (msk_sub.trans s1), so, fun ps p' hp he np' => ?_⟩
    have rk2 : RpAll X.K (msk (Hid O σ e1) (upd H1 D (DN X.prog X.w D ks))) (ks.map fun x => V.ref x.2) (dkeys kvs) := (rk.mono (msk_same s1)).refs
    have e3 := rk2.length
    refine q _ p' _ s1 np' ?_ ?_
    · rw [List.length_map, hp.length_eq, List.length_zip]
      have := so.2.2.2
      omega
    · rw [← he]
      exact rpAll_of fun z hz => rpAll_perm rk2 z (hp.mem_iff.mp hz)
  · cases hd
end
end PP
set_option maxRecDepth 100000
set_option maxHeartbeats 4000000
namespace PP
open PySem PySem.Spec PyProof.Rows L2
def StepOk (X : Cx) (Sg : Addr → V → V → Hp → (Hp → Prop) → Prop) : Prop := ∀ (X' : Cx), X'.prog = X.prog → X'.w = X.w → X'.K = X.K → X'.A = X.A → ∀ (pins : List (Addr × Obj)) (σ : St) (H : Hp) (s : Shared) (E : Value → Shared → Prop) (D : Addr) (y z : V) (u r : Value) (Nx : Hp → Prop) (Q : Unit → Shared → Prop),
  Inv X' pins σ H s → RelV y u → RelV z r → Sg D y z H Nx → (∀ s' H', Inv X' pins σ H' s' → Nx H' → Q () s') → wpAny (model X'.prog X'.w) X'.A (dictSet D u r) Q E s
def tDcG (u0 : Addr → HO) (Sg : Addr → V → V → Hp → (Hp → Prop) → Prop) (wi : TI) (g : TG) (tt : TT) (tk tv : TE) (vs : List Nat) : TE := fun σ H Q => wi σ H fun J H1 => ∀ D, H1 D = none → ∃ W : Nat → Nat → Hp → Prop, (∃ m, W 0 m (upd H1 D (u0 D))) ∧ ∀ i m H, W i m H →
  (J.stop i H ∧ Q (.ref D) H) ∨ (J.go i H ∧ ∃ Nx : Hp → Prop, (∀ H', Nx H' → ∃ m', m' < m ∧ W (i + 1) m' H') ∧ ∀ x H', J.yld i H x H' → g x (wipe σ vs) H' fun σ2 H2 => wipe σ2 vs = wipe σ vs ∧ tt σ2 H2 fun b H3 =>
    if b = true then tk σ2 H3 fun y H4 => tv σ2 H4 fun z H5 => Sg D y z H5 Nx else Nx H3)
section
variable {X : Cx}
theorem dcg_core {pins : List (Addr × Obj)} {s : Shared} {σ : St} {H : Hp} {Q : VK} {kx vx tg iter : Expr} {ifs : List Expr} {scope : Scope} {own : List (Str × Nat)} {pos pos' : Pos} {wi : TI} {g : TG} {tt : TT} {tk tv : TE} {use : Option (Value → Sem Unit)} {Qf : Value → Shared → Prop} {u0 : Addr → HO} {Sg : Addr → V → V → Hp → (Hp → Prop) → Prop}
    (hu0 : ∀ (h : Heap), sysModules < h.objs.size → ∀ H : Hp, ObjOk X.prog X.w H (h.push { cls := .type "dict", data := .dict #[] }) h.objs.size (u0 h.objs.size)) (hSg : StepOk X Sg)
    (hc : X.calm = true) (hN : X.N.Nodup) (I : Inv X pins σ H s) (hi : PI X tg iter wi) (ok : BlkOk X.N X.env.scope scope own)
    (hg : ∀ (s : Shared) (H : Hp) (C : Addr) (cl : List (Str × Addr)) (fp : List Addr), PG (X.blk s H scope (compEnvC scope cl C X.env) fp) tg g) (ht : ∀ (s : Shared) (H : Hp) (C : Addr) (cl : List (Str × Addr)) (fp : List Addr), PTs (X.blk s H scope (compEnvC scope cl C X.env) fp) ifs tt)
    (hk : ∀ (s : Shared) (H : Hp) (C : Addr) (cl : List (Str × Addr)) (fp : List Addr), PE (X.blk s H scope (compEnvC scope cl C X.env) fp) kx tk)
    (he : ∀ (s : Shared) (H : Hp) (C : Addr) (cl : List (Str × Addr)) (fp : List Addr), PE (X.blk s H scope (compEnvC scope cl C X.env) fp) vx tv) (hs : ∀ x, foldedSetIterable iter X.env x = pure x)
    (h : tDcG u0 Sg wi g tt tk tv (own.map (·.2)) σ H Q)
    (hRR : ∀ D C s' m H', Inv X pins σ H' s' → Q (.ref D) H' → s'.heap.Ns C m → FpOk X pins H' C → compPost (model X.prog X.w) X.A X.xe use Qf (.ref D) C (.ok .next) s') :
    wpAny (model X.prog X.w) X.A (comprehension (.DictComp kx vx [⟨tg, iter, ifs, 0⟩] scope pos) scope X.env pos' newDict false (eval iter X.env) use) Qf X.xe s := by
  have hfree : ∀ y ∈ scope.names, y.2 = .free → ∃ c, X.env.cells.lookup y.1 = some c := fun y hy e => by
    rcases ok.free y hy e with k | k
    · exact I.ok.has _ (.inl k)
    · exact I.ok.has _ (.inr k)
  refine wpAny_comprehension_free (use := use) rfl hs (closure_ok hfree) ok.kind (fun y hy e => by rw [ok.uniq y hy, e])
    (thn (hi.run pins s σ H _ I h) fun xv s1 hx => thn hx fun itv s2 h2 => ?_)
  obtain ⟨it, fp, tn, J, H2, e, I2, T, st2, f2, q⟩ := h2
  subst e
  refine wpAny_newObj_type (newEnv_comp ?_)
  generalize hD : s2.heap.objs.size = D
  have hDn : H2 D = none := I2.hok.fresh (Nat.le_of_eq hD)
  obtain ⟨W, ⟨m0, w0⟩, turn⟩ := q D hDn
  generalize hs3 : ({ s2 with heap := s2.heap.push { cls := .type "dict", data := .dict #[] } } : Shared) = s3
  have I3 : Inv X pins σ (upd H2 D (u0 D)) s3 := by
    rw [← hs3]
    refine I2.laid (t' := s2.toks) (fun b o e => Heap.get?_push_of_some _ e) (Nat.le_of_eq hD) ?_
    rw [← hD]
    exact hu0 s2.heap I2.big _
  have h3 : s3.heap = s2.heap.push { cls := .type "dict", data := .dict #[] } := by rw [← hs3]
  have sz : ∀ b ∈ fp, b < s2.heap.objs.size := fun b hb => by
    obtain ⟨o, e, _⟩ := T.obj _ _ st2 b hb
    exact Heap.lt_size e
  have f3 : ∀ b ∈ fp, FpOk X pins (upd H2 D (u0 D)) b ∧ b < s3.heap.objs.size := fun b hb => by
    have hlt := sz b hb
    refine ⟨⟨?_, (f2 b hb).2⟩, by rw [h3, Heap.size_push]; exact Nat.lt_succ_of_lt hlt⟩
    rw [upd_ne (by rw [← hD]; exact Nat.ne_of_lt hlt)]
    exact (f2 b hb).1
  have st3 : tn 0 s3.heap := T.keep _ _ _ st2 fun b _ o e => by rw [h3]; exact Heap.get?_push_of_some _ e
  have I4 := block_start I3 ok hN f3
  have pg := hg s3 (upd H2 D (u0 D)) s3.heap.objs.size (cellsFrom (s3.heap.objs.size + 1) scope.names (cloFrom X.env.cells scope.names [])) fp
  have pt := ht s3 (upd H2 D (u0 D)) s3.heap.objs.size (cellsFrom (s3.heap.objs.size + 1) scope.names (cloFrom X.env.cells scope.names [])) fp
  have pk := hk s3 (upd H2 D (u0 D)) s3.heap.objs.size (cellsFrom (s3.heap.objs.size + 1) scope.names (cloFrom X.env.cells scope.names [])) fp
  have pe := he s3 (upd H2 D (u0 D)) s3.heap.objs.size (cellsFrom (s3.heap.objs.size + 1) scope.names (cloFrom X.env.cells scope.names [])) fp
  show codeAny _ _ (.compStart (.DictComp kx vx [⟨tg, iter, ifs, 0⟩] scope pos) 0 (.ref it) (.ref D) (compEnvC scope (cellsFrom (s3.heap.objs.size + 1) scope.names (cloFrom X.env.cells scope.names [])) s3.heap.objs.size X.env)) (compPost (model X.prog X.w) X.A X.xe use Qf (.ref D) s3.heap.objs.size) { s3 with heap := pushCells (s3.heap.push { cls := .type "dict", data := .dict #[] }) scope.names }
  have nfp : ∀ b ∈ fp, (upd H2 D (u0 D)) b = none := fun b hb => (f3 b hb).1.1
  generalize hce : compEnvC scope (cellsFrom (s3.heap.objs.size + 1) scope.names (cloFrom X.env.cells scope.names [])) s3.heap.objs.size X.env = ce at I4 pg pt pk pe ⊢
  have cL : ce.locals = s3.heap.objs.size := by subst hce; rfl
  generalize hH3 : upd H2 D (u0 D) = H3 at I3 I4 pg pt pk pe w0 nfp f3
  generalize hs4 : ({ s3 with heap := pushCells (s3.heap.push { cls := .type "dict", data := .dict #[] }) scope.names } : Shared) = s4 at I4 ⊢
  have st4 : tn 0 s4.heap := T.keep _ _ _ st3 fun b _ o e => by rw [← hs4]; exact pushCells_keeps _ _ _ _ (Heap.get?_push_of_some _ e)
  have stat : ∀ {σ' : St} {H' : Hp} {s' : Shared}, Inv (X.blk s3 H3 scope ce fp) [] σ' H' s' → (∀ b ∈ fp, H' b = none) → ∀ b ∈ fp, FpOk (X.blk s3 H3 scope ce fp) [] H' b := fun {σ' H' s'} I' hn b hb =>
    ⟨hn b hb, (I'.ok.exf b hb).1, I'.ok.exfs b hb, .inl hb, fun x c e => (I'.ok.exf b hb).2 x c e, fun p hp => absurd (show p ∈ ([] : List (Addr × Obj)) ++ [] from hp) (by simp)⟩
  have loop : codeAny (model X.prog X.w) X.A (.compLoop (.DictComp kx vx [⟨tg, iter, ifs, 0⟩] scope pos) 0 (.ref it) (.ref D) ce) (compPost (model X.prog X.w) X.A X.xe use Qf (.ref D) s3.heap.objs.size) s4 := by
    refine compLoop_anyD (fun n s' => ∃ i H', Inv (X.blk s3 H3 scope ce fp) [] (wipe σ (own.map (·.2))) H' s' ∧ tn i s'.heap ∧ (∀ b ∈ fp, H' b = none) ∧ W i n H') ?_ m0 ⟨0, H3, I4, st4, nfp, w0⟩
    rintro n s5 ⟨i, H5, I5, st5, n5, w5⟩
    rcases turn i n H5 w5 with ⟨stop, qq⟩ | ⟨go, Nx, hNx, step⟩
    · have td := T.done (X.blk s3 H3 scope ce fp) rfl rfl rfl hc i [] s5 _ H5 (fun _ _ => False) I5 (stat I5 n5) st5 stop
      refine thnF td fun r s6 ⟨hr, I6⟩ => ?_
      subst hr
      have I7 : Inv X pins σ H5 s6 := I3.call' (ch := fp) I6.os I6.base I6.hok I6.bare fun b hb => ⟨(f3 b hb).1.2.2.2.1, (f3 b hb).1.2.1, (f3 b hb).1.2.2.2.2.1, (f3 b hb).1.2.2.2.2.2⟩
      have nC : H5 s3.heap.objs.size = none := by
        have z : H5 ce.locals = none := I6.free
        rw [cL] at z
        exact z
      obtain ⟨m, hn, _⟩ := I6.loc
      have hn : s6.heap.Ns ce.locals m := hn
      rw [cL] at hn
      exact hRR D s3.heap.objs.size s6 m H5 I7 qq hn (I3.fpOk (Nat.le_refl _) nC)
    · have ti := T.item (X.blk s3 H3 scope ce fp) rfl rfl rfl hc i [] s5 _ H5 (fun _ _ => False) I5 (stat I5 n5) st5 go
      refine thnF ti fun r s6 ⟨u, hr, h6⟩ => ?_
      subst hr
      refine thnF h6 fun _ s7 ⟨x, H7, I7, r7, y7, st7, n7⟩ => ?_
      have I7' := I7.pinned (stat I7 n7) (T.obj _ _ st7)
      refine thnF (pg.run _ s7 _ H7 x u _ I7' r7 (step x H7 y7)) fun _ s8 ⟨σ8, H8, I8, hw8, q8⟩ => ?_
      refine thnF (pt.run _ s8 σ8 H8 _ I8 q8) fun b s9 ⟨H9, I9, q9⟩ => ?_
      have fin : ∀ {s' : Shared} {H' : Hp}, Inv (X.blk s3 H3 scope ce fp) ([] ++ pinsAt fp s7.heap) σ8 H' s' → Nx H' → ∃ m, m < n ∧ ∃ i H', Inv (X.blk s3 H3 scope ce fp) [] (wipe σ (own.map (·.2))) H' s' ∧ tn i s'.heap ∧ (∀ b ∈ fp, H' b = none) ∧ W i m H' := fun {s' H'} I' nx => by
        obtain ⟨m', hm, w'⟩ := hNx H' nx
        have pin' : ∀ b ∈ fp, ∀ o, s7.heap.get? b = some o → s'.heap.get? b = some o ∧ H' b = none := fun b hb o e =>
          let z := I'.pin (b, o) (List.mem_append_right _ (List.mem_append_right _ (mem_pinsAt hb e)))
          ⟨z.1, z.2.1⟩
        have hl : (wipe σ (own.map (·.2))).length = σ8.length := by rw [← hw8, wipe_length]
        refine ⟨m', hm, i + 1, H', (I'.unpinned (pins := [])).weak hl (fun j v e => ?_), T.keep _ _ _ st7 fun b hb o e => (pin' b hb o e).1, fun b hb => ?_, w'⟩
        · rw [← hw8] at e
          exact (wipe_some e).1
        · obtain ⟨o, e, _⟩ := T.obj _ _ st7 b hb
          exact (pin' b hb o e).2
      cases b with
      | false =>
        simp only [Bool.false_eq_true, if_false] at q9 ⊢
        exact fin I9 q9
      | true =>
        simp only [if_true] at q9 ⊢
        refine thnF (pk.run _ s9 σ8 H9 _ I9 q9) fun z s10 ⟨yk, H10, I10, r10, q10⟩ => ?_
        refine thnF (pe.run _ s10 σ8 H10 _ I10 q10) fun z2 s11 ⟨yv, H11, I11, r11, hst⟩ => ?_
        exact hSg (X.blk s3 H3 scope ce fp) rfl rfl rfl rfl _ _ _ _ _ _ _ _ _ _ _ _ I11 r10 r11 hst fun s12 H12 I12 nx => fin I12 nx
  exact codeAny_compStart_dict loop (T.self X.A 0 _ _ _ st4 loop)
end
def SgN (P : Program) (w : World) (K : PySem.W.Frag) (D : Addr) (y _z : V) (H : Hp) (Nx : Hp → Prop) : Prop :=
  ∃ (ks : List (NestedKey × Addr)) (ds : List PyData) (k : NestedKey) (b : Addr) (d : PyData), y = .ref b ∧ H D = some (DN P w D ks) ∧ KeysAre K H ks ds ∧ Rp K H (.ref b) d ∧ nk d = some k ∧ k.depth ≤ 8 ∧ ks.length < sizeLine ∧ Nx (upd H D (DN P w D (addKey ks (k, b))))
section
variable {X : Cx}
theorem dn_new (h : Heap) (hb : sysModules < h.objs.size) (H : Hp) : ObjOk X.prog X.w H (h.push { cls := .type "dict", data := .dict #[] }) h.objs.size (DN X.prog X.w h.objs.size []) := by
  have hm : (h.objs.size == sysModules) = false := beq_eq_false_iff_ne.mpr (Nat.ne_of_gt hb)
  obtain ⟨o, es, ep, e1, e2, e3, e4, _, e6⟩ := Heap.DictOfH.new (knd := nestedKind X.prog X.w) h
  exact dn_ok hm (Nat.zero_le _) (xs := []) rfl ⟨o, es, ep, e1, e2, e3, e4, e6⟩
theorem step_n (hu : X.A.units + 66 < cLine) : StepOk X (SgN X.prog X.w X.K) := by
  intro X' e1 e2 e3 e4 pins σ H s E D y z u r Nx Q I ry rz h hq
  obtain ⟨ks, ds, k, b, d, rfl, hD, rk, rd', hk, hdep, hl, nx⟩ := h
  cases ry
  rw [← e1, ← e2] at hD nx
  rw [← e3] at rk rd'
  obtain ⟨h1, h2, xs, h3, hm⟩ := dn_at I hD rk
  have hxl : xs.length = ks.length := by rw [← h3, List.length_map]
  have hkey : (nestedKind X'.prog X'.w).is s.heap k b := ⟨Rp.nested I rd' hk rfl, hdep⟩
  refine wpAny_dictSet_heap (hsz := by omega) (knd := nestedKind X'.prog X'.w) (by show X'.A.units + 8 < cLine; rw [e4]; omega) hkey hm fun h' hm' hs => ?_
  have ek := storedH_keys xs k b r
  rw [h3] at ek
  have lk := addKey_length ks (k, b)
  obtain ⟨o, es, ep, w1, w2, w3, w4, w5, w6⟩ := hm'
  refine hq _ _ (d_write (t' := s.toks + (nestedKind X'.prog X'.w).draws k) I (by rw [hD]; exact True.intro) hs ⟨o, w1⟩ (dn_ok h1 (by omega) ek ⟨o, es, ep, w1, w2, w3, w4, w6⟩)) nx
end
def keyOk (d : PyData) : Bool := (nk d).any (fun z => decide (z.depth ≤ 8)) && pairsK.isTup d
def dcGo (vs : List Nat) (t : PyData → Sls → Option Sls) (ts : Sls → Out Bool) (kx vx : Sls → Out SV) : List PyData → Sls → Out (List PyData)
  | [], e => .ok [] e
  | d :: ds, e =>
    match t d e with
    | none => .stuck
    | some e1 => (ts e1).noErr.bind fun b e2 =>
      if b then (kx e2).noErr.bind fun x e3 => (frzO x e3).noErr.bind fun y e4 => (vx e4).noErr.bind fun _ e5 =>
        if keyOk (rd e4 y) && noOwn vs e5 then (dcGo vs t ts kx vx ds (wipeE e5 vs)).bind fun r e7 => .ok (rd e4 y :: r) e7 else .stuck
      else if noOwn vs e2 then dcGo vs t ts kx vx ds (wipeE e2 vs) else .stuck
def compD (vs : List Nat) (it : Sls → Out (List PyData)) (t : PyData → Sls → Option Sls) (ts : Sls → Out Bool) (kx vx : Sls → Out SV) : Sls → Out SV := fun e => (it e).bind fun ds e1 =>
  if noOwn vs e1 && decide (ds.length ≤ sizeLine) then (dcGo vs t ts kx vx ds (wipeE e1 vs)).noErr.bind fun r e2 => .ok (.val (.int (r.foldl addKeyD []).length)) (backE e1 e2 vs) else .stuck
def FinD (X : Cx) (M : Md) (O : Addr → Prop) (F : List (Nat × V)) (D : Addr) (σ0 : St) (e0 : Sls) (H0 : Hp) (vs : List Nat) (acc : List PyData) (Q : Hp → Prop) : Out (List PyData) → Prop
  | .ok r e2 => ∀ H' ks, Good M.K (Op O D) F H' σ0 e2 → H' D = some (DN X.prog X.w D ks) → KeysAre M.K (msk (Hid (Op O D) σ0 e2) H') ks (r.foldl addKeyD acc) → KpB D σ0 e0 H0 σ0 e2 H' → DnB vs e0 e2 → Q H'
  | _ => False
section
variable {X : Cx} {M : Md} {O : Addr → Prop} {F : List (Nat × V)} {D : Addr} {σ0 : St} {e0 : Sls} {H0 : Hp} {vs : List Nat} {acc : List PyData} {Q : Hp → Prop}
theorem FinD.bind {α : Type} {o : Out α} {f : α → Sls → Out (List PyData)} (h : FinD X M O F D σ0 e0 H0 vs acc Q (o.noErr.bind f))
    {O' : Addr → Prop} {F' : List (Nat × V)} {σ : St} {e : Sls} {H : Hp} {W : WX} : Po M O' F' σ e H W (fun a e1 _ => FinD X M O F D σ0 e0 H0 vs acc Q (f a e1)) o := by
  cases o with
  | ok a e1 => exact fun _ _ _ _ => h
  | err x e1 => exact h.elim
  | stuck => exact h.elim
theorem FinD.push {d : PyData} {o : Out (List PyData)} (h : FinD X M O F D σ0 e0 H0 vs acc Q (o.bind fun r e5 => .ok (d :: r) e5)) : FinD X M O F D σ0 e0 H0 vs (addKeyD acc d) Q o := by
  cases o with
  | ok r e2 => exact h
  | err x e1 => exact h.elim
  | stuck => exact h.elim
structure DcAt (X : Cx) (M : Md) (O : Addr → Prop) (F : List (Nat × V)) (D : Addr) (σ0 : St) (e0 : Sls) (H0 : Hp) (vs : List Nat) (i : Nat) (H : Hp) (e : Sls) (ks : List (NestedKey × Addr)) (accd : List PyData) : Prop where
  good : Good M.K (Op O D) F H σ0 e
  at_ : H D = some (DN X.prog X.w D ks)
  few : ks.length ≤ i
  rp : KeysAre M.K (msk (Hid (Op O D) σ0 e) H) ks accd
  kp : KpB D σ0 e0 H0 σ0 e H
  dn : DnB vs e0 e
variable {fx : List Nat}
theorem dc_loop {ts : List Nat} {t : PyData → Sls → Option Sls} {tst : Sls → Out Bool} {kx vx : Sls → Out SV} {own : List Nat} {σ : St} {e1 : Sls} {H1 : Hp} {Q : VK} {ds : List PyData} {J : It}
    (hF : ∀ p ∈ F, p.1 ∈ fx) (hfx : ∀ i ∈ own, i ∉ fx) (hts : ∀ i ∈ ts, i ∈ own) (tok : TgOk own t) (g1 : Good M.K O F H1 σ e1) (no : noOwn own e1 = true) (hz : ds.length ≤ sizeLine) (wk : WalkD M.K (Hid O σ e1) H1 J ds) (nD : H1 D = none)
    (h : FinD X M O F D (wipe σ own) (wipeE e1 own) H1 own [] (Q (.ref D)) (dcGo own t tst kx vx ds (wipeE e1 own))) :
    ∃ Wi : Nat → Nat → Hp → Prop, (∃ m, Wi 0 m (upd H1 D (DN X.prog X.w D []))) ∧ ∀ i m H, Wi i m H →
      (J.stop i H ∧ Q (.ref D) H) ∨ (J.go i H ∧ ∃ Nx : Hp → Prop, (∀ H', Nx H' → ∃ m', m' < m ∧ Wi (i + 1) m' H') ∧ ∀ x H', J.yld i H x H' → cG M fx ts t x (wipe σ own) H' fun σ2 H2 => wipe σ2 own = wipe σ own ∧ cT M fx W0 tst σ2 H2 fun b H3 =>
        if b = true then cE M fx W0 kx σ2 H3 fun y H4 => cE M fx W0 vx σ2 H4 fun z H5 => SgN X.prog X.w M.K D y z H5 Nx else Nx H3) := by
  have hf : ∀ p ∈ F, p.1 ∉ own := fun p hp z => hfx _ z (hF p hp)
  refine ⟨fun i m H => m = ds.length - i ∧ i ≤ ds.length ∧ ∃ e ks accd, DcAt X M O F D (wipe σ own) (wipeE e1 own) H1 own i H e ks accd ∧ FinD X M O F D (wipe σ own) (wipeE e1 own) H1 own accd (Q (.ref D)) (dcGo own t tst kx vx (ds.drop i) e), ⟨ds.length, rfl, Nat.zero_le _, wipeE e1 own, [], [], ?_, h⟩, ?_⟩
  · obtain ⟨g', _⟩ := (g1.wipe no hf).laid (u := DN X.prog X.w D []) nD
    exact ⟨g', upd_same, Nat.le_refl _, .nil, fun a o ne q n => ⟨by rw [upd_ne ne]; exact q, n⟩, DnB.refl⟩
  rintro i m H ⟨rfl, hi, e, ks, accd, ⟨g, hD, few, rp, kp, dn⟩, hfin⟩
  have vis : Same (msk (Hid O σ e1) H1) (msk (Hid (Op O D) (wipe σ own) e) H) := fun a o z => by
    obtain ⟨n, z⟩ := msk_some.mp z
    have ne : a ≠ D := ne_of_none z nD
    obtain ⟨w1, w2⟩ := kp a o ne z fun w => n (.inr ((own_wipe no a).mp w))
    exact msk_some.mpr ⟨fun w => w.elim (fun w => w.elim (fun w => n (.inl w)) ne) w2, w1⟩
  by_cases hlt : i < ds.length
  · refine .inr ⟨wk.goes i H hlt (vis.trans msk_sub), fun H' => ∃ e' ks' accd', DcAt X M O F D (wipe σ own) (wipeE e1 own) H1 own (i + 1) H' e' ks' accd' ∧ FinD X M O F D (wipe σ own) (wipeE e1 own) H1 own accd' (Q (.ref D)) (dcGo own t tst kx vx (ds.drop (i + 1)) e'),
      fun H' ⟨e', ks', accd', q1, q2⟩ => ⟨ds.length - (i + 1), by omega, rfl, hlt, e', ks', accd', q1, q2⟩, fun x H2 y => ?_⟩
    obtain ⟨d, hd, sm, rx⟩ := wk.yields i H x H2 hlt (vis.trans msk_sub) y
    have g2 := g.ext sm
    have rpx : Rp M.K (msk (Hid (Op O D) (wipe σ own) e) H2) x d := rx _ (vis.trans (msk_same sm)) fun a o z1 z2 => msk_some.mpr ⟨g.fresh z1, z2⟩
    have ed : ds.drop i = d :: ds.drop (i + 1) := by
      rw [List.drop_eq_getElem_cons hlt]
      rw [List.getElem?_eq_getElem hlt] at hd
      rw [Option.some.inj hd]
    rw [ed] at hfin
    have hfin' : FinD X M O F D (wipe σ own) (wipeE e1 own) H1 own accd (Q (.ref D)) (match t d e with
      | none => .stuck
      | some e1 => (tst e1).noErr.bind fun b e2 =>
        if b then (kx e2).noErr.bind fun x e3 => (frzO x e3).noErr.bind fun y e4 => (vx e4).noErr.bind fun _ e5 =>
          if keyOk (rd e4 y) && noOwn own e5 then (dcGo own t tst kx vx (ds.drop (i + 1)) (wipeE e5 own)).bind fun r e7 => .ok (rd e4 y :: r) e7 else .stuck
        else if noOwn own e2 then dcGo own t tst kx vx (ds.drop (i + 1)) (wipeE e2 own) else .stuck) := hfin
    refine ⟨Op O D, F, e, d, hF, g2, rpx, ?_⟩
    cases q : t d e with
    | none => rw [q] at hfin'; exact hfin'.elim
    | some e2 =>
      rw [q] at hfin'
      intro σ2 g3 k3 a3
      have ew : wipe σ2 own = wipe σ own := by rw [wipe_agr a3 hts, wipe_wipe]
      refine ⟨ew, Op O D, F, e2, hF, g3, (FinD.bind hfin').mono fun b e4 H4 g4 k4 d4 h4 => ?_⟩
      have kp4 : KpB D (wipe σ own) e H σ2 e4 H4 := (Kp.b (Kp.same sm)).trans ((Kp.b k3).trans (Kp.b k4))
      have dn4 : DnB own e e4 := (tok d e e2 q).trans (Dn.b d4)
      have n0 : ¬ OwnAt (wipe σ own) e D := fun ⟨j, zs, z1, z2⟩ => by
        obtain ⟨p, _, w1, _, _, _, w5⟩ := g.own j zs z1
        rw [z2] at w1; cases w1
        exact w5 (.inr rfl)
      have hD4 := (((Kp.same sm).trans k3).trans k4) D _ hD n0
      have vis4 : Same (msk (Hid (Op O D) (wipe σ own) e) H) (msk (Hid (Op O D) σ2 e4) H4) := ((Kp.same sm).trans (k3.trans k4)).vis
      cases b with
      | true =>
        rw [if_pos rfl] at h4
        refine iteT ?_
        refine ⟨Op O D, F, e4, hF, g4, (FinD.bind h4).mono fun x5 e5 H5 g5 k5 d5 h5 v5 r5 => ?_⟩
        obtain ⟨dv, e6, g6, k6, d6, r6, h6, hfz⟩ := SVR.freeze g5 r5 (FinD.bind h5 (O' := Op O D) (F' := F) (σ := σ2) (e := e5) (H := H5) (W := W0))
        refine ⟨Op O D, F, e6, hF, g6, (FinD.bind h6).mono fun x7 e7 H7 g7 k7 d7 h7 v7 r7 => ?_⟩
        have k57 := k5.trans (k6.trans k7)
        have hD7 := k57 D _ hD4.1 hD4.2
        have erd : rd e6 (SV.val dv) = dv := rfl
        rw [erd] at h7
        by_cases c : (keyOk dv && noOwn own e7) = true
        · rw [if_pos c] at h7
          rw [Bool.and_eq_true] at c
          obtain ⟨ck, no7⟩ := c
          unfold keyOk at ck
          rw [Bool.and_eq_true] at ck
          obtain ⟨z, hz', hdep⟩ := (Option.any_eq_true _ _).mp ck.1
          obtain ⟨b, rfl⟩ := rp_tup_ref r6 ck.2
          have rk7 : KeysAre M.K (msk (Hid (Op O D) σ2 e7) H7) ks accd := (rp.mono vis4).mono k57.vis
          have r7' : Rp M.K (msk (Hid (Op O D) σ2 e7) H7) (.ref b) dv := r6.mono k7.vis
          have g8 := (g7.wipe no7 hf).updO (u := DN X.prog X.w D (addKey ks (z, b)))
          rw [ew] at g8
          have eqm : msk (Hid (Op O D) (wipe σ own) (wipeE e7 own)) H7 = msk (Hid (Op O D) σ2 e7) H7 := by
            rw [← ew]
            exact msk_iff (hid_iff (own_wipe no7))
          refine ⟨ks, accd, z, b, dv, rfl, hD7.1, rk7.mono msk_sub, r7'.mono msk_sub, hz', of_decide_eq_true hdep, by omega, wipeE e7 own, addKey ks (z, b), addKeyD accd dv, ⟨g8, upd_same, ?_, ?_, ?_, ?_⟩, FinD.push h7⟩
          · have := addKey_length ks (z, b)
            omega
          · refine KeysAre.mono updO_same ?_
            rw [eqm]
            exact rk7.add r7' hz' (of_decide_eq_true hdep)
          · refine kp.trans (kp4.trans ((Kp.b k57).trans ?_))
            intro a o ne z n
            refine ⟨by rw [upd_ne ne]; exact z, fun w => n ?_⟩
            rw [← ew] at w
            exact (own_wipe no7 a).mp w
          · exact dn.trans (dn4.trans ((Dn.b (d5.trans (d6.trans d7))).trans dn_wipe))
        · rw [if_neg c] at h7
          exact h7.elim
      | false =>
        rw [if_neg Bool.false_ne_true] at h4
        refine iteF ?_
        by_cases no4 : noOwn own e4 = true
        · rw [if_pos no4] at h4
          have g7 := g4.wipe no4 hf
          rw [ew] at g7
          have eqm : msk (Hid (Op O D) (wipe σ own) (wipeE e4 own)) H4 = msk (Hid (Op O D) σ2 e4) H4 := by
            rw [← ew]
            exact msk_iff (hid_iff (own_wipe no4))
          refine ⟨wipeE e4 own, ks, accd, ⟨g7, hD4.1, by omega, ?_, ?_, ?_⟩, h4⟩
          · rw [eqm]
            exact rp.mono vis4
          · refine kp.trans (kp4.trans ?_)
            intro a o ne z n
            refine ⟨z, fun w => n ?_⟩
            rw [← ew] at w
            exact (own_wipe no4 a).mp w
          · exact dn.trans (dn4.trans dn_wipe)
        · rw [if_neg no4] at h4
          exact h4.elim
  · have ei : i = ds.length := by omega
    subst ei
    rw [List.drop_length] at hfin
    exact .inl ⟨wk.stops H (vis.trans msk_sub), hfin H ks g hD rp kp dn⟩
end
section
variable {X : Cx} {fx : List Nat} {W : WX} {k : Nat} {kxe vxe tg iter : Expr} {dpos pos p : Pos}
theorem pe_dcG {ifs : List Expr} {scope : Scope} {own : List (Str × Nat)} {wi : TI} {g : TG} {tt : TT} {tk tv : TE} (ct : Ct X W k) (hi : PI X tg iter wi) (ok : BlkOk X.N X.env.scope scope own)
    (hg : ∀ (s : Shared) (H : Hp) (C : Addr) (cl : List (Str × Addr)) (fp : List Addr), PG (X.blk s H scope (compEnvC scope cl C X.env) fp) tg g) (ht : ∀ (s : Shared) (H : Hp) (C : Addr) (cl : List (Str × Addr)) (fp : List Addr), PTs (X.blk s H scope (compEnvC scope cl C X.env) fp) ifs tt)
    (hk : ∀ (s : Shared) (H : Hp) (C : Addr) (cl : List (Str × Addr)) (fp : List Addr), PE (X.blk s H scope (compEnvC scope cl C X.env) fp) kxe tk)
    (hv : ∀ (s : Shared) (H : Hp) (C : Addr) (cl : List (Str × Addr)) (fp : List Addr), PE (X.blk s H scope (compEnvC scope cl C X.env) fp) vxe tv) (hs : ∀ x, foldedSetIterable iter X.env x = pure x) :
    PE X (.DictComp kxe vxe [⟨tg, iter, ifs, 0⟩] scope dpos) (tDcG (fun D => DN X.prog X.w D []) (SgN X.prog X.w X.K) wi g tt tk tv (own.map (·.2))) := by
  refine ⟨fun pins s σ H Q I h => ?_⟩
  rw [arm_eval_DictComp]
  refine dcg_core (fun h hb H => dn_new h hb H) (step_n ct.u66) ct.calm ct.nd I hi ok hg ht hk hv hs h fun D C s' m H' I' q hn f => ⟨m, hn, fun h'' sb => ?_⟩
  exact ⟨.ref D, H', I'.turned (t' := s'.toks) (fun b o hb e => (sb.2 b hb).trans e) f.1 f.2.1 f.2.2.2.1 f.2.2.2.2.1 f.2.2.2.2.2, rfl, q⟩
theorem w_lenDC {ifs : List Expr} {scope : Scope} {own : List (Str × Nat)} {ts : List Nat} {t : PyData → Sls → Option Sls} {tst : Sls → Out Bool} {kx vx : Sls → Out SV} {it : Sls → Out (List PyData)} (ct : Ct X W k) (hm : X.mg "len" = none) (ok : blkC X.N X.env.scope scope own = true) (tok : TgOk (own.map (·.2)) t) (hi : PI X tg iter (cI X.md fx W it))
    (hg : ∀ (s : Shared) (H : Hp) (C : Addr) (cl : List (Str × Addr)) (fp : List Addr), PG (X.blk s H scope (compEnvC scope cl C X.env) fp) tg (cG X.md fx ts t))
    (ht : ∀ (s : Shared) (H : Hp) (C : Addr) (cl : List (Str × Addr)) (fp : List Addr), PTs (X.blk s H scope (compEnvC scope cl C X.env) fp) ifs (cT X.md fx W0 tst))
    (hk : ∀ (s : Shared) (H : Hp) (C : Addr) (cl : List (Str × Addr)) (fp : List Addr), PE (X.blk s H scope (compEnvC scope cl C X.env) fp) kxe (cE X.md fx W0 kx))
    (hv : ∀ (s : Shared) (H : Hp) (C : Addr) (cl : List (Str × Addr)) (fp : List Addr), PE (X.blk s H scope (compEnvC scope cl C X.env) fp) vxe (cE X.md fx W0 vx))
    (hfx : ((own.map (·.2)).all fun i => !fx.contains i) = true := by rfl) (hts : (ts.all fun i => (own.map (·.2)).contains i) = true := by rfl) (hs : ∀ x, foldedSetIterable iter X.env x = pure x := by intro _; rfl) (hgl : Gl X "len" := by rfl)
    (he : starEach [.DictComp kxe vxe [⟨tg, iter, ifs, 0⟩] scope dpos] X.env = (false, eval (.DictComp kxe vxe [⟨tg, iter, ifs, 0⟩] scope dpos) X.env) :: starEach [] X.env := by rfl) (hpl : (backTo pos (starEach [] X.env)).any (·.1) = false := by rfl) :
    PE X (.Call (.Name "len" p) [.DictComp kxe vxe [⟨tg, iter, ifs, 0⟩] scope dpos] [] pos) (cE X.md fx W (compD (own.map (·.2)) it t tst kx vx)) := by
  refine (pe_callB (x := "len") (p := p) (pos := pos) (cr_lenN (X := X)) hgl hm (by first | decide +kernel | rfl) (pa_cons (pe_dcG ct hi (blkOk_by ok) hg ht hk hv hs) pa_nil he) (by decide) (by decide) he hpl).weak fun σ H Q ⟨O, F, e, hF, g, h⟩ => ?_
  refine ⟨O, F, e, hF, g, (Po.bind h).mono fun ds e1 H1 g1 k1 d1 h1 J wk D nD => ?_⟩
  by_cases c : (noOwn (own.map (·.2)) e1 && decide (ds.length ≤ sizeLine)) = true
  · rw [if_pos c] at h1
    rw [Bool.and_eq_true] at c
    have hf : ∀ p ∈ F, p.1 ∉ own.map (·.2) := fun p hp z => fx_out hfx _ z (hF p hp)
    refine dc_loop (X := X) (Q := fun x H1 => rLenN X.K X.prog X.w [x] H1 Q) hF (fx_out hfx) (sub_of hts) tok g1 c.1 (of_decide_eq_true c.2) wk nD ?_
    cases q : dcGo (own.map (·.2)) t tst kx vx ds (wipeE e1 (own.map (·.2))) with
    | ok r e2 =>
      rw [q] at h1
      have h1' : Po X.md O F σ e1 H1 W (fun x e' H' => ∀ v, SVR X.md.K O H' σ e' v x → Q v H') (.ok (.val (.int (r.foldl addKeyD []).length)) (backE e1 e2 (own.map (·.2)))) := h1
      intro H' ks g2 hD hr kp dn
      obtain ⟨g3, hid, k3⟩ := Good.back g1 c.1 nD g2 kp hf
      refine ⟨D, ks, r.foldl addKeyD [], rfl, hD, hr.mono msk_sub, trivial, ?_⟩
      refine h1' H' g3.bare k3 (fun i s z1 z2 => ?_) _ (.int _)
      by_cases ci : i ∈ own.map (·.2)
      · have hlen : e2.length = e1.length := by rw [← g2.len, wipe_length]; exact g1.len
        have hi : i < (backE e1 e2 (own.map (·.2))).length := by
          rw [backE_length, hlen]
          exact (List.getElem?_eq_some_iff.mp z1).1
        have := backE_in hlen ci (List.getElem?_eq_getElem hi)
        rw [z1] at this
        exact ⟨s, by rw [List.getElem?_eq_getElem hi]; exact this.symm, z2⟩
      · obtain ⟨s', w1, w2⟩ := dn i s ci (by rw [wipeE_out ci]; exact z1) z2
        exact ⟨s', by rw [backE_out ci]; exact w1, w2⟩
    | err x e2 => rw [q] at h1; exact h1.elim
    | stuck => rw [q] at h1; exact h1.elim
  · rw [if_neg c] at h1
    exact h1.elim
end
end PP
set_option maxRecDepth 100000
namespace PP
open PySem PySem.Spec PyProof.Rows L2
abbrev objD (a : Addr) : PyData := .dict [(.none, .int (a : Nat))]
theorem kv_not {K : PySem.W.Frag} {H : Hp} {xs : List (Key × V)} {d : PyData} {r : List (PyData × PyData)} (h : RpKV K H xs ((.none, d) :: r)) : False := by
  generalize e : ((PyData.none, d) :: r) = ds at h
  cases h with
  | nil => cases e
  | cons h t =>
    rename_i k _ _ _ _
    cases k <;> simp [keyD] at e
theorem tv_not {K : PySem.W.Frag} {H : Hp} {xs : List (List Key × V)} {d : PyData} {r : List (PyData × PyData)} (h : RpTV K H xs ((.none, d) :: r)) : False := by
  generalize e : ((PyData.none, d) :: r) = ds at h
  cases h with
  | nil => cases e
  | cons h t => simp at e
theorem Rp.objv {K : PySem.W.Frag} {H : Hp} {v : V} {a : Addr} (r : Rp K H v (objD a)) : v = .ref a := by
  generalize e : objD a = d at r
  cases r with
  | dct q l r => cases e; exact (kv_not r).elim
  | dcT q l r => cases e; exact (tv_not r).elim
  | obj b =>
    have e2 : ((a : Nat) : Int) = ((b : Nat) : Int) := by simpa [objD] using e
    rw [Int.ofNat.inj e2]
  | _ => cases e
structure CtH (X : Cx) : Prop where
  u : X.A.units + 200 < cLine
  nd : X.N.Nodup
theorem CtH.u64 {X : Cx} (c : CtH X) : X.A.units + 64 < cLine := by have := c.u; omega
theorem CtH.u65 {X : Cx} (c : CtH X) : X.A.units + 65 < cLine := by have := c.u; omega
def isV (i : Nat) (a : Addr) (b : Bool) : Sls → Out SV := fun e =>
  match e[i]? with
  | some (Sl.val (.dict [(.none, .int j)])) => if j = ((a : Nat) : Int) then .ok (.val (.bool b)) e else .stuck
  | _ => .stuck
section
variable {X : Cx} {fx : List Nat} {W : WX} {pos p p1 p2 : Pos} {x cn : Str} {i : Nat}
theorem w_isi {a D Ca : Addr} {b : Bool} (hcall : CallR X (.builtin "isinstance") (rIsE X.K D a)) (hm : X.mg "isinstance" = none) (hC : X.mg cn = some (.ref Ca)) (hb : PySem.W.kitOne X.K (.ref D) (.ref Ca) = some b)
    (hN : X.N[i]? = some x := by rfl) (hv : Vis X.env.scope x := by first | exact .inl rfl | exact .inr (.inl rfl) | exact .inr (.inr rfl)) (hd : (x == ("__debug__" : Str)) = false := by decide) (hcd : (x == ("__classdict__" : Str)) = false := by decide)
    (hg : Gl X "isinstance" := by rfl) (hgc : Gl X cn := by rfl) (hdc : (cn == ("__debug__" : Str)) = false := by decide)
    (he : starEach [.Name x p1, .Name cn p2] X.env = (false, eval (.Name x p1) X.env) :: starEach [.Name cn p2] X.env := by rfl) (he2 : starEach [.Name cn p2] X.env = (false, eval (.Name cn p2) X.env) :: starEach [] X.env := by rfl)
    (hpl : (backTo pos (starEach [.Name cn p2] X.env)).any (·.1) = false := by rfl) : PE X (.Call (.Name "isinstance" p) [.Name x p1, .Name cn p2] [] pos) (cE X.md fx W (isV i a b)) := by
  refine (pe_callB (x := "isinstance") (p := p) (pos := pos) hcall hg hm (by first | decide +kernel | rfl) (pa_cons (pe_var (i := i) hN hv hd hcd) (pa_cons (pe_glob (v := .ref Ca) hgc hC rfl hdc) pa_nil he2) he) (by decide) (by decide) he hpl).weak fun σ H Q ⟨O, F, e, hF, g, h⟩ => ?_
  unfold isV at h
  split at h
  · rename_i j q
    split at h
    · rename_i c
      subst c
      obtain ⟨v, h1, h2⟩ := g.val i _ q
      have e1 := Rp.objv h2
      subst e1
      exact ⟨_, h1, .ref Ca, .ref Ca, b, rfl, fun u hu => hu, hb, h H g Kp.refl Dn.refl _ (.bl b)⟩
    · exact h.elim
  · exact h.elim
end
section
variable {X : Cx} {fx : List Nat} {W : WX} {a b : Expr} {es : List Expr} {fa : Sls → Out SV} {fs : Sls → Out (List SV)} {apos cpos : Pos}
theorem wh_index (ct : CtH X) (ho : PE X a (cE X.md fx W fa)) (ha : PA X (b :: es) (cA X.md fx W fs)) (hbase : attributeBase a "index" X.env (eval a X.env) = eval a X.env := by rfl)
    (hfew : ((backTo cpos (starEach (b :: es) X.env)).all (fun x => !x.1) && (backToKw cpos (keywordEach [] X.env)).all (fun x => x.1.isSome)
      && decide ((b :: es).length + ([] : List Keyword).length + (if ([] : List Keyword).isEmpty then 0 else 1) < 30)) = true := by rfl)
    (hline : (apos.endLine == cpos.line) = true := by rfl) (hst : starEach (b :: es) X.env = (false, eval b X.env) :: starEach es X.env := by rfl) (hplain : (backTo cpos (starEach es X.env)).any (·.1) = false := by rfl) :
    PE X (.Call (.Attribute a "index" apos) (b :: es) [] cpos) (cE X.md fx W (meth "list" idxD fa fs)) := by
  obtain ⟨r, h1, h2⟩ := om_index (X := X) ct.u65
  exact pp_meth PySem.F.plainAttrs_list PySem.F.slot_list_index PySem.F.type_list_index h1 h2 ho ha hbase hfew hline hst hplain
theorem wh_count (ct : CtH X) (ho : PE X a (cE X.md fx W fa)) (ha : PA X (b :: es) (cA X.md fx W fs)) (hbase : attributeBase a "count" X.env (eval a X.env) = eval a X.env := by rfl)
    (hfew : ((backTo cpos (starEach (b :: es) X.env)).all (fun x => !x.1) && (backToKw cpos (keywordEach [] X.env)).all (fun x => x.1.isSome)
      && decide ((b :: es).length + ([] : List Keyword).length + (if ([] : List Keyword).isEmpty then 0 else 1) < 30)) = true := by rfl)
    (hline : (apos.endLine == cpos.line) = true := by rfl) (hst : starEach (b :: es) X.env = (false, eval b X.env) :: starEach es X.env := by rfl) (hplain : (backTo cpos (starEach es X.env)).any (·.1) = false := by rfl) :
    PE X (.Call (.Attribute a "count" apos) (b :: es) [] cpos) (cE X.md fx W (meth "list" cntD fa fs)) := by
  obtain ⟨r, h1, h2⟩ := om_count (X := X) ct.u65
  exact pp_meth PySem.F.plainAttrs_list PySem.F.slot_list_count PySem.F.type_list_count h1 h2 ho ha hbase hfew hline hst hplain
end
def KindFacts (K : PySem.W.Frag) (mg : Str → Option Value) (top : String) (names : List String) (kd : String → Option Str) : Prop :=
  ∀ c D, kd c ≠ none → mg (Str.ofString c) = some (.ref D) → ExcC K D ∧ ∀ x ∈ names, ∃ Ca, mg (Str.ofString x) = some (.ref Ca) ∧ PySem.W.kitOne K (.ref D) (.ref Ca) = some (x == c || x == top)
section
variable {P : Program} {w : World} {K : PySem.W.Frag} {mg : Str → Option Value} {base : Heap} {x qual nm : Str} {st : Stmt} {f : Addr} {fd : FuncData} {N : List Str} {k : Nat} {kd : String → Option Str}
theorem kind_P {g : Addr → String → Sls → OutS} (F : Fun K x qual st f fd) (S : FnScope N [nm] (defScope st)) (hK : ∀ c D, kd c ≠ none → mg (Str.ofString c) = some (.ref D) → ExcC K D)
    (B : ∀ (cdv : Value) (A : Around) (outer : List Env) (s : Shared) (H : Hp) (p : Addr × Obj) (c : String) (D : Addr), CtH (cxK P w K mg base N qual (defScope st) f cdv A outer s H p) → CallR (cxK P w K mg base N qual (defScope st) f cdv A outer s H p) (.builtin "isinstance") (rIsE K D p.1) → kd c ≠ none → mg (Str.ofString c) = some (.ref D) →
      PSs (cxK P w K mg base N qual (defScope st) f cdv A outer s H p) (defBody st) (cS ⟨K, mg⟩ [] W0 (g p.1 c)))
    (hev : ∀ (a : Addr) (c : String) (z : Str), kd c = some z → ∃ e', g a c (envA N.length [objD a]) = .rt (.str z) e') : FnK P w K mg base (k + 1) f fd nm kd := by
  refine def_K F S fun cdv A outer s H p c D z Q hr hz hf hD hk hq => ⟨_, B cdv A outer s H p c D ⟨by have h0 := hr.un; show (A.deeper (envOfC qual (defScope st) s.heap.objs.size f cdv)).units + 200 < _; omega, S.nd⟩ (call_isP (hK c D (by rw [hk]; exact fun z => nomatch z) hD) List.mem_cons_self hz hf) (by rw [hk]; exact fun z => nomatch z) hD, ?_⟩
  obtain ⟨g0, no⟩ := good_start (K := K) (P := fun _ => False) (H := H) (N := N) (vs := [.ref p.1]) (as := [objD p.1]) (scope_le S) (fun _ z => z.elim) (.cons (.obj p.1) .nil)
  refine ⟨fun _ => False, [], _, (fun _ hp => nomatch hp), g0, ?_⟩
  obtain ⟨e', he⟩ := hev p.1 c z hk
  rw [he]
  intro v σ' H' g' r' k'
  cases r'
  exact hq H' fun a o q => (k' a o q (no a)).1
end
def kOf (o : OutS) : Option PyData :=
  match o with
  | .rt d _ => some d
  | _ => none
theorem kOf_of {o : OutS} {d : PyData} (h : kOf o = some d) : ∃ e, o = .rt d e := by
  cases o <;> simp [kOf] at h
  subst h
  exact ⟨_, rfl⟩
end PP
set_option maxRecDepth 100000
namespace PP
open PySem PySem.Spec PyProof.Rows L2
abbrev AlX : Type := Bool × He.AlD
def obsX (fa : List He.Fa) (fn : List He.DefD) (ex : PySem.W.Frag → Bool) (K : PySem.W.Frag) : AlX := (ex K, He.obsD fa fn K)
def SaysX (fa : List He.Fa) (fn : List He.DefD) (ex : PySem.W.Frag → Bool) (K : PySem.W.Frag) : Prop := obsX fa fn ex K = (true, He.valD fn)
def obsXG (n : Nat) (fa : List He.Fa) (fn : List He.DefD) (ex : PySem.W.Frag → Bool) (g : Addr → Option Obj) : AlX := obsX fa fn ex (He.frG g (He.asD g n))
def hookX (n : Nat) (fa : List He.Fa) (fn : List He.DefD) (ex : PySem.W.Frag → Bool) : PySem.W.Hook where
  α := AlX
  obs := fun s => obsXG n fa fn ex s.heap.get?
  val := fun _ => (true, He.valD fn)
  says := fun _ h => ∃ K : PySem.W.Frag, K.In h ∧ SaysX fa fn ex K
  of := fun _ _ e => ⟨_, He.frG_in, e⟩
  keeps := fun _ _ _ ⟨K, hK, c⟩ k => ⟨K, PySem.W.Frag.In.keeps hK k, c⟩
theorem obsXG_eq {n : Nat} {fa : List He.Fa} {fn : List He.DefD} {ex : PySem.W.Frag → Bool} {g : Addr → Option Obj} {s : Shared} (h : ∀ a, g a = s.heap.get? a) : obsXG n fa fn ex g = (hookX n fa fn ex).obs s := by
  have e : g = s.heap.get? := funext h
  rw [e]
  rfl
section
variable {fa : List He.Fa} {fn : List He.DefD} {ex : PySem.W.Frag → Bool} {K : PySem.W.Frag}
theorem SaysX.d (c : SaysX fa fn ex K) : He.SaysD fa fn K := congrArg (fun z : AlX => z.2) c
theorem SaysX.x (c : SaysX fa fn ex K) : ex K = true := congrArg (fun z : AlX => z.1) c
end
def excCB (K : PySem.W.Frag) (D : Addr) : Bool :=
  He.eqO (PySem.W.findIn K (.ref D) "__getattribute__") (some (some (.builtin "BaseException.__getattribute__"))) && (He.eqO (PySem.W.findIn K (.ref D) "__getattr__") (some none) && (decide (PySem.W.subIn K (.ref D) (.type "BaseException") = some true) && (PySem.W.hasDictIn K D &&
    (He.eqO (PySem.W.findIn K (.ref D) "__class__") (some (some (.builtin "object.__class__"))) && (He.eqO (PySem.W.specialIn K (.builtin "object.__class__") "__get__") (some (some (.builtin "getset_descriptor.__get__"))) && (decide (PySem.W.takesIn K (.builtin "object.__class__") = some true) && decide (PySem.W.mroIn K D (.type "object") = some true)))))))
theorem excCB_ok {K : PySem.W.Frag} {D : Addr} (h : excCB K D = true) : ExcC K D := by
  unfold excCB at h
  obtain ⟨h1, h⟩ := He.ba h
  obtain ⟨h2, h⟩ := He.ba h
  obtain ⟨h3, h⟩ := He.ba h
  obtain ⟨h4, h⟩ := He.ba h
  obtain ⟨h5, h⟩ := He.ba h
  obtain ⟨h6, h⟩ := He.ba h
  obtain ⟨h7, h8⟩ := He.ba h
  exact ⟨He.eqO_ok h1, He.eqO_ok h2, of_decide_eq_true h3, h4, He.eqO_ok h5, He.eqO_ok h6, of_decide_eq_true h7, of_decide_eq_true h8⟩
def kindB (raised names : List String) (top : String) (K : PySem.W.Frag) : Bool := raised.all fun c => excCB K (He.ga K (Str.ofString c)) && (names.all fun x => decide (PySem.W.kitOne K (.ref (He.ga K (Str.ofString c))) (.ref (He.ga K (Str.ofString x))) = some (x == c || x == top))) && decide (PySem.W.exmOne K (.ref (He.ga K (Str.ofString c))) (.ref (He.ga K (Str.ofString top))) = some true)
section
variable {K : PySem.W.Frag} {mg : Str → Option Value} {raised names : List String} {top : String} {kd : String → Option Str}
theorem kindB_facts (h : kindB raised names top K = true) (hk : ∀ c, kd c ≠ none → c ∈ raised) (hr : ∀ c ∈ raised, mg (Str.ofString c) = some (.ref (He.ga K (Str.ofString c)))) (hn : ∀ x ∈ names, mg (Str.ofString x) = some (.ref (He.ga K (Str.ofString x)))) : KindFacts K mg top names kd := by
  intro c D h1 h2
  have hc := hk c h1
  have e := hr c hc
  rw [h2] at e
  cases e
  obtain ⟨h3, h4⟩ := He.ba (List.all_eq_true.mp h c hc)
  obtain ⟨h5, h6⟩ := He.ba h3
  exact ⟨excCB_ok h5, fun x hx => ⟨_, hn x hx, of_decide_eq_true (List.all_eq_true.mp h6 x hx)⟩⟩
theorem kindB_top (h : kindB raised names top K = true) (hk : ∀ c, kd c ≠ none → c ∈ raised) (hr : ∀ c ∈ raised, mg (Str.ofString c) = some (.ref (He.ga K (Str.ofString c)))) (ht : mg (Str.ofString top) = some (.ref (He.ga K (Str.ofString top)))) :
    ∃ C, mg (Str.ofString top) = some (.ref C) ∧ ∀ c D, kd c ≠ none → mg (Str.ofString c) = some (.ref D) → PySem.W.exmOne K (.ref D) (.ref C) = some true := by
  refine ⟨_, ht, fun c D h1 h2 => ?_⟩
  have hc := hk c h1
  have e := hr c hc
  rw [h2] at e
  cases e
  exact of_decide_eq_true (He.ba (List.all_eq_true.mp h c hc)).2
theorem errC_of {c : Str} (h : (He.Fa.exc c).ok K = true) (hm : mg c = some (.ref (He.ga K c))) : ∃ C, ErrC K mg c C := by
  obtain ⟨h1, h⟩ := He.ba h
  obtain ⟨h2, h⟩ := He.ba h
  obtain ⟨h3, h4⟩ := He.ba h
  exact ⟨_, hm, h1, h2, of_decide_eq_true h3, of_decide_eq_true h4⟩
end
section
variable {P : Program} {w : World} {K : PySem.W.Frag} {mg : Str → Option Value} {base : Heap} {x : Str} {st : Stmt} {f : Addr} {fd : FuncData} {N ps : List Str} {k : Nat} {g : Sls → OutS}
abbrev FnP (K : PySem.W.Frag) (x : Str) (st : Stmt) (f : Addr) (fd : FuncData) : Prop := FunD K x x (defArgs st) (defBody st) (defScope st) [] [] f fd
theorem call_P (F : FnP K x st f fd) (S : FnScope N ps (defScope st)) (hm : mg x = some (.ref f)) (hb : Binds K fd ps []) (B : Body P w K mg base N x st f k [] g) : CallOk P w K mg base (k + 1) x ps (spP ⟨K, mg⟩ ps.length (runP N.length g)) := ⟨f, fd, hm, F.kp, hb, def_P (fun_of F) S B⟩
theorem call_N (F : FnP K x st f fd) (S : FnScope N ps (defScope st)) (hm : mg x = some (.ref f)) (hb : Binds K fd ps []) (B : Body P w K mg base N x st f k [] g) : CallOk P w K mg base (k + 1) x ps (spN ⟨K, mg⟩ ps.length (runN N.length g)) := ⟨f, fd, hm, F.kp, hb, def_N (fun_of F) S B⟩
theorem call_O (F : FnP K x st f fd) (S : FnScope N ps (defScope st)) (hm : mg x = some (.ref f)) (hb : Binds K fd ps []) (B : Body P w K mg base N x st f k [0] g) : CallOk P w K mg base (k + 1) x ps (spO ⟨K, mg⟩ ps.length (runO N.length g)) := ⟨f, fd, hm, F.kp, hb, def_O (fun_of F) S B⟩
theorem call_ON (F : FnP K x st f fd) (S : FnScope N ps (defScope st)) (hm : mg x = some (.ref f)) (hb : Binds K fd ps []) (B : Body P w K mg base N x st f k [0] g) : CallOk P w K mg base (k + 1) x ps (spON ⟨K, mg⟩ ps.length (runON N.length g)) := ⟨f, fd, hm, F.kp, hb, def_ON (fun_of F) S B⟩
end
end PP
set_option maxRecDepth 100000
namespace PP
open PySem PySem.Spec PyProof.Rows L2
section
variable {α β : Type} {e e1 : Sls} {i j : Nat} {f g h : Sls → Out SV} {t u : Sls → Out Bool} {fs : Sls → Out (List SV)} {g1 g2 : Sls → OutS} {fn gn : Sls → Out (List PyData)}
@[simp] theorem bind_ok (a : α) (k : α → Sls → Out β) : (Out.ok a e).bind k = k a e := rfl
@[simp] theorem bind_err (x : Exn) (k : α → Sls → Out β) : (Out.err x e : Out α).bind k = .err x e := rfl
@[simp] theorem toS_ok (a : α) (k : α → Sls → OutS) : (Out.ok a e).toS k = k a e := rfl
@[simp] theorem toS_err (x : Exn) (k : α → Sls → OutS) : (Out.err x e : Out α).toS k = .err x e := rfl
@[simp] theorem of_some (a : α) : Out.of (some a) e = .ok a e := rfl
@[simp] theorem noErr_ok (a : α) : (Out.ok a e).noErr = .ok a e := rfl
@[simp] theorem rsout_ok (a : α) : (Rs.ok a).out e = .ok a e := rfl
@[simp] theorem rsout_err (x : Exn) : (Rs.err x : Rs α).out e = .err x e := rfl
@[simp] theorem rd_val (d : PyData) : rd e (.val d) = d := rfl
theorem rd_var {xs : List PyData} (h : e[i]? = some (.own xs)) : rd e (.var i) = .list xs := by
  show ((e[i]?).bind Sl.data).getD .none = _
  rw [h]
  rfl
@[simp] theorem frzO_val (d : PyData) : frzO (.val d) e = .ok (.val d) e := rfl
theorem frzO_own {xs : List PyData} (h : e[i]? = some (.own xs)) : frzO (.var i) e = .ok (.val (.list xs)) (e.set i (.val (.list xs))) := by
  show frz i e = _
  unfold frz
  rw [h]
@[simp] theorem cst_ap (d : PyData) : cst d e = .ok (.val d) e := rfl
theorem var_val {d : PyData} (h : e[i]? = some (.val d)) : var i e = .ok (.val d) e := by unfold var; rw [h]
theorem var_own {xs : List PyData} (h : e[i]? = some (.own xs)) : var i e = .ok (.var i) e := by unfold var; rw [h]
@[simp] theorem bin2_ap (od : PyData → PyData → Option PyData) : bin2 od f g e = (f e).bind fun x e1 => (g e1).bind fun y e2 => (Out.of (od (rd e2 x) (rd e2 y)) e2).bind fun d e3 => .ok (.val d) e3 := rfl
@[simp] theorem bin2n_ap (od : PyData → PyData → Option (List PyData)) : bin2n od f g e = (f e).bind fun x e1 => (g e1).bind fun y e2 => Out.of (od (rd e2 x) (rd e2 y)) e2 := rfl
@[simp] theorem un1_ap (od : PyData → Option PyData) : un1 od f e = (f e).bind fun x e1 => (Out.of (od (rd e1 x)) e1).bind fun d e2 => .ok (.val d) e2 := rfl
@[simp] theorem un1n_ap (od : PyData → Option (List PyData)) : un1n od f e = (f e).bind fun x e1 => Out.of (od (rd e1 x)) e1 := rfl
@[simp] theorem argsN_ap (od : List PyData → Option PyData) : argsN od fs e = (fs e).bind fun xs e1 => (Out.of (od (xs.map (rd e1))) e1).bind fun d e2 => .ok (.val d) e2 := rfl
@[simp] theorem argsNn_ap (od : List PyData → Option (List PyData)) : argsNn od fs e = (fs e).bind fun xs e1 => Out.of (od (xs.map (rd e1))) e1 := rfl
@[simp] theorem asVal_ap : asVal fn e = (fn e).bind fun xs e1 => .ok (.val (.list xs)) e1 := rfl
@[simp] theorem aNil_ap : aNil e = .ok [] e := rfl
@[simp] theorem aCons_ap : aCons f fs e = (f e).bind fun x e1 => (fs e1).bind fun xs e2 => .ok (x :: xs) e2 := rfl
@[simp] theorem asT_ap : asT f e = (f e).bind fun x e1 => Out.of (truD (rd e1 x)) e1 := rfl
theorem asB_ap {b : Bool} (h : f e = .ok (.val (.bool b)) e1) : asB f e = .ok b e1 := by unfold asB; rw [h]; rfl
@[simp] theorem andT_ap : andT t u e = (t e).bind fun k e1 => if k then u e1 else .ok false e1 := rfl
@[simp] theorem orT_ap : orT t u e = (t e).bind fun k e1 => if k then .ok true e1 else u e1 := rfl
@[simp] theorem notT_ap : notT t e = (t e).bind fun k e1 => .ok (!k) e1 := rfl
@[simp] theorem andV_ap : andV f g e = (f e).bind fun x e1 => (Out.of (boolD (rd e1 x)) e1).bind fun k e2 => if k then g e2 else .ok (.val (.bool false)) e2 := rfl
@[simp] theorem orV_ap : orV f g e = (f e).bind fun x e1 => (Out.of (boolD (rd e1 x)) e1).bind fun k e2 => if k then .ok (.val (.bool true)) e2 else g e2 := rfl
@[simp] theorem notV_ap : notV f e = (f e).bind fun x e1 => (Out.of (boolD (rd e1 x)) e1).bind fun k e2 => .ok (.val (.bool (!k))) e2 := rfl
@[simp] theorem ifE_ap : ifE t f g e = (t e).bind fun k e1 => if k then f e1 else g e1 := rfl
@[simp] theorem ifN_ap : ifN t fn gn e = (t e).bind fun k e1 => if k then fn e1 else gn e1 := rfl
@[simp] theorem dispT_ap : dispT fs e = (fs e).bind fun xs e1 => (frzL xs e1).bind fun ds e2 => if ds.length ≤ sizeLine then .ok (.val (.tuple ds)) e2 else .stuck := rfl
@[simp] theorem dispL_ap : dispL fs e = (fs e).bind fun xs e1 => (frzL xs e1).bind fun ds e2 => if ds.length ≤ sizeLine then .ok ds e2 else .stuck := rfl
@[simp] theorem frzL_nil : frzL [] e = .ok [] e := rfl
@[simp] theorem frzL_val (d : PyData) (r : List SV) : frzL (.val d :: r) e = (frzL r e).bind fun ds e1 => .ok (d :: ds) e1 := rfl
@[simp] theorem noPart_ap : noPart e = .ok none e := rfl
@[simp] theorem part_ap : part f e = (f e).bind fun x e1 => (Out.of (intD (rd e1 x)) e1).bind fun i e2 => .ok (some i) e2 := rfl
@[simp] theorem slc_ap (op : PyData → Option Int → Option Int → Option PyData) (l r : Sls → Out (Option Int)) : slc op f l r e = (f e).bind fun x e1 => (l e1).bind fun i e2 => (r e2).bind fun j e3 => (Out.of (op (rd e3 x) i j) e3).bind fun d e4 => .ok (.val d) e4 := rfl
@[simp] theorem slcN_ap (op : PyData → Option Int → Option Int → Option (List PyData)) (l r : Sls → Out (Option Int)) : slcN op f l r e = (f e).bind fun x e1 => (l e1).bind fun i e2 => (r e2).bind fun j e3 => Out.of (op (rd e3 x) i j) e3 := rfl
@[simp] theorem meth_ap (T : String) (op : PyData → List PyData → Option PyData) : meth T op f fs e = (f e).bind fun x e1 => if tyD T (rd e1 x) then (fs e1).bind fun xs e2 => (Out.of (op (rd e2 x) (xs.map (rd e2))) e2).bind fun d e3 => .ok (.val d) e3 else .stuck := rfl
@[simp] theorem chain_ap (op op' : PyData → PyData → Option PyData) : chain op op' f g h e = (f e).bind fun x e1 => (g e1).bind fun y e2 => (Out.of (op (rd e2 x) (rd e2 y)) e2).bind fun d e3 =>
  match d with
  | .bool true => (h e3).bind fun z e4 => (Out.of (op' (rd e4 y) (rd e4 z)) e4).bind fun d' e5 => .ok (.val d') e5
  | .bool false => .ok (.val (.bool false)) e3
  | _ => .stuck := rfl
@[simp] theorem callP_ap (spec : List PyData → Rs PyData) : callP spec fs e = (fs e).bind fun xs e1 => (frzL xs e1).bind fun as e2 => ((spec as).out e2).bind fun d e3 => .ok (.val d) e3 := rfl
@[simp] theorem callN_ap (spec : List PyData → Rs (List PyData)) : callN spec fs e = (fs e).bind fun xs e1 => (frzL xs e1).bind fun as e2 => (spec as).out e2 := rfl
@[simp] theorem seqS_ap : seqS g1 g2 e = match g1 e with | .nx e' => g2 e' | r => r := rfl
@[simp] theorem nxS_ap : nxS e = .nx e := rfl
@[simp] theorem bkS_ap : bkS e = .bk e := rfl
@[simp] theorem ctS_ap : ctS e = .ct e := rfl
@[simp] theorem ifS_ap : ifS t g1 g2 e = (t e).toS fun k e1 => if k then g1 e1 else g2 e1 := rfl
@[simp] theorem dropS_ap : dropS f e = (f e).toS fun _ e1 => .nx e1 := rfl
@[simp] theorem setS_ap : setS i f e = (f e).toS fun x e1 => (frzO x e1).toS fun y e2 => match y with | .val d => .nx (e2.set i (.val d)) | _ => .stuck := rfl
@[simp] theorem setN_ap : setN i fn e = (fn e).toS fun xs e1 => .nx (e1.set i (.own xs)) := rfl
@[simp] theorem retS_ap : retS f e = (f e).toS fun x e1 => (frzO x e1).toS fun y e2 => match y with | .val d => .rt d e2 | _ => .stuck := rfl
@[simp] theorem retL_ap : retL fn e = (fn e).toS fun xs e1 => .rtN xs e1 := rfl
@[simp] theorem retNone_ap : retNone e = .rt .none e := rfl
theorem retO_ap {xs : List PyData} (h : e[i]? = some (.own xs)) : retO i e = .rtN xs (e.set i .no) := by unfold retO; rw [h]
@[simp] theorem raiseS_ap (c : String) : raiseS c e = .err ⟨c, none⟩ e := rfl
@[simp] theorem forS_ap (it : Sls → Out (List PyData)) (t : PyData → Sls → Option Sls) : forS it t g1 e = (it e).toS fun ds e1 => forD t g1 ds e1 := rfl
@[simp] theorem forD_nil (t : PyData → Sls → Option Sls) : forD t g1 [] e = .nx e := rfl
theorem forD_cons {t : PyData → Sls → Option Sls} {d : PyData} {ds : List PyData} {e2 : Sls} (h1 : t d e = some e1) (h2 : g1 e1 = .nx e2) : forD t g1 (d :: ds) e = forD t g1 ds e2 := by
  show (match t d e with | none => OutS.stuck | some e1 => (match g1 e1 with | .nx e2 => forD t g1 ds e2 | .ct e2 => forD t g1 ds e2 | .bk e2 => .nx e2 | r => r)) = _
  rw [h1]
  show (match g1 e1 with | .nx e2 => forD t g1 ds e2 | .ct e2 => forD t g1 ds e2 | .bk e2 => .nx e2 | r => r) = _
  rw [h2]
theorem forD_bk {t : PyData → Sls → Option Sls} {d : PyData} {ds : List PyData} {e2 : Sls} (h1 : t d e = some e1) (h2 : g1 e1 = .bk e2) : forD t g1 (d :: ds) e = .nx e2 := by
  show (match t d e with | none => OutS.stuck | some e1 => (match g1 e1 with | .nx e2 => forD t g1 ds e2 | .ct e2 => forD t g1 ds e2 | .bk e2 => .nx e2 | r => r)) = _
  rw [h1]
  show (match g1 e1 with | .nx e2 => forD t g1 ds e2 | .ct e2 => forD t g1 ds e2 | .bk e2 => .nx e2 | r => r) = _
  rw [h2]
theorem forD_rt {t : PyData → Sls → Option Sls} {d v : PyData} {ds : List PyData} {e2 : Sls} (h1 : t d e = some e1) (h2 : g1 e1 = .rt v e2) : forD t g1 (d :: ds) e = .rt v e2 := by
  show (match t d e with | none => OutS.stuck | some e1 => (match g1 e1 with | .nx e2 => forD t g1 ds e2 | .ct e2 => forD t g1 ds e2 | .bk e2 => .nx e2 | r => r)) = _
  rw [h1]
  show (match g1 e1 with | .nx e2 => forD t g1 ds e2 | .ct e2 => forD t g1 ds e2 | .bk e2 => .nx e2 | r => r) = _
  rw [h2]
@[simp] theorem itSeq_ap : itSeq f e = (f e).bind fun x e1 => (frzO x e1).bind fun y e2 => Out.of (seqD (rd e2 y)) e2 := rfl
@[simp] theorem itArgs_ap (op : List PyData → Option (List PyData)) : itArgs op fs e = (fs e).bind fun xs e1 => Out.of (op (xs.map (rd e1))) e1 := rfl
@[simp] theorem itFrz_ap (op : List PyData → Option (List PyData)) : itFrz op fs e = (fs e).bind fun xs e1 => (frzL xs e1).bind fun ds e2 => Out.of (op ds) e2 := rfl
@[simp] theorem tgN_ap (d : PyData) : tgN i d e = some (e.set i (.val d)) := rfl
@[simp] theorem tgsNil_ap : tgsNil [] e = some e := rfl
@[simp] theorem seqD_list (xs : List PyData) : seqD (.list xs) = some xs := rfl
@[simp] theorem seqD_tup (xs : List PyData) : seqD (.tuple xs) = some xs := rfl
@[simp] theorem itemsD_list (xs : List PyData) : itemsD (.list xs) = some xs := rfl
@[simp] theorem itemsD_tup (xs : List PyData) : itemsD (.tuple xs) = some xs := rfl
@[simp] theorem boolD_bool (b : Bool) : boolD (.bool b) = some b := rfl
@[simp] theorem intD_int (i : Int) : intD (.int i) = some i := rfl
@[simp] theorem arg1_ap {g : PyData → Option α} (d : PyData) : arg1 g [d] = g d := rfl
@[simp] theorem arg2_ap {g : PyData → PyData → Option α} (d d' : PyData) : arg2 g [d, d'] = g d d' := rfl
theorem beq_dec (i j : Int) : (i == j) = decide (i = j) := by
  rw [Bool.eq_iff_iff, beq_iff_eq, decide_eq_true_iff]
@[simp] theorem addD_int (i j : Int) : addD (.int i) (.int j) = some (.int (i + j)) := rfl
theorem addD_tup {xs ys : List PyData} (h : xs.length + ys.length ≤ sizeLine) : addD (.tuple xs) (.tuple ys) = some (.tuple (xs ++ ys)) := by
  show (if xs.length + ys.length ≤ sizeLine then _ else _) = _
  rw [if_pos h]
theorem catD_list {xs ys : List PyData} (h : xs.length + ys.length ≤ sizeLine) : catD (.list xs) (.list ys) = some (xs ++ ys) := by
  show (if xs.length + ys.length ≤ sizeLine then _ else _) = _
  rw [if_pos h]
@[simp] theorem subD_int (i j : Int) : subD (.int i) (.int j) = some (.int (i - j)) := rfl
@[simp] theorem ltD_int (i j : Int) : ltD (.int i) (.int j) = some (.bool (decide (i < j))) := rfl
@[simp] theorem leD_int (i j : Int) : leD (.int i) (.int j) = some (.bool (decide (i ≤ j))) := rfl
@[simp] theorem gtD_int (i j : Int) : gtD (.int i) (.int j) = some (.bool (decide (j < i))) := rfl
@[simp] theorem geD_int (i j : Int) : geD (.int i) (.int j) = some (.bool (decide (j ≤ i))) := rfl
theorem mulD_int {i j : Int} (h : CMulD i j) : mulD (.int i) (.int j) = some (.int (i * j)) := by
  show (if CMulD i j then _ else _) = _
  rw [if_pos h]
theorem mulD_l {i j : Int} (h1 : -(2 ^ 64) < i) (h2 : i < 2 ^ 64) : mulD (.int i) (.int j) = some (.int (i * j)) := mulD_int (.inl ⟨h1, h2⟩)
theorem mulD_r {i j : Int} (h1 : -(2 ^ 64) < j) (h2 : j < 2 ^ 64) : mulD (.int i) (.int j) = some (.int (i * j)) := mulD_int (.inr ⟨h1, h2⟩)
theorem modD_int {i j : Int} (h : 0 < j) : modD (.int i) (.int j) = some (.int (i % j)) := by
  unfold modD iiD
  dsimp only
  rw [if_pos (by omega), Int.fmod_eq_emod_of_nonneg _ (by omega)]
theorem fdivD_int {i j : Int} (h : 0 < j) (h2 : j < 1073741824) : fdivD (.int i) (.int j) = some (.int (i / j)) := by
  unfold fdivD iiD
  dsimp only
  rw [if_pos ⟨by omega, by omega⟩, Int.fdiv_eq_ediv_of_nonneg _ (by omega)]
@[simp] theorem lenD_list (xs : List PyData) : lenD (.list xs) = some (.int xs.length) := rfl
@[simp] theorem lenD_tup (xs : List PyData) : lenD (.tuple xs) = some (.int xs.length) := rfl
@[simp] theorem intoD_int (i : Int) : intoD (.int i) = some (.int i) := rfl
@[simp] theorem tupD_list (xs : List PyData) : tupD (.list xs) = some (.tuple xs) := rfl
@[simp] theorem tupD_tup (xs : List PyData) : tupD (.tuple xs) = some (.tuple xs) := rfl
@[simp] theorem revTD_tup (xs : List PyData) : revTD (.tuple xs) = some (.tuple xs.reverse) := rfl
@[simp] theorem revLD_list (xs : List PyData) : revLD (.list xs) = some xs.reverse := rfl
@[simp] theorem max2D_int (i j : Int) : max2D (.int i) (.int j) = some (.int (if j > i then j else i)) := rfl
@[simp] theorem negD_int (i : Int) : negD (.int i) = some (.int (-i)) := rfl
@[simp] theorem truD_int (i : Int) : truD (.int i) = some (i != 0) := rfl
@[simp] theorem truD_bool (b : Bool) : truD (.bool b) = some b := rfl
@[simp] theorem truD_list (xs : List PyData) : truD (.list xs) = some (!xs.isEmpty) := rfl
@[simp] theorem truD_tup (xs : List PyData) : truD (.tuple xs) = some (!xs.isEmpty) := rfl
@[simp] theorem truD_none : truD .none = some false := rfl
@[simp] theorem eqD_int (i j : Int) : eqD (.int i) (.int j) = some (.bool (decide (i = j))) := by
  show (if SeqAt.shaped (.int i) = true ∧ SeqAt.shaped (.int j) = true then some (PyData.bool (PyData.eqv (.int i) (.int j))) else none) = _
  rw [if_pos ⟨rfl, rfl⟩]
  simp only [PyData.eqv, beq_dec]
@[simp] theorem neD_int (i j : Int) : neD (.int i) (.int j) = some (.bool (!decide (i = j))) := by
  show (if SeqAt.shaped (.int i) = true ∧ SeqAt.shaped (.int j) = true then some (PyData.bool (!PyData.eqv (.int i) (.int j))) else none) = _
  rw [if_pos ⟨rfl, rfl⟩]
  simp only [PyData.eqv, beq_dec]
end
end PP
set_option maxRecDepth 100000
namespace PP
open PySem PySem.Spec PyProof.Rows L2
section
variable {i : Nat} {it : Sls → Out (List PyData)} {ts : Sls → Out Bool} {el : Sls → Out SV} {e e1 : Sls} {ds : List PyData}
theorem set_back {e : Sls} {i : Nat} (s : Sl) (h : i < e.length) : (e.set i s).set i ((e[i]?).getD .no) = e := by
  rw [List.set_set]
  apply List.ext_getElem?
  intro j
  rw [List.getElem?_set]
  split
  · rename_i q
    subst q
    rw [List.getElem?_eq_getElem h]
    rfl
  · rfl
theorem backE_1 {e e' : Sls} : backE e e' [i] = e'.set i ((e[i]?).getD .no) := rfl
theorem wipeE_1 {e : Sls} : wipeE e [i] = e.set i .no := rfl
theorem noOwn_1 {e : Sls} (h : isOwn i e = false) : noOwn [i] e = true := by
  unfold noOwn
  rw [List.all_cons, List.all_nil, h]
  rfl
theorem isOwn_set {e : Sls} {s : Sl} (h : ∀ xs, s ≠ .own xs) : isOwn i (e.set i s) = false := by
  cases q : isOwn i (e.set i s) with
  | false => rfl
  | true =>
    obtain ⟨xs, h2⟩ := isOwn_own q
    rw [List.getElem?_set] at h2
    rw [if_pos rfl] at h2
    split at h2
    · cases h2; exact (h xs rfl).elim
    · cases h2
theorem lcGo_cons (d : PyData) (ds : List PyData) (e : Sls) : lcGo [i] (tgN i) ts el (d :: ds) e = (ts (e.set i (.val d))).noErr.bind fun b e2 =>
      if b then (el e2).noErr.bind fun x e3 => (frzO x e3).noErr.bind fun y e4 => if noOwn [i] e4 then (lcGo [i] (tgN i) ts el ds (wipeE e4 [i])).bind fun r e5 => .ok (rd e4 y :: r) e5 else .stuck
      else if noOwn [i] e2 then lcGo [i] (tgN i) ts el ds (wipeE e2 [i]) else .stuck := rfl
theorem lcGo_1 {p : PyData → Bool} {g : PyData → PyData} : ∀ {ds : List PyData} (h : ∀ d ∈ ds, ts (e.set i (.val d)) = .ok (p d) (e.set i (.val d)) ∧ (p d = true → el (e.set i (.val d)) = .ok (.val (g d)) (e.set i (.val d)))),
    lcGo [i] (tgN i) ts el ds (e.set i .no) = .ok ((ds.filter p).map g) (e.set i .no)
  | [], _ => rfl
  | d :: ds, h => by
    obtain ⟨h1, h2⟩ := h d List.mem_cons_self
    have ih := lcGo_1 (ds := ds) fun d' hd => h d' (List.mem_cons_of_mem _ hd)
    rw [lcGo_cons, List.set_set, h1]
    show (if p d = true then _ else _) = _
    have hn : noOwn [i] (e.set i (.val d)) = true := noOwn_1 (isOwn_set fun _ => by simp)
    by_cases c : p d = true
    · rw [if_pos c, h2 c]
      show (if noOwn [i] (e.set i (.val d)) = true then _ else _) = _
      rw [if_pos hn, wipeE_1, List.set_set, ih, List.filter_cons, if_pos c]
      rfl
    · rw [if_neg c, if_pos hn, wipeE_1, List.set_set, ih, List.filter_cons, if_neg c]
theorem compN_1 {p : PyData → Bool} {g : PyData → PyData} (hit : it e = .ok ds e1) (hi : i < e1.length) (ho : isOwn i e1 = false) (hl : ds.length ≤ sizeLine) (h : ∀ d ∈ ds, ts (e1.set i (.val d)) = .ok (p d) (e1.set i (.val d)) ∧ (p d = true → el (e1.set i (.val d)) = .ok (.val (g d)) (e1.set i (.val d)))) :
    compN [i] it (tgN i) ts el e = .ok ((ds.filter p).map g) e1 := by
  unfold compN
  rw [hit]
  show (if (noOwn [i] e1 && decide (ds.length ≤ sizeLine)) = true then _ else _) = _
  rw [noOwn_1 ho, decide_eq_true hl, if_pos (show (true && true) = true from rfl), wipeE_1, lcGo_1 h]
  show Out.ok _ (backE e1 (e1.set i .no) [i]) = _
  rw [backE_1, set_back _ hi]
theorem compN_map {g : PyData → PyData} (hit : it e = .ok ds e1) (hi : i < e1.length) (ho : isOwn i e1 = false) (hl : ds.length ≤ sizeLine) (h : ∀ d ∈ ds, el (e1.set i (.val d)) = .ok (.val (g d)) (e1.set i (.val d))) :
    compN [i] it (tgN i) yesT el e = .ok (ds.map g) e1 := by
  have := compN_1 (p := fun _ => true) (ts := yesT) hit hi ho hl fun d hd => ⟨rfl, fun _ => h d hd⟩
  rw [List.filter_eq_self.mpr (by simp)] at this
  exact this
theorem lcGo_ex {Inv : Sls → Prop} {G : PyData → PyData → Prop} : ∀ {ds : List PyData} {e : Sls}, Inv e → (∀ d ∈ ds, ∀ e', Inv e' → ∃ y e'', el (e'.set i (.val d)) = .ok (.val y) e'' ∧ G d y ∧ isOwn i e'' = false ∧ Inv (e''.set i .no)) →
    ∃ ys e', lcGo [i] (tgN i) yesT el ds e = .ok ys e' ∧ Paired G ds ys ∧ Inv e'
  | [], e, hI, _ => ⟨[], e, rfl, .nil, hI⟩
  | d :: ds, e, hI, h => by
    obtain ⟨y, e2, h1, h2, h3, h4⟩ := h d List.mem_cons_self e hI
    obtain ⟨ys, e', h5, h6, h7⟩ := lcGo_ex (ds := ds) h4 fun d' hd => h d' (List.mem_cons_of_mem _ hd)
    refine ⟨y :: ys, e', ?_, .cons h2 h6, h7⟩
    rw [lcGo_cons]
    show ((el (e.set i (.val d))).noErr.bind _) = _
    rw [h1]
    show (if noOwn [i] e2 = true then _ else _) = _
    rw [if_pos (noOwn_1 h3), wipeE_1, h5]
    rfl
theorem compN_ex {Inv : Sls → Prop} {G : PyData → PyData → Prop} (hit : it e = .ok ds e1) (ho : isOwn i e1 = false) (hl : ds.length ≤ sizeLine) (hI : Inv (e1.set i .no)) (h : ∀ d ∈ ds, ∀ e', Inv e' → ∃ y e'', el (e'.set i (.val d)) = .ok (.val y) e'' ∧ G d y ∧ isOwn i e'' = false ∧ Inv (e''.set i .no)) :
    ∃ ys e', compN [i] it (tgN i) yesT el e = .ok ys (e'.set i ((e1[i]?).getD .no)) ∧ Paired G ds ys ∧ Inv e' := by
  obtain ⟨ys, e', h1, h2, h3⟩ := lcGo_ex hI h
  refine ⟨ys, e', ?_, h2, h3⟩
  unfold compN
  rw [hit]
  show (if (noOwn [i] e1 && decide (ds.length ≤ sizeLine)) = true then _ else _) = _
  rw [noOwn_1 ho, decide_eq_true hl, if_pos (show (true && true) = true from rfl), wipeE_1]
  rw [h1]
  rfl
theorem forD_ex {t : PyData → Sls → Option Sls} {g : Sls → OutS} {Inv : Sls → Prop} : ∀ {ds : List PyData} {e : Sls}, Inv e → (∀ d ∈ ds, ∀ e', Inv e' → ∃ e1 e2, t d e' = some e1 ∧ g e1 = .nx e2 ∧ Inv e2) → ∃ e', forD t g ds e = .nx e' ∧ Inv e'
  | [], e, hI, _ => ⟨e, rfl, hI⟩
  | d :: ds, e, hI, h => by
    obtain ⟨e1, e2, h1, h2, h3⟩ := h d List.mem_cons_self e hI
    obtain ⟨e', h4, h5⟩ := forD_ex (ds := ds) h3 fun d' hd => h d' (List.mem_cons_of_mem _ hd)
    exact ⟨e', by rw [forD_cons h1 h2]; exact h4, h5⟩
end
section
variable {e : Sls} {i j : Nat} {s t : Sl}
theorem at_set (h : e[i]? = some t) : (e.set i s)[i]? = some s := by
  obtain ⟨hl, _⟩ := List.getElem?_eq_some_iff.mp h
  rw [List.getElem?_set, if_pos rfl, if_pos hl]
theorem at_ne (hn : i ≠ j) (h : e[j]? = some t) : (e.set i s)[j]? = some t := by
  rw [List.getElem?_set, if_neg hn]
  exact h
end
section
variable {e e1 e2 : Sls} {fs : Sls → Out (List SV)} {as : List PyData} {xs : List SV}
theorem callP_of {spec : List PyData → Rs PyData} {d : PyData} (h1 : fs e = .ok xs e1) (h2 : frzL xs e1 = .ok as e2) (h : spec as = .ok d) : callP spec fs e = .ok (.val d) e2 := by
  rw [callP_ap, h1]
  show (frzL xs e1).bind _ = _
  rw [h2]
  show ((spec as).out e2).bind _ = _
  rw [h]
  rfl
theorem callO_of {i : Nat} {spec : List PyData → List PyData → Rs (PyData × List PyData)} {d : PyData} {ys ys' : List PyData} (ho : e[i]? = some (.own ys)) (h1 : fs e = .ok xs e) (h2 : frzL xs e = .ok as e) (h : spec ys as = .ok (d, ys')) : callO i spec fs e = .ok (.val d) (e.set i (.own ys')) := by
  have : isOwn i e = true := by unfold isOwn; rw [ho]
  unfold callO
  rw [if_pos this, h1]
  show (frzL xs e).bind _ = _
  rw [h2]
  show (match e[i]? with | some (Sl.own ys) => _ | _ => _) = _
  rw [ho]
  dsimp only
  rw [h]
theorem callON_of {i : Nat} {spec : List PyData → List PyData → Rs (List PyData × List PyData)} {zs ys ys' : List PyData} (ho : e[i]? = some (.own ys)) (h1 : fs e = .ok xs e) (h2 : frzL xs e = .ok as e) (h : spec ys as = .ok (zs, ys')) : callON i spec fs e = .ok zs (e.set i (.own ys')) := by
  have : isOwn i e = true := by unfold isOwn; rw [ho]
  unfold callON
  rw [if_pos this, h1]
  show (frzL xs e).bind _ = _
  rw [h2]
  show (match e[i]? with | some (Sl.own ys) => _ | _ => _) = _
  rw [ho]
  dsimp only
  rw [h]
end
end PP
set_option maxRecDepth 100000
namespace PP
open PySem PySem.Spec PyProof.Rows L2
def DOk (N : Nat) (xs : List PyData) : Prop := ∃ ns : List Int, xs = ns.map .int ∧ (∀ n ∈ ns, 0 ≤ n ∧ n < 1000) ∧ ns.length ≤ N
theorem DOk.mono {N M : Nat} {xs : List PyData} (h : DOk N xs) (l : N ≤ M) : DOk M xs := by
  obtain ⟨ns, h1, h2, h3⟩ := h
  exact ⟨ns, h1, h2, Nat.le_trans h3 l⟩
theorem DOk.nil {N : Nat} : DOk N [] := ⟨[], rfl, by simp, Nat.zero_le _⟩
theorem DOk.append {N M : Nat} {xs ys : List PyData} (h : DOk N xs) (h' : DOk M ys) : DOk (N + M) (xs ++ ys) := by
  obtain ⟨ns, rfl, h2, h3⟩ := h
  obtain ⟨ms, rfl, h5, h6⟩ := h'
  refine ⟨ns ++ ms, by rw [List.map_append], fun n hn => ?_, by rw [List.length_append]; omega⟩
  rcases List.mem_append.mp hn with q | q
  · exact h2 n q
  · exact h5 n q
theorem DOk.one {i : Int} (h : 0 ≤ i ∧ i < 1000) : DOk 1 [.int i] := ⟨[i], rfl, by simpa using h, Nat.le_refl _⟩
theorem DOk.reverse {N : Nat} {xs : List PyData} (h : DOk N xs) : DOk N xs.reverse := by
  obtain ⟨ns, rfl, h2, h3⟩ := h
  exact ⟨ns.reverse, by rw [List.map_reverse], fun n hn => h2 n (List.mem_reverse.mp hn), by rw [List.length_reverse]; exact h3⟩
theorem DOk.len {N : Nat} {xs : List PyData} (h : DOk N xs) : xs.length ≤ N := by
  obtain ⟨ns, rfl, h2, h3⟩ := h
  rw [List.length_map]; exact h3
theorem forD_exn {B : Nat} {t : PyData → Sls → Option Sls} {g : Sls → OutS} {Inv : Nat → Sls → Prop} (mono : ∀ n e, Inv n e → Inv (n + 1) e) : ∀ {ds : List PyData} {e : Sls} {n : Nat}, n + ds.length ≤ B → Inv n e → (∀ d ∈ ds, ∀ n e', n < B → Inv n e' → ∃ e1 e2, t d e' = some e1 ∧ (g e1 = .nx e2 ∨ g e1 = .bk e2) ∧ Inv (n + 1) e2) → ∃ e', forD t g ds e = .nx e' ∧ Inv (n + ds.length) e'
  | [], e, n, _, hI, _ => ⟨e, rfl, hI⟩
  | d :: ds, e, n, hB, hI, h => by
    rw [List.length_cons] at hB
    obtain ⟨e1, e2, h1, h2, h3⟩ := h d List.mem_cons_self n e (by omega) hI
    rcases h2 with h2 | h2
    · obtain ⟨e', h4, h5⟩ := forD_exn mono (ds := ds) (by omega) h3 fun d' hd => h d' (List.mem_cons_of_mem _ hd)
      refine ⟨e', by rw [forD_cons h1 h2]; exact h4, ?_⟩
      rw [List.length_cons, Nat.add_comm ds.length 1, ← Nat.add_assoc]
      exact h5
    · refine ⟨e2, forD_bk h1 h2, ?_⟩
      rw [List.length_cons, Nat.add_comm ds.length 1, ← Nat.add_assoc]
      clear h hB
      induction ds.length with
      | zero => exact h3
      | succ k ih => exact mono _ _ ih
noncomputable def g_number : Sls → OutS := (seqS (ifS (asB (bin2 ltD (var 0) (cst (.int 0)))) (retS (bin2 subD (cst (.int 0)) (var 0))) nxS)
  (retS (var 0)))
noncomputable def g_draws_b0 : Sls → OutS := (seqS (ifS (asB (bin2 eqD (var 3) (cst (.int 0)))) bkS nxS)
  (seqS (dropS (mutF 1 appD (aCons (bin2 modD (argsN (arg1 intoD) (aCons (var 3) aNil)) (cst (.int 1000))) aNil)))
  (setS 3 (bin2 fdivD (var 3) (cst (.int 1000))))))
noncomputable def g_draws_b1 : Sls → OutS := (seqS (setS 3 (callP (runP 1 g_number) (aCons (var 2) aNil)))
  (ifS (asB (bin2 geD (var 3) (cst (.int 1000000000000000000)))) (forS (itArgs rng1D (aCons (cst (.int 60)) aNil)) (tgN 4) g_draws_b0) (seqS (setS 5 (bin2 modD (argsN (arg1 intoD) (aCons (bin2 addD (bin2 mulD (var 3) (cst (.int 48271))) (cst (.int 11))) aNil)) (cst (.int 2147483647))))
  (seqS (setS 6 (bin2 modD (argsN (arg1 intoD) (aCons (bin2 addD (bin2 mulD (var 5) (cst (.int 69621))) (var 3)) aNil)) (cst (.int 2147483629))))
  (dropS (mutR 1 extD (aCons (asVal (dispL (aCons (bin2 modD (argsN (arg1 intoD) (aCons (var 3) aNil)) (cst (.int 1000))) (aCons (bin2 modD (argsN (arg1 intoD) (aCons (var 5) aNil)) (cst (.int 1000))) (aCons (bin2 modD (argsN (arg1 intoD) (aCons (var 6) aNil)) (cst (.int 1000))) aNil))))) aNil)))))))
noncomputable def g_draws : Sls → OutS := (seqS (setN 1 (dispL aNil))
  (seqS (forS (itSeq (var 0)) (tgN 2) g_draws_b1)
  (seqS (dropS (mut0 1 rvsD))
  (retO 1))))
noncomputable def g_next : Sls → OutS := (seqS (ifS (asT (var 0)) (retS (mut0 0 popD)) nxS)
  (retS (cst (.int 0))))
noncomputable def g_more_b0 : Sls → OutS := (seqS (setS 2 (bin2 modD (argsN (arg1 intoD) (aCons (bin2 addD (bin2 mulD (var 2) (cst (.int 48271))) (cst (.int 12345))) aNil)) (cst (.int 2147483647))))
  (dropS (mutF 3 appD (aCons (bin2 modD (argsN (arg1 intoD) (aCons (bin2 fdivD (var 2) (cst (.int 7))) aNil)) (cst (.int 1000))) aNil))))
noncomputable def g_more : Sls → OutS := (seqS (setS 2 (bin2 addD (bin2 addD (bin2 mulD (cst (.int 1000)) (callO 0 (runO 1 g_next) aNil)) (callO 0 (runO 1 g_next) aNil)) (cst (.int 1))))
  (seqS (setN 3 (dispL aNil))
  (seqS (forS (itArgs rng1D (aCons (var 1) aNil)) (tgN 4) g_more_b0)
  (retL (bin2n catD (var 3) (var 0))))))
noncomputable def g_pick : Sls → OutS := (retS (bin2 ixD (var 1) (bin2 modD (argsN (arg1 intoD) (aCons (callO 0 (runO 1 g_next) aNil) aNil)) (argsN (arg1 lenD) (aCons (var 1) aNil)))))
noncomputable def g_flat_b0 : Sls → OutS := (dropS (mutR 1 extD (aCons (var 2) aNil)))
noncomputable def g_flat : Sls → OutS := (seqS (setN 1 (dispL aNil))
  (seqS (forS (itSeq (var 0)) (tgN 2) g_flat_b0)
  (retS (var 1))))
theorem number_ok (c : Int) : ∃ r : Int, runP 1 g_number [.int c] = .ok (.int r) ∧ 0 ≤ r := by
  by_cases h : c < 0
  · exact ⟨0 - c, by simp [runP, envA, g_number, var, asB, Out.bind, h], by omega⟩
  · exact ⟨c, by simp [runP, envA, g_number, var, asB, Out.bind, h], by omega⟩
theorem next_ok {N : Nat} {xs : List PyData} (h : DOk N xs) : ∃ (n : Int) (xs' : List PyData), runO 1 g_next xs [] = .ok (.int n, xs') ∧ (0 ≤ n ∧ n < 1000) ∧ DOk N xs' := by
  obtain ⟨ns, rfl, h2, h3⟩ := h
  rcases List.eq_nil_or_concat ns with q | ⟨ms, m, q⟩
  · subst q
    exact ⟨0, [], by simp [runO, envO, g_next, var, rd_var, Out.bind, own0, rd, Sl.data], by omega, .nil⟩
  · subst q
    have hm : ((ms.map PyData.int) ++ [PyData.int m])[ms.length]? = some (PyData.int m) := by
      rw [List.getElem?_append_right (by simp)]
      simp
    refine ⟨m, ms.map .int, ?_, h2 m (by simp), ⟨ms, rfl, fun n hn => h2 n (by simp [hn]), by simp at h3; omega⟩⟩
    simp [runO, envO, g_next, var, Out.bind, own0, rd, Sl.data, mut0, mutL, popD, hm, Out.toS, frzO, Out.of, truD]
theorem mutF_ap {i : Nat} {op : List PyData → List PyData → Option (PyData × List PyData)} {fs : Sls → Out (List SV)} {e : Sls} : mutF i op fs e = if isOwn i e then (fs e).bind fun vs e1 => (frzL vs e1).bind fun ds e2 => mutL i op ds e2 else .stuck := rfl
theorem mutR_ap {i : Nat} {op : List PyData → List PyData → Option (PyData × List PyData)} {fs : Sls → Out (List SV)} {e : Sls} : mutR i op fs e = if isOwn i e then (fs e).bind fun vs e1 => mutL i op (vs.map (rd e1)) e1 else .stuck := rfl
theorem szl : sizeLine = 16777216 := rfl
theorem draws_inner {N : Nat} (hN : N ≤ 10000) {sc d2 : PyData} {s4 s5 s6 : Sl} {xs : List PyData} (h : DOk N xs) {r : Int} (hr : 0 ≤ r) : ∃ e', forS (itArgs rng1D (aCons (cst (.int 60)) aNil)) (tgN 4) g_draws_b0 [.val sc, .own xs, .val d2, .val (.int r), s4, s5, s6] = .nx e' ∧ ∃ xs' r' s4', e' = [.val sc, .own xs', .val d2, .val (.int r'), s4', s5, s6] ∧ DOk (N + 60) xs' := by
  have hd : rng1D [.int 60] = some (intsFrom 0 60) := rfl
  have e60 : (intsFrom 0 60).length = 60 := by simp [intsFrom]
  have := forD_exn (B := 60) (t := tgN 4) (g := g_draws_b0) (Inv := fun n e => ∃ xs' r' s4', e = [.val sc, .own xs', .val d2, .val (.int r'), s4', s5, s6] ∧ DOk (N + n) xs' ∧ 0 ≤ r') (fun n e h => by
    obtain ⟨a, b, c, h1, h2, h3⟩ := h
    exact ⟨a, b, c, h1, h2.mono (by omega), h3⟩) (ds := intsFrom 0 60) (n := 0) (e := [.val sc, .own xs, .val d2, .val (.int r), s4, s5, s6]) (by omega) ⟨xs, r, s4, rfl, h, hr⟩ ?_
  · obtain ⟨e', h1, a, b, c, q1, q2, q3⟩ := this
    refine ⟨e', ?_, a, b, c, q1, q2.mono (by omega)⟩
    simp [hd, h1]
  · intro d _ n e' hn hI
    obtain ⟨xs', r', s4', rfl, q2, q3⟩ := hI
    have hx : xs'.length < 16777216 := by have := q2.len; omega
    by_cases hz : r' = 0
    · subst hz
      refine ⟨_, [.val sc, .own xs', .val d2, .val (.int 0), .val d, s5, s6], rfl, .inr ?_, ⟨_, _, _, rfl, q2.mono (by omega), by omega⟩⟩
      simp [g_draws_b0, asB, var, Out.bind]
    · refine ⟨_, [.val sc, .own (xs' ++ [.int (r' % 1000)]), .val d2, .val (.int (r' / 1000)), .val d, s5, s6], rfl, .inl ?_, ⟨_, _, _, rfl, (q2.append (DOk.one ⟨Int.emod_nonneg _ (by omega), Int.emod_lt_of_pos _ (by omega)⟩)).mono (by omega), Int.ediv_nonneg q3 (by omega)⟩⟩
      have hm : modD (.int r') (.int 1000) = some (.int (r' % 1000)) := modD_int (by omega)
      have hf : fdivD (.int r') (.int 1000) = some (.int (r' / 1000)) := fdivD_int (by omega) (by omega)
      simp [g_draws_b0, asB, var, Out.bind, hz, mutF_ap, isOwn, mutL, appD, szl, hx, hm, hf]
theorem draws_cell {N : Nat} (hN : N ≤ 10000) {sc : PyData} {s2 s3 s4 s5 s6 : Sl} {xs : List PyData} (h : DOk N xs) {c : Int} : ∃ e', g_draws_b1 [.val sc, .own xs, .val (.int c), s3, s4, s5, s6] = .nx e' ∧ ∃ xs' t2 t3 t4 t5 t6, e' = [.val sc, .own xs', t2, t3, t4, t5, t6] ∧ DOk (N + 60) xs' := by
  obtain ⟨r, h1, hr⟩ := number_ok c
  have hx : xs.length + 3 ≤ 16777216 := by have := h.len; omega
  have h2 : callP (runP 1 g_number) (aCons (var 2) aNil) [.val sc, .own xs, .val (.int c), s3, s4, s5, s6] = .ok (.val (.int r)) [.val sc, .own xs, .val (.int c), s3, s4, s5, s6] := by
    simp [var, h1, Out.bind]
  by_cases hb : 1000000000000000000 ≤ r
  · obtain ⟨e', h3, a, b, c', h4, h5⟩ := draws_inner hN (sc := sc) (d2 := .int c) (s4 := s4) (s5 := s5) (s6 := s6) h hr
    refine ⟨e', ?_, a, _, _, _, _, _, h4, h5⟩
    unfold g_draws_b1
    rw [seqS_ap, setS_ap, h2]
    simp only [toS_ok, frzO_val, ifS_ap]
    rw [show asB (bin2 geD (var 3) (cst (.int 1000000000000000000))) (List.set [.val sc, .own xs, .val (.int c), s3, s4, s5, s6] 3 (.val (.int r))) = .ok true [.val sc, .own xs, .val (.int c), .val (.int r), s4, s5, s6] by simp [asB, var, Out.bind, hb]]
    exact h3
  · have hys : DOk 3 [.int (r % 1000), .int ((r * 48271 + 11) % 2147483647 % 1000), .int (((r * 48271 + 11) % 2147483647 * 69621 + r) % 2147483629 % 1000)] := by
      refine ⟨[r % 1000, (r * 48271 + 11) % 2147483647 % 1000, ((r * 48271 + 11) % 2147483647 * 69621 + r) % 2147483629 % 1000], rfl, ?_, Nat.le_refl _⟩
      intro n hn
      simp only [List.mem_cons, List.not_mem_nil, or_false] at hn
      rcases hn with rfl | rfl | rfl <;> exact ⟨Int.emod_nonneg _ (by omega), Int.emod_lt_of_pos _ (by omega)⟩
    refine ⟨[.val sc, .own (xs ++ [.int (r % 1000), .int ((r * 48271 + 11) % 2147483647 % 1000), .int (((r * 48271 + 11) % 2147483647 * 69621 + r) % 2147483629 % 1000)]), .val (.int c), .val (.int r), s4, .val (.int ((r * 48271 + 11) % 2147483647)), .val (.int (((r * 48271 + 11) % 2147483647 * 69621 + r) % 2147483629))], ?_, _, _, _, _, _, _, rfl, (h.append hys).mono (by omega)⟩
    have m1 : ∀ x : Int, modD (.int x) (.int 1000) = some (.int (x % 1000)) := fun x => modD_int (by omega)
    have m2 : ∀ x : Int, modD (.int x) (.int 2147483647) = some (.int (x % 2147483647)) := fun x => modD_int (by omega)
    have m3 : ∀ x : Int, modD (.int x) (.int 2147483629) = some (.int (x % 2147483629)) := fun x => modD_int (by omega)
    have u1 : ∀ x : Int, mulD (.int x) (.int 48271) = some (.int (x * 48271)) := fun x => mulD_r (by omega) (by omega)
    have u2 : ∀ x : Int, mulD (.int x) (.int 69621) = some (.int (x * 69621)) := fun x => mulD_r (by omega) (by omega)
    unfold g_draws_b1
    rw [seqS_ap, setS_ap, h2]
    simp [asB, var, Out.bind, hb, m1, m2, m3, u1, u2, mutR_ap, isOwn, mutL, extD, itemsD, szl, hx]
theorem draws_ok (ns : List Int) (hl : ns.length ≤ 100) : ∃ xs, runN 7 g_draws [.list (ns.map .int)] = .ok xs ∧ DOk 6000 xs := by
  let sc : PyData := .list (ns.map .int)
  have loop : ∀ (ms : List Int) (k : Nat) (xs : List PyData) (t2 t3 t4 t5 t6 : Sl), k + ms.length ≤ 100 → DOk (k * 60) xs → ∃ e', forD (tgN 2) g_draws_b1 (ms.map .int) [.val sc, .own xs, t2, t3, t4, t5, t6] = .nx e' ∧ ∃ xs' t2 t3 t4 t5 t6, e' = [.val sc, .own xs', t2, t3, t4, t5, t6] ∧ DOk 6000 xs' := by
    intro ms
    induction ms with
    | nil => exact fun k xs t2 t3 t4 t5 t6 hk h => ⟨_, rfl, xs, t2, t3, t4, t5, t6, rfl, h.mono (by simp at hk; omega)⟩
    | cons m ms ih =>
      intro k xs t2 t3 t4 t5 t6 hk h
      rw [List.length_cons] at hk
      obtain ⟨e1, h1, xs', u2, u3, u4, u5, u6, rfl, h2⟩ := draws_cell (N := k * 60) (by omega) (sc := sc) (s2 := t2) (s3 := t3) (s4 := t4) (s5 := t5) (s6 := t6) h (c := m)
      obtain ⟨e', h3, h4⟩ := ih (k + 1) xs' u2 u3 u4 u5 u6 (by omega) (h2.mono (by omega))
      exact ⟨e', by rw [List.map_cons, forD_cons (e1 := [.val sc, .own xs, .val (.int m), t3, t4, t5, t6]) rfl h1]; exact h3, h4⟩
  obtain ⟨e', h1, xs, t2, t3, t4, t5, t6, rfl, h2⟩ := loop ns 0 [] .no .no .no .no .no (by omega) DOk.nil
  refine ⟨xs.reverse, ?_, h2.reverse⟩
  have h0 : forS (itSeq (var 0)) (tgN 2) g_draws_b1 [.val sc, .own [], .no, .no, .no, .no, .no] = .nx [.val sc, .own xs, t2, t3, t4, t5, t6] := by
    rw [forS_ap, itSeq_ap]
    simp only [var, List.getElem?_cons_zero, bind_ok, frzO_val, rd_val]
    exact h1
  have e0 : envA 7 [sc] = [.val sc, .no, .no, .no, .no, .no, .no] := rfl
  unfold runN g_draws
  rw [e0, seqS_ap, setN_ap]
  simp only [dispL_ap, aNil_ap, bind_ok, frzL_nil, List.length_nil, Nat.zero_le, if_true, toS_ok]
  rw [show List.set [Sl.val sc, .no, .no, .no, .no, .no, .no] 1 (.own []) = [Sl.val sc, .own [], .no, .no, .no, .no, .no] from rfl, seqS_ap, h0]
  simp [mut0, mutL, rvsD, retO]
theorem okB_ok {i : Int} (h : -(2 ^ 62) ≤ i) (h2 : i < 2 ^ 62) : okB i = true := by
  unfold okB
  rw [Bool.and_eq_true]
  exact ⟨decide_eq_true h, decide_eq_true h2⟩
theorem rng1_nat {n : Nat} (h : n ≤ 1000000) : rng1D [.int n] = some (intsFrom 0 n) := by
  have : okB (n : Int) = true := okB_ok (by omega) (by omega)
  unfold rng1D
  dsimp only
  rw [if_pos this, Int.toNat_natCast]
theorem rng1_int {i : Int} (h0 : 0 ≤ i) (h : i ≤ 1000000) : rng1D [.int i] = some (intsFrom 0 i.toNat) := by
  have : okB i = true := okB_ok (by omega) (by omega)
  unfold rng1D
  dsimp only
  rw [if_pos this]
theorem ixD_nat {xs : List PyData} {i : Nat} (h : i < xs.length) : atI xs (i : Int) = some xs[i] := by
  unfold atI ixN
  rw [if_pos (by omega), if_pos (by omega), Int.toNat_natCast]
  show xs[i]? = _
  rw [List.getElem?_eq_getElem h]
theorem pick_ok {N : Nat} {xs : List PyData} (h : DOk N xs) {ds : List PyData} (hd : 0 < ds.length) : ∃ d xs', runO 2 g_pick xs [.list ds] = .ok (d, xs') ∧ d ∈ ds ∧ DOk N xs' := by
  obtain ⟨a, xs1, h1, ha, h2⟩ := next_ok h
  have e0 : envO 2 xs [.list ds] = [.own xs, .val (.list ds)] := rfl
  have c1 : callO 0 (runO 1 g_next) aNil [.own xs, .val (.list ds)] = .ok (.val (.int a)) [.own xs1, .val (.list ds)] := callO_of rfl rfl rfl h1
  have m1 : modD (.int a) (.int ds.length) = some (.int (a % ds.length)) := modD_int (by omega)
  have l0 := Int.emod_nonneg a (b := ds.length) (by omega)
  have l1 := Int.emod_lt_of_pos a (b := ds.length) (by omega)
  have hlt : (a % ds.length).toNat < ds.length := by omega
  have hi : ixD (.list ds) (.int (a % ds.length)) = some (ds[(a % ds.length).toNat]) := by
    have e : a % (ds.length : Int) = (((a % ds.length).toNat : Nat) : Int) := by omega
    show atI ds (a % ds.length) = _
    conv => lhs; rw [e]
    exact ixD_nat hlt
  refine ⟨_, xs1, ?_, List.getElem_mem hlt, h2⟩
  unfold runO g_pick
  rw [e0]
  simp [c1, var, Out.bind, m1, hi, own0]
end PP
set_option maxRecDepth 100000
namespace PP
open PySem PySem.Spec PyProof.Rows L2
theorem more_step {many : PyData} {xs2 zs : List PyData} {sd : Int} {t4 : Sl} {d : PyData} {n : Nat} (hn : n ≤ 10000) (hz : DOk n zs) : ∃ e1 e2, tgN 4 d [.own xs2, .val many, .val (.int sd), .own zs, t4] = some e1 ∧ (g_more_b0 e1 = .nx e2 ∨ g_more_b0 e1 = .bk e2) ∧ ∃ zs sd t4, e2 = [.own xs2, .val many, .val (.int sd), .own zs, t4] ∧ DOk (n + 1) zs := by
  have hx : zs.length < 16777216 := by have := hz.len; omega
  have u1 : mulD (.int sd) (.int 48271) = some (.int (sd * 48271)) := mulD_r (by omega) (by omega)
  have m1 : ∀ x : Int, modD (.int x) (.int 1000) = some (.int (x % 1000)) := fun x => modD_int (by omega)
  have m2 : ∀ x : Int, modD (.int x) (.int 2147483647) = some (.int (x % 2147483647)) := fun x => modD_int (by omega)
  have f1 : ∀ x : Int, fdivD (.int x) (.int 7) = some (.int (x / 7)) := fun x => fdivD_int (by omega) (by omega)
  refine ⟨[.own xs2, .val many, .val (.int sd), .own zs, .val d], [.own xs2, .val many, .val (.int ((sd * 48271 + 12345) % 2147483647)), .own (zs ++ [.int ((sd * 48271 + 12345) % 2147483647 / 7 % 1000)]), .val d], rfl, .inl ?_, _, _, _, rfl, hz.append (DOk.one ⟨Int.emod_nonneg _ (by omega), Int.emod_lt_of_pos _ (by omega)⟩)⟩
  simp [g_more_b0, var, Out.bind, mutF_ap, isOwn, mutL, appD, szl, hx, u1, m1, m2, f1]
theorem more_s1 {many : PyData} {a b : Int} {xs xs1 xs2 : List PyData} (h1 : runO 1 g_next xs [] = .ok (.int a, xs1)) (h3 : runO 1 g_next xs1 [] = .ok (.int b, xs2)) : setS 2 (bin2 addD (bin2 addD (bin2 mulD (cst (.int 1000)) (callO 0 (runO 1 g_next) aNil)) (callO 0 (runO 1 g_next) aNil)) (cst (.int 1))) [.own xs, .val many, .no, .no, .no] = .nx [.own xs2, .val many, .val (.int (1000 * a + b + 1)), .no, .no] := by
  have u1 : mulD (.int 1000) (.int a) = some (.int (1000 * a)) := mulD_l (by omega) (by omega)
  have c1 : callO 0 (runO 1 g_next) aNil [.own xs, .val many, .no, .no, .no] = .ok (.val (.int a)) [.own xs1, .val many, .no, .no, .no] := callO_of rfl rfl rfl h1
  have c2 : callO 0 (runO 1 g_next) aNil [.own xs1, .val many, .no, .no, .no] = .ok (.val (.int b)) [.own xs2, .val many, .no, .no, .no] := callO_of rfl rfl rfl h3
  rw [setS_ap, bin2_ap, bin2_ap, bin2_ap, cst_ap, bind_ok, c1]
  simp only [bind_ok]
  rw [rd_val, rd_val, u1]
  simp only [of_some, bind_ok]
  rw [c2]
  simp only [bind_ok, rd_val, addD_int, of_some, cst_ap, toS_ok, frzO_val]
  rfl
theorem intsFrom_len (n : Nat) (i : Int) : (intsFrom i n).length = n := by
  unfold intsFrom
  rw [List.length_map, List.length_range]
theorem more_loop {many : PyData} {n : Nat} (hn : n ≤ 10000) {sd : Int} {xs2 : List PyData} : ∃ e', forD (tgN 4) g_more_b0 (intsFrom 0 n) [.own xs2, .val many, .val (.int sd), .own [], .no] = .nx e' ∧ ∃ zs sd t4, e' = [.own xs2, .val many, .val (.int sd), .own zs, t4] ∧ DOk n zs := by
  obtain ⟨e', h5, zs, sd, t4, he, h6⟩ := forD_exn (B := n) (t := tgN 4) (g := g_more_b0) (Inv := fun n e => ∃ zs sd t4, e = [.own xs2, .val many, .val (.int sd), .own zs, t4] ∧ DOk n zs) (fun n e h => by
    obtain ⟨a, b, c, h1, h2⟩ := h
    exact ⟨a, b, c, h1, h2.mono (Nat.le_succ _)⟩) (ds := intsFrom 0 n) (n := 0) (e := [.own xs2, .val many, .val (.int sd), .own [], .no]) (by rw [intsFrom_len]; omega) ⟨[], _, .no, rfl, .nil⟩ (fun d _ n' e' hn' hI => by
    obtain ⟨zs, sd, t4, rfl, hz⟩ := hI
    exact more_step (by omega) hz)
  refine ⟨e', h5, zs, sd, t4, he, ?_⟩
  rw [intsFrom_len, Nat.zero_add] at h6
  exact h6
theorem seqS_of {g1 g2 : Sls → OutS} {e e1 : Sls} {r : OutS} (h1 : g1 e = .nx e1) (h2 : g2 e1 = r) : seqS g1 g2 e = r := by
  rw [seqS_ap, h1]
  exact h2
theorem setN_nil {i : Nat} {e e' : Sls} (h : e.set i (.own []) = e') : setN i (dispL aNil) e = .nx e' := by
  subst h
  rw [setN_ap, dispL_ap, aNil_ap, bind_ok, frzL_nil, bind_ok, if_pos (show ([] : List PyData).length ≤ sizeLine from Nat.zero_le _)]
  rfl
theorem itArgs_of {op : List PyData → Option (List PyData)} {fs : Sls → Out (List SV)} {e e1 : Sls} {xs : List SV} {ds : List PyData} (h : fs e = .ok xs e1) (h2 : op (xs.map (rd e1)) = some ds) : itArgs op fs e = .ok ds e1 := by
  rw [itArgs_ap, h, bind_ok, h2, of_some]
theorem forS_of {it : Sls → Out (List PyData)} {tg : PyData → Sls → Option Sls} {g : Sls → OutS} {e e1 : Sls} {ds : List PyData} {r : OutS} (h : it e = .ok ds e1) (h2 : forD tg g ds e1 = r) : forS it tg g e = r := by
  rw [forS_ap, h, toS_ok, h2]
theorem args1_of {f : Sls → Out SV} {e e1 : Sls} {x : SV} (h : f e = .ok x e1) : aCons f aNil e = .ok [x] e1 := by
  rw [aCons_ap, h]
  rfl
theorem runON_of {tot : Nat} {g : Sls → OutS} {xs as zs ys : List PyData} {e : Sls} (h : g (envO tot xs as) = .rtN zs e) (h2 : own0 e = some ys) : runON tot g xs as = .ok (zs, ys) := by
  unfold runON
  rw [h]
  dsimp only
  rw [h2]
theorem more_ok {N : Nat} (hN : N ≤ 10000) {xs : List PyData} (h : DOk N xs) {many : Nat} (hm : many ≤ 10000) : ∃ zs ys, runON 5 g_more xs [.int many] = .ok (zs, ys) ∧ DOk (N + many) zs ∧ DOk N ys := by
  obtain ⟨a, xs1, h1, ha, h2⟩ := next_ok h
  obtain ⟨b, xs2, h3, hb, h4⟩ := next_ok h2
  have e0 : envO 5 xs [.int many] = [.own xs, .val (.int many), .no, .no, .no] := rfl
  have hr : rng1D [.int many] = some (intsFrom 0 many) := rng1_nat (by omega)
  obtain ⟨e', h5, zs, sd, t4, rfl, h6⟩ := more_loop (many := .int many) (n := many) hm (sd := 1000 * a + b + 1) (xs2 := xs2)
  refine ⟨zs ++ xs2, xs2, ?_, (h6.append h4).mono (by omega), h4⟩
  have hc : catD (.list zs) (.list xs2) = some (zs ++ xs2) := catD_list (by rw [szl]; have := h6.len; have := h4.len; omega)
  have a2 : setN 3 (dispL aNil) [.own xs2, .val (.int many), .val (.int (1000 * a + b + 1)), .no, .no] = .nx [.own xs2, .val (.int many), .val (.int (1000 * a + b + 1)), .own [], .no] := setN_nil rfl
  have a3 : forS (itArgs rng1D (aCons (var 1) aNil)) (tgN 4) g_more_b0 [.own xs2, .val (.int many), .val (.int (1000 * a + b + 1)), .own [], .no] = .nx [.own xs2, .val (.int many), .val (.int sd), .own zs, t4] := by
    exact forS_of (itArgs_of (args1_of (var_val (d := .int many) rfl)) hr) h5
  have a4 : retL (bin2n catD (var 3) (var 0)) [.own xs2, .val (.int many), .val (.int sd), .own zs, t4] = .rtN (zs ++ xs2) [.own xs2, .val (.int many), .val (.int sd), .own zs, t4] := by
    rw [retL_ap, bin2n_ap, var_own (i := 3) (xs := zs) rfl, bind_ok, var_own (i := 0) (xs := xs2) rfl, bind_ok, rd_var (i := 3) (xs := zs) rfl, rd_var (i := 0) (xs := xs2) rfl, hc, of_some, toS_ok]
  have all : g_more (envO 5 xs [.int many]) = .rtN (zs ++ xs2) [.own xs2, .val (.int many), .val (.int sd), .own zs, t4] := by
    rw [e0]
    exact seqS_of (more_s1 h1 h3) (seqS_of a2 (seqS_of a3 a4))
  exact runON_of all rfl
theorem flat_ok {rows : List PyData} {xss : List (List PyData)} (h : Paired (fun r xs => itemsD r = some xs) rows xss) (hl : xss.flatten.length ≤ 16777216) : runP 3 g_flat [.list rows] = .ok (.list xss.flatten) := by
  have loop : ∀ (rs : List PyData) (yss : List (List PyData)) (acc : List PyData) (t2 : Sl), Paired (fun r xs => itemsD r = some xs) rs yss → acc.length + yss.flatten.length ≤ 16777216 → ∃ t2', forD (tgN 2) g_flat_b0 rs [.val (.list rows), .own acc, t2] = .nx [.val (.list rows), .own (acc ++ yss.flatten), t2'] := by
    intro rs yss acc t2 h
    induction h generalizing acc t2 with
    | nil => exact fun _ => ⟨t2, by rw [List.flatten_nil, List.append_nil]; rfl⟩
    | cons h1 h2 ih =>
      rename_i r ys rs' yss'
      intro hb
      rw [List.flatten_cons, List.length_append] at hb
      obtain ⟨t2', ih⟩ := ih (acc ++ ys) (.val r) (by rw [List.length_append]; omega)
      refine ⟨t2', ?_⟩
      have hx : acc.length + ys.length ≤ 16777216 := by omega
      rw [forD_cons (e1 := [.val (.list rows), .own acc, .val r]) (e2 := [.val (.list rows), .own (acc ++ ys), .val r]) rfl (by simp [g_flat_b0, mutR_ap, isOwn, var, Out.bind, mutL, extD, h1, szl, hx]), ih, List.flatten_cons, List.append_assoc]
  obtain ⟨t2', hf⟩ := loop rows xss [] .no h (by simpa using hl)
  have e0 : envA 3 [.list rows] = [.val (.list rows), .no, .no] := rfl
  rw [List.nil_append] at hf
  unfold runP g_flat
  rw [e0]
  simp [var, Out.bind, hf, frzO, Out.toS, frz]
end PP
set_option maxRecDepth 100000
namespace PP
open PySem PySem.Spec PyProof.Rows L2
section
variable {vs : List Nat} {t : PyData → Sls → Option Sls} {it : Sls → Out (List PyData)} {ts : Sls → Out Bool} {el : Sls → Out SV} {e e1 base : Sls} {p : PyData → Bool} {g : PyData → PyData}
theorem lcGo_g : ∀ {ds : List PyData}, (∀ d ∈ ds, ∃ e', t d base = some e' ∧ wipeE e' vs = base ∧ noOwn vs e' = true ∧ ts e' = .ok (p d) e' ∧ (p d = true → el e' = .ok (.val (g d)) e')) → lcGo vs t ts el ds base = .ok ((ds.filter p).map g) base
  | [], _ => rfl
  | d :: ds, h => by
    obtain ⟨e', h1, h2, h3, h4, h5⟩ := h d List.mem_cons_self
    have ih := lcGo_g (ds := ds) fun d' hd => h d' (List.mem_cons_of_mem _ hd)
    unfold lcGo
    rw [h1]
    dsimp only
    rw [h4]
    show (if p d = true then _ else _) = _
    by_cases c : p d = true
    · rw [if_pos c, h5 c]
      show (if noOwn vs e' = true then _ else _) = _
      rw [if_pos h3, h2, ih, List.filter_cons, if_pos c]
      rfl
    · rw [if_neg c, if_pos h3, h2, ih, List.filter_cons, if_neg c]
theorem compN_g {ds : List PyData} (hit : it e = .ok ds e1) (hw : wipeE e1 vs = base) (ho : noOwn vs e1 = true) (hl : ds.length ≤ sizeLine) (hbk : backE e1 base vs = e1) (h : ∀ d ∈ ds, ∃ e', t d base = some e' ∧ wipeE e' vs = base ∧ noOwn vs e' = true ∧ ts e' = .ok (p d) e' ∧ (p d = true → el e' = .ok (.val (g d)) e')) :
    compN vs it t ts el e = .ok ((ds.filter p).map g) e1 := by
  unfold compN
  rw [hit]
  show (if (noOwn vs e1 && decide (ds.length ≤ sizeLine)) = true then _ else _) = _
  rw [ho, decide_eq_true hl, if_pos (show (true && true) = true from rfl), hw, lcGo_g h]
  show Out.ok _ (backE e1 base vs) = _
  rw [hbk]
end
end PP
set_option maxRecDepth 100000
namespace PP
open PySem PySem.Spec PyProof.Rows L2
structure Nm (D W : Nat) (d : PyData) : Prop where
  lay : d.canLay0 = true
  dep : d.depth ≤ D
  sho : d.showable = true
  sh : d.leavesShort 12 = true
  wt : d.weight ≤ W
  txt : PyData.strOk d.shown = true
theorem Nm.mono {D D' W W' : Nat} {d : PyData} (h : Nm D W d) (h1 : D ≤ D') (h2 : W ≤ W') : Nm D' W' d := ⟨h.lay, Nat.le_trans h.dep h1, h.sho, h.sh, Nat.le_trans h.wt h2, h.txt⟩
theorem Nm.shaped {D W : Nat} {d : PyData} (h : Nm D W d) (hD : D ≤ 64) : SeqAt.shaped d = true := by
  unfold SeqAt.shaped
  rw [h.lay, decide_eq_true (Nat.le_trans h.dep hD)]
  rfl
theorem strOk_app (x y : Str) : PyData.strOk (x ++ y) = (PyData.strOk x && PyData.strOk y) := by
  show (x.cps ++ y.cps).all _ = _
  rw [Array.all_append]
  rfl
theorem strOk_of (s : String) : PyData.strOk (Str.ofString s) = true := by
  rw [Str.ofString_eq_toList]
  unfold PyData.strOk
  rw [List.all_toArray, List.all_eq_true]
  intro c hc
  obtain ⟨x, _, rfl⟩ := List.mem_map.mp hc
  have := x.valid
  apply decide_eq_true
  show x.val.toNat < 0x110000
  rcases this with h | ⟨_, h⟩ <;> omega
theorem strOk_join (sep : Str) (hs : PyData.strOk sep = true) : ∀ ts : List Str, (∀ t ∈ ts, PyData.strOk t = true) → PyData.strOk (Str.join sep ts) = true
  | [], _ => by
    show PyData.strOk "" = true
    exact strOk_of ""
  | [x], h => h x List.mem_cons_self
  | x :: y :: r, h => by
    show PyData.strOk (x ++ sep ++ Str.join sep (y :: r)) = true
    rw [strOk_app, strOk_app, h x List.mem_cons_self, hs, strOk_join sep hs (y :: r) fun t ht => h t (List.mem_cons_of_mem _ ht)]
    rfl
theorem shownAll_map (xs : List PyData) : PyData.shownAll xs = xs.map PyData.shown := by
  induction xs with
  | nil => rfl
  | cons x xs ih => show PyData.shown x :: PyData.shownAll xs = _; rw [ih]; rfl
theorem Nm.int {i : Int} (h0 : 0 ≤ i) (h : i < 1000000) : Nm 0 20 (.int i) where
  lay := rfl
  dep := Nat.le_refl _
  sho := by
    show decide (i.natAbs.log2 < 1920) = true
    apply decide_eq_true
    have : i.natAbs.log2 < 20 := by
      by_cases z : i.natAbs = 0
      · rw [z]; decide
      · rw [Nat.log2_lt z]; omega
    omega
  sh := by
    show decide ((Str.ofString (toString i)).length ≤ 12) = true
    apply decide_eq_true
    have := toString_length_le h0 (k := 6) (by decide) (by omega)
    omega
  wt := by
    show (if i == 0 then 0 else i.natAbs.log2 + 1) ≤ 20
    split
    · omega
    · rename_i z
      have z : i.natAbs ≠ 0 := by simp at z; omega
      have : i.natAbs.log2 < 20 := by rw [Nat.log2_lt z]; omega
      omega
  txt := strOk_of _
theorem Nm.bool (b : Bool) : Nm 0 20 (.bool b) := ⟨rfl, Nat.le_refl _, rfl, rfl, Nat.zero_le _, by cases b <;> exact strOk_of _⟩
theorem canLayAll_of {xs : List PyData} (h : ∀ x ∈ xs, x.canLay0 = true) : PyData.canLayAll0 xs = true := by
  induction xs with
  | nil => rfl
  | cons x xs ih =>
    show (x.canLay0 && PyData.canLayAll0 xs) = true
    rw [h x List.mem_cons_self, ih fun y hy => h y (List.mem_cons_of_mem _ hy)]
    rfl
theorem showableAll_of {xs : List PyData} (h : ∀ x ∈ xs, x.showable = true) : PyData.showableAll xs = true := by
  induction xs with
  | nil => rfl
  | cons x xs ih =>
    show (x.showable && PyData.showableAll xs) = true
    rw [h x List.mem_cons_self, ih fun y hy => h y (List.mem_cons_of_mem _ hy)]
    rfl
theorem leavesAll_of {xs : List PyData} (h : ∀ x ∈ xs, x.leavesShort 12 = true) : PyData.leavesShortAll 12 xs = true := by
  induction xs with
  | nil => rfl
  | cons x xs ih =>
    show (x.leavesShort 12 && PyData.leavesShortAll 12 xs) = true
    rw [h x List.mem_cons_self, ih fun y hy => h y (List.mem_cons_of_mem _ hy)]
    rfl
theorem depthAll_of {D : Nat} {xs : List PyData} (h : ∀ x ∈ xs, x.depth ≤ D) : PyData.depthAll xs ≤ D := by
  induction xs with
  | nil => exact Nat.zero_le _
  | cons x xs ih =>
    show max x.depth (PyData.depthAll xs) ≤ D
    have := h x List.mem_cons_self
    have := ih fun y hy => h y (List.mem_cons_of_mem _ hy)
    omega
theorem weightAll_of {W : Nat} {xs : List PyData} (h : ∀ x ∈ xs, x.weight ≤ W) : PyData.weightAll xs ≤ xs.length * (W + 1) := by
  induction xs with
  | nil => exact Nat.zero_le _
  | cons x xs ih =>
    show x.weight + 1 + PyData.weightAll xs ≤ (xs.length + 1) * (W + 1)
    have := h x List.mem_cons_self
    have := ih fun y hy => h y (List.mem_cons_of_mem _ hy)
    rw [Nat.succ_mul]
    omega
theorem txtAll_of {xs : List PyData} (h : ∀ x ∈ xs, PyData.strOk x.shown = true) : ∀ t ∈ PyData.shownAll xs, PyData.strOk t = true := by
  rw [shownAll_map]
  intro t ht
  obtain ⟨x, hx, rfl⟩ := List.mem_map.mp ht
  exact h x hx
theorem Nm.tup {D W N : Nat} {xs : List PyData} (h : ∀ x ∈ xs, Nm D W x) (hl : xs.length ≤ N) : Nm (D + 1) (N * (W + 1)) (.tuple xs) where
  lay := canLayAll_of fun x hx => (h x hx).lay
  dep := Nat.succ_le_succ (depthAll_of fun x hx => (h x hx).dep)
  sho := showableAll_of fun x hx => (h x hx).sho
  sh := leavesAll_of fun x hx => (h x hx).sh
  wt := Nat.le_trans (weightAll_of fun x hx => (h x hx).wt) (Nat.mul_le_mul_right _ hl)
  txt := by
    show PyData.strOk (tupleText (PyData.shownAll xs)) = true
    unfold tupleText
    rw [strOk_app, strOk_app, strOk_join _ (strOk_of _) _ (txtAll_of fun x hx => (h x hx).txt), strOk_of, strOk_of]
    rfl
theorem Nm.list {D W N : Nat} {xs : List PyData} (h : ∀ x ∈ xs, Nm D W x) (hl : xs.length ≤ N) : Nm (D + 1) (N * (W + 1)) (.list xs) where
  lay := canLayAll_of fun x hx => (h x hx).lay
  dep := Nat.succ_le_succ (depthAll_of fun x hx => (h x hx).dep)
  sho := showableAll_of fun x hx => (h x hx).sho
  sh := leavesAll_of fun x hx => (h x hx).sh
  wt := Nat.le_trans (weightAll_of fun x hx => (h x hx).wt) (Nat.mul_le_mul_right _ hl)
  txt := by
    show PyData.strOk (listText (PyData.shownAll xs)) = true
    rw [listText_eq_join, strOk_app, strOk_app, strOk_join _ (strOk_of _) _ (txtAll_of fun x hx => (h x hx).txt), strOk_of, strOk_of]
    rfl
theorem Nm.repr {D W : Nat} {d : PyData} (h : Nm D W d) (hD : D ≤ 64) (hW : W ≤ 1000000) : reprD d = some (.str d.shown) := by
  unfold reprD
  rw [if_pos ⟨h.shaped hD, h.sho, PyData.shown_fits (B := 12) (by decide) (by decide) h.sh (by have := h.wt; omega)⟩]
theorem Nm.same {D W : Nat} {d : PyData} (h : Nm D W d) : neD (.str d.shown) (.str d.shown) = some (.bool false) := by
  have s : SeqAt.shaped (.str d.shown) = true := by
    show (PyData.strOk d.shown && decide (0 ≤ 64)) = true
    rw [h.txt]
    rfl
  unfold neD
  rw [if_pos ⟨s, s⟩]
  simp [PyData.eqv]
end PP
set_option maxRecDepth 100000
namespace PP
open PySem PySem.Spec PyProof.Rows L2
section
variable {vs vs1 : List Nat} {t t1 : PyData → Sls → Option Sls} {it it1 : Sls → Out (List PyData)} {el : Sls → Out SV} {e e1 base base1 : Sls} {g : PyData → PyData}
theorem lcIn_g : ∀ {ds : List PyData}, (∀ d ∈ ds, ∃ e', t d base = some e' ∧ wipeE e' vs = base ∧ noOwn vs e' = true ∧ el e' = .ok (.val (g d)) e') → lcIn vs t yesT el ds base = .ok (ds.map g) base
  | [], _ => rfl
  | d :: ds, h => by
    obtain ⟨e', h1, h2, h3, h5⟩ := h d List.mem_cons_self
    have ih := lcIn_g (ds := ds) fun d' hd => h d' (List.mem_cons_of_mem _ hd)
    unfold lcIn
    rw [h1]
    dsimp only
    show ((el e').noErr.bind _) = _
    rw [h5]
    show (if noOwn vs e' = true then _ else _) = _
    rw [if_pos h3, h2, ih]
    rfl
theorem lcOut_g {f : PyData → List PyData} : ∀ {ds : List PyData}, (∀ d ∈ ds, ∃ e' ds1 e2, t d base = some e' ∧ it1 e' = .ok ds1 e' ∧ noOwn vs1 e' = true ∧ lcIn vs1 t1 yesT el ds1 (wipeE e' vs1) = .ok (f d) e2 ∧ noOwn vs e2 = true ∧ wipeE e2 vs = base) → lcOut vs vs1 t yesT it1 t1 yesT el ds base = .ok (ds.map f).flatten base
  | [], _ => rfl
  | d :: ds, h => by
    obtain ⟨e', ds1, e2, h1, h2, h3, h4, h5, h6⟩ := h d List.mem_cons_self
    have ih := lcOut_g (f := f) (ds := ds) fun d' hd => h d' (List.mem_cons_of_mem _ hd)
    unfold lcOut
    rw [h1]
    dsimp only
    show ((it1 e').noErr.bind _) = _
    rw [h2]
    show (if noOwn vs1 e' = true then _ else _) = _
    rw [if_pos h3, h4]
    show (if noOwn vs e2 = true then _ else _) = _
    rw [if_pos h5, h6, ih]
    rfl
theorem compN2_g {f : PyData → List PyData} {ds : List PyData} (hit : it e = .ok ds e1) (hw : wipeE e1 vs = base) (ho : noOwn vs e1 = true) (hl : (ds.map f).flatten.length ≤ sizeLine) (hbk : backE e1 base vs = e1)
    (h : ∀ d ∈ ds, ∃ e' ds1 e2, t d base = some e' ∧ it1 e' = .ok ds1 e' ∧ noOwn vs1 e' = true ∧ lcIn vs1 t1 yesT el ds1 (wipeE e' vs1) = .ok (f d) e2 ∧ noOwn vs e2 = true ∧ wipeE e2 vs = base) :
    compN2 vs vs1 it t yesT it1 t1 yesT el e = .ok (ds.map f).flatten e1 := by
  unfold compN2
  rw [hit]
  show (if noOwn vs e1 = true then _ else _) = _
  rw [if_pos ho, hw, lcOut_g h]
  show (if (ds.map f).flatten.length ≤ sizeLine then Out.ok _ (backE e1 base vs) else _) = _
  rw [if_pos hl, hbk]
end
end PP
set_option maxRecDepth 100000
namespace PP
open PySem PySem.Spec PyProof.Rows L2
theorem wipe_len (e : Sls) : ∀ vs : List Nat, (wipeE e vs).length = e.length
  | [] => rfl
  | v :: vs => by
    show ((wipeE e vs).set v .no).length = _
    rw [List.length_set, wipe_len e vs]
theorem back_len (e e' : Sls) : ∀ vs : List Nat, (backE e e' vs).length = e'.length
  | [] => rfl
  | v :: vs => by
    show ((backE e e' vs).set v _).length = _
    rw [List.length_set, back_len e e' vs]
theorem wipe_get (e : Sls) (k : Nat) : ∀ vs : List Nat, (wipeE e vs)[k]? = if k ∈ vs then (e[k]?).map (fun _ => .no) else e[k]?
  | [] => by rw [if_neg (by simp)]; rfl
  | v :: vs => by
    show ((wipeE e vs).set v .no)[k]? = _
    rw [List.getElem?_set, wipe_len, wipe_get e k vs]
    by_cases q : v = k
    · subst q
      rw [if_pos rfl, if_pos List.mem_cons_self]
      by_cases l : v < e.length
      · rw [if_pos l, List.getElem?_eq_getElem l]; rfl
      · rw [if_neg l, List.getElem?_eq_none (by omega)]; rfl
    · rw [if_neg q]
      by_cases m : k ∈ vs
      · rw [if_pos m, if_pos (List.mem_cons_of_mem _ m)]
      · rw [if_neg m, if_neg (by intro z; rcases List.mem_cons.mp z with z | z; exact q z.symm; exact m z)]
theorem back_get (e e' : Sls) (hl : e'.length = e.length) (k : Nat) : ∀ vs : List Nat, (backE e e' vs)[k]? = if k ∈ vs then e[k]? else e'[k]?
  | [] => by rw [if_neg (by simp)]; rfl
  | v :: vs => by
    show ((backE e e' vs).set v ((e[v]?).getD .no))[k]? = _
    rw [List.getElem?_set, back_len, back_get e e' hl k vs]
    by_cases q : v = k
    · subst q
      rw [if_pos rfl, if_pos List.mem_cons_self]
      by_cases l : v < e'.length
      · rw [if_pos l, List.getElem?_eq_getElem (hl ▸ l)]; rfl
      · rw [if_neg l, List.getElem?_eq_none (by omega)]
    · rw [if_neg q]
      by_cases m : k ∈ vs
      · rw [if_pos m, if_pos (List.mem_cons_of_mem _ m)]
      · rw [if_neg m, if_neg (by intro z; rcases List.mem_cons.mp z with z | z; exact q z.symm; exact m z)]
theorem wipe_eq {e e' : Sls} {vs : List Nat} (h : ∀ k, k ∉ vs → e'[k]? = e[k]?) (hv : ∀ k ∈ vs, e[k]? = some .no) (hl : e'.length = e.length) : wipeE e' vs = e := by
  apply List.ext_getElem?
  intro k
  rw [wipe_get]
  by_cases m : k ∈ vs
  · rw [if_pos m, hv k m]
    have : k < e'.length := by
      rw [hl]
      exact (List.getElem?_eq_some_iff.mp (hv k m)).1
    rw [List.getElem?_eq_getElem this]
    rfl
  · rw [if_neg m, h k m]
theorem back_eq {e e' : Sls} {vs : List Nat} (h : ∀ k, k ∉ vs → e'[k]? = e[k]?) (hl : e'.length = e.length) : backE e e' vs = e := by
  apply List.ext_getElem?
  intro k
  rw [back_get e e' hl]
  by_cases m : k ∈ vs
  · rw [if_pos m]
  · rw [if_neg m, h k m]
def Kn (ks : List (Option Sl)) (e : Sls) : Prop := e.length = ks.length ∧ ∀ (i : Nat) (s : Sl), ks[i]? = some (some s) → e[i]? = some s
theorem Kn.all (e : Sls) : Kn (e.map some) e := ⟨by rw [List.length_map], fun i s h => by
  rw [List.getElem?_map] at h
  cases q : e[i]? with
  | none => rw [q] at h; cases h
  | some t => rw [q] at h; injection h with h⟩
section
variable {ks : List (Option Sl)} {e : Sls} {i j l : Nat} {s : Sl} {d : PyData}
theorem Kn.at (k : Kn ks e) (h : ks[i]? = some (some s)) : e[i]? = some s := k.2 i s h
theorem Kn.v (k : Kn ks e) (h : ks[i]? = some (some (.val d))) : var i e = .ok (.val d) e := var_val (k.at h)
theorem Kn.lt (k : Kn ks e) (h : ks[i]? = some (some s)) : i < e.length := (List.getElem?_eq_some_iff.mp (k.at h)).1
theorem Kn.set (k : Kn ks e) (s : Sl) : Kn (ks.set i (some s)) (e.set i s) := ⟨by rw [List.length_set, List.length_set]; exact k.1, fun j t h => by
  rw [List.getElem?_set] at h ⊢
  by_cases q : i = j
  · subst q
    rw [if_pos rfl] at h ⊢
    by_cases l : i < ks.length
    · rw [if_pos l] at h
      rw [if_pos (k.1 ▸ l)]
      injection h with h
    · rw [if_neg l] at h; cases h
  · rw [if_neg q] at h ⊢
    exact k.2 j t h⟩
theorem Kn.forget (k : Kn ks e) (i : Nat) : Kn (ks.set i none) e := ⟨by rw [List.length_set]; exact k.1, fun j t h => by
  rw [List.getElem?_set] at h
  by_cases q : i = j
  · subst q
    rw [if_pos rfl] at h
    by_cases l : i < ks.length
    · rw [if_pos l] at h; cases h
    · rw [if_neg l] at h; cases h
  · rw [if_neg q] at h
    exact k.2 j t h⟩
theorem Kn.put (k : Kn ks e) (s : Sl) : Kn (ks.set i none) (e.set i s) := by
  have := (k.set (i := i) s).forget i
  rw [List.set_set] at this
  exact this
theorem Kn.notOwn (k : Kn ks e) (h : ks[i]? = some (some s)) (hs : ∀ xs, s ≠ .own xs) : isOwn i e = false := by
  unfold isOwn
  rw [k.at h]
  cases s with
  | own xs => exact absurd rfl (hs xs)
  | _ => rfl
theorem Kn.no (k : Kn ks e) (h : ks[i]? = some (some .no)) : isOwn i e = false := k.notOwn h (by simp)
theorem Kn.back1 (k : Kn ks e) (h : ks[i]? = some (some s)) : e.set i s = e := List.ext_getElem? fun j => by
  rw [List.getElem?_set]
  by_cases q : i = j
  · subst q
    rw [if_pos rfl, if_pos (k.lt h), k.at h]
  · rw [if_neg q]
end
section
variable {ks : List (Option Sl)} {e e1 : Sls} {i j l : Nat} {it : Sls → Out (List PyData)} {ts : Sls → Out Bool} {el : Sls → Out SV} {ds : List PyData} {g : PyData → PyData} {p : PyData → Bool}
theorem Kn.cmap (k : Kn ks e) (hn : ks[i]? = some (some .no)) (hit : it e = .ok ds e) (hl : ds.length ≤ sizeLine) (h : ∀ d ∈ ds, ∀ e', Kn (ks.set i (some (.val d))) e' → el e' = .ok (.val (g d)) e') : compN [i] it (tgN i) yesT el e = .ok (ds.map g) e :=
  compN_map hit (k.lt hn) (k.no hn) hl fun d hd => h d hd _ (k.set _)
theorem Kn.cfil (k : Kn ks e) (hn : ks[i]? = some (some .no)) (hit : it e = .ok ds e) (hl : ds.length ≤ sizeLine) (h : ∀ d ∈ ds, ∀ e', Kn (ks.set i (some (.val d))) e' → ts e' = .ok (p d) e') : compN [i] it (tgN i) ts (var i) e = .ok (ds.filter p) e := by
  have := compN_1 (g := id) (p := p) (ts := ts) (el := var i) hit (k.lt hn) (k.no hn) hl fun d hd => ⟨h d hd _ (k.set _), fun _ => (k.set (i := i) (.val d)).v (List.getElem?_set_self (by have := k.lt hn; rw [k.1] at this; exact this))⟩
  rw [List.map_id] at this
  exact this
theorem Kn.cmap2 (k : Kn ks e) (hi : ks[i]? = some (some .no)) (hj : ks[j]? = some (some .no)) (hij : i ≠ j) (hit : it e = .ok ds e) (hl : ds.length ≤ sizeLine) (h : ∀ d ∈ ds, ∃ x y, d = .tuple [x, y] ∧ ∀ e', Kn ((ks.set i (some (.val x))).set j (some (.val y))) e' → el e' = .ok (.val (g d)) e') :
    compN [i, j] it (tgT 2 (tgsCons (tgN i) (tgsCons (tgN j) tgsNil))) yesT el e = .ok (ds.map g) e := by
  have hno : ∀ k' ∈ [i, j], e[k']? = some .no := by
    intro k' hk
    simp at hk
    rcases hk with rfl | rfl
    · exact k.at hi
    · exact k.at hj
  have := compN_g (vs := [i, j]) (it := it) (t := tgT 2 (tgsCons (tgN i) (tgsCons (tgN j) tgsNil))) (ts := yesT) (el := el) (e := e) (e1 := e) (base := e) (p := fun _ => true) (g := g) (ds := ds) hit (wipe_eq (fun _ _ => rfl) hno rfl) (by
      unfold noOwn
      simp [k.no hi, k.no hj]) hl (back_eq (fun _ _ => rfl) rfl) fun d hd => by
      obtain ⟨x, y, rfl, h1⟩ := h d hd
      refine ⟨(e.set i (.val x)).set j (.val y), rfl, wipe_eq (fun k' hk => ?_) hno (by simp), ?_, rfl, fun _ => h1 _ ((k.set _).set _)⟩
      · simp at hk
        rw [List.getElem?_set_ne (fun z => hk.2 z.symm), List.getElem?_set_ne (fun z => hk.1 z.symm)]
      · unfold noOwn
        have q1 : isOwn i ((e.set i (.val x)).set j (.val y)) = false := by
          unfold isOwn
          rw [List.getElem?_set_ne (Ne.symm hij), List.getElem?_set_self (k.lt hi)]
        have q2 : isOwn j ((e.set i (.val x)).set j (.val y)) = false := isOwn_set fun _ => by simp
        simp [q1, q2]
  rw [List.filter_eq_self.mpr (by simp)] at this
  exact this
theorem Kn.cmap3 (k : Kn ks e) (hi : ks[i]? = some (some .no)) (hj : ks[j]? = some (some .no)) (hq : ks[l]? = some (some .no)) (hij : i ≠ j) (hil : i ≠ l) (hjl : j ≠ l) (hit : it e = .ok ds e) (hl : ds.length ≤ sizeLine) (h : ∀ d ∈ ds, ∃ x y z, d = .tuple [x, y, z] ∧ ∀ e', Kn (((ks.set i (some (.val x))).set j (some (.val y))).set l (some (.val z))) e' → el e' = .ok (.val (g d)) e') :
    compN [i, j, l] it (tgT 3 (tgsCons (tgN i) (tgsCons (tgN j) (tgsCons (tgN l) tgsNil)))) yesT el e = .ok (ds.map g) e := by
  have hno : ∀ k' ∈ [i, j, l], e[k']? = some .no := by
    intro k' hk
    simp at hk
    rcases hk with rfl | rfl | rfl
    · exact k.at hi
    · exact k.at hj
    · exact k.at hq
  have := compN_g (vs := [i, j, l]) (it := it) (t := tgT 3 (tgsCons (tgN i) (tgsCons (tgN j) (tgsCons (tgN l) tgsNil)))) (ts := yesT) (el := el) (e := e) (e1 := e) (base := e) (p := fun _ => true) (g := g) (ds := ds) hit (wipe_eq (fun _ _ => rfl) hno rfl) (by
      unfold noOwn
      simp [k.no hi, k.no hj, k.no hq]) hl (back_eq (fun _ _ => rfl) rfl) fun d hd => by
      obtain ⟨x, y, z, rfl, h1⟩ := h d hd
      refine ⟨((e.set i (.val x)).set j (.val y)).set l (.val z), rfl, wipe_eq (fun k' hk => ?_) hno (by simp), ?_, rfl, fun _ => h1 _ (((k.set _).set _).set _)⟩
      · simp at hk
        rw [List.getElem?_set_ne (fun z => hk.2.2 z.symm), List.getElem?_set_ne (fun z => hk.2.1 z.symm), List.getElem?_set_ne (fun z => hk.1 z.symm)]
      · unfold noOwn
        have q1 : isOwn i (((e.set i (.val x)).set j (.val y)).set l (.val z)) = false := by
          unfold isOwn
          rw [List.getElem?_set_ne (Ne.symm hil), List.getElem?_set_ne (Ne.symm hij), List.getElem?_set_self (k.lt hi)]
        have q2 : isOwn j (((e.set i (.val x)).set j (.val y)).set l (.val z)) = false := by
          unfold isOwn
          rw [List.getElem?_set_ne (Ne.symm hjl), List.getElem?_set_self (by rw [List.length_set]; exact k.lt hj)]
        have q3 : isOwn l (((e.set i (.val x)).set j (.val y)).set l (.val z)) = false := isOwn_set fun _ => by simp
        simp [q1, q2, q3]
  rw [List.filter_eq_self.mpr (by simp)] at this
  exact this
theorem Kn.cex {Inv : List PyData → Prop} {G : PyData → PyData → Prop} {xs : List PyData} (k : Kn ks e) (hn : ks[i]? = some (some .no)) (hj : ks[j]? = some (some (.own xs))) (hij : i ≠ j) (hx : Inv xs) (hit : it e = .ok ds e) (hl : ds.length ≤ sizeLine)
    (h : ∀ d ∈ ds, ∀ xs e', Inv xs → Kn ((ks.set j (some (.own xs))).set i (some (.val d))) e' → ∃ y xs', el e' = .ok (.val y) (e'.set j (.own xs')) ∧ G d y ∧ Inv xs') :
    ∃ ys xs', compN [i] it (tgN i) yesT el e = .ok ys (e.set j (.own xs')) ∧ Paired G ds ys ∧ Inv xs' := by
  have q0 : (e.set j (.own xs)) = e := k.back1 hj
  have qn : ∀ s, (e.set j s).set i .no = e.set j s := fun s => by
    rw [← List.set_comm _ _ hij, k.back1 hn]
  obtain ⟨ys, e', h1, h2, xs', h3, h4⟩ := compN_ex (i := i) (it := it) (el := el) (e := e) (e1 := e) (ds := ds) (Inv := fun e' => ∃ xs', Inv xs' ∧ e' = e.set j (.own xs')) (G := G) hit (k.no hn) hl ⟨xs, hx, by rw [k.back1 hn, q0]⟩ fun d hd e' ⟨xs1, hx1, he⟩ => by
    subst he
    obtain ⟨y, xs2, a1, a2, a3⟩ := h d hd xs1 _ hx1 ((k.set (i := j) (.own xs1)).set (i := i) (.val d))
    refine ⟨y, _, a1, a2, ?_, xs2, a3, ?_⟩
    · unfold isOwn
      rw [List.getElem?_set_ne (Ne.symm hij), List.getElem?_set_self (by rw [List.length_set]; exact k.lt hn)]
    · rw [List.set_comm _ _ hij, List.set_set, List.set_set, qn]
  subst h4
  refine ⟨ys, xs', ?_, h2, h3⟩
  rw [h1, k.at hn]
  show Out.ok ys ((e.set j (.own xs')).set i .no) = _
  rw [qn]
end
theorem it_rngN {fs : Sls → Out (List SV)} {e e1 : Sls} {n : Nat} (h : fs e = .ok [.val (.int n)] e1) (hn : n ≤ 1000000) : itArgs rng1D fs e = .ok (intsFrom 0 n) e1 := by
  have hr : rng1D [.int n] = some (intsFrom 0 n) := rng1_nat hn
  exact itArgs_of h hr
theorem it_rngI {fs : Sls → Out (List SV)} {e e1 : Sls} {n : Int} (h : fs e = .ok [.val (.int n)] e1) (h0 : 0 ≤ n) (hn : n ≤ 1000000) : itArgs rng1D fs e = .ok (intsFrom 0 n.toNat) e1 := by
  have hr : rng1D [.int n] = some (intsFrom 0 n.toNat) := rng1_int h0 hn
  exact itArgs_of h hr
theorem runO_of {tot : Nat} {g : Sls → OutS} {xs as ys : List PyData} {d : PyData} {e : Sls} (h : g (envO tot xs as) = .rt d e) (h2 : own0 e = some ys) : runO tot g xs as = .ok (d, ys) := by
  unfold runO
  rw [h]
  dsimp only
  rw [h2]
theorem Paired.len {α β : Type} {G : α → β → Prop} : ∀ {as : List α} {bs : List β}, Paired G as bs → bs.length = as.length
  | _, _, .nil => rfl
  | _, _, .cons _ t => by rw [List.length_cons, List.length_cons, Paired.len t]
end PP
namespace PP.SZ
open Lean.Grind
section
variable {A : Type} [CommRing A]
abbrev R3 (A : Type) := A × A × A
abbrev Ser (A : Type) := Int → Int → A
def mu (r : R3 A) (F : Ser A) : Ser A := fun k n => F (k - 1) n - r.1 * F k n - r.2.1 * F k (n - 1) - r.2.2 * F k (n - 2)
def unit0 : Ser A := fun k n => if k = 0 ∧ n = 0 then 1 else 0
def prodS : List (R3 A) → Ser A
  | [] => unit0
  | r :: rs => mu r (prodS rs)
theorem mu_comm (r s : R3 A) (F : Ser A) : mu r (mu s F) = mu s (mu r F) := by
  funext k n
  have h1 : n - 1 - 1 = n - 2 := by omega
  have h2 : n - 1 - 2 = n - 3 := by omega
  have h3 : n - 2 - 1 = n - 3 := by omega
  unfold mu
  rw [h1, h2, h3]
  grind
theorem prodS_perm {rs ss : List (R3 A)} (h : rs.Perm ss) : prodS rs = prodS ss := by
  induction h with
  | nil => rfl
  | cons r _ ih => show mu r _ = mu r _; rw [ih]
  | swap r s l => exact mu_comm _ _ _
  | trans _ _ h1 h2 => exact h1.trans h2
theorem prodS_supp (d : Int) (hd : 0 ≤ d) (hd2 : d ≤ 2) : ∀ (rs : List (R3 A)), (∀ r ∈ rs, (d ≤ 0 → r.2.1 = 0) ∧ (d ≤ 1 → r.2.2 = 0)) → ∀ k n, (k < 0 ∨ n < 0 ∨ (rs.length : Int) < k ∨ d * (rs.length - k) < n) → prodS rs k n = 0
  | [], _, k, n, h => by
    show (if k = 0 ∧ n = 0 then (1 : A) else 0) = 0
    rw [if_neg]
    rintro ⟨rfl, rfl⟩
    simp at h
  | r :: rs, hr, k, n, h => by
    have ih := prodS_supp d hd hd2 rs (fun s hs => hr s (List.mem_cons_of_mem _ hs))
    have hr0 := hr r List.mem_cons_self
    show prodS rs (k - 1) n - r.1 * prodS rs k n - r.2.1 * prodS rs k (n - 1) - r.2.2 * prodS rs k (n - 2) = 0
    rw [List.length_cons] at h
    have hd' : d = 0 ∨ d = 1 ∨ d = 2 := by omega
    have e1 : prodS rs (k - 1) n = 0 := ih _ _ (by rcases hd' with e | e | e <;> subst e <;> omega)
    have e2 : prodS rs k n = 0 := ih _ _ (by rcases hd' with e | e | e <;> subst e <;> omega)
    have e3 : r.2.1 * prodS rs k (n - 1) = 0 := by
      rcases hd' with e | e | e
      · rw [hr0.1 (by omega)]; grind
      · rw [ih _ _ (by subst e; omega)]; grind
      · rw [ih _ _ (by subst e; omega)]; grind
    have e4 : r.2.2 * prodS rs k (n - 2) = 0 := by
      rcases hd' with e | e | e
      · rw [hr0.2 (by omega)]; grind
      · rw [hr0.2 (by omega)]; grind
      · rw [ih _ _ (by subst e; omega)]; grind
    rw [e1, e2, e3, e4]
    grind
def cst1 (r : R3 A) : List (R3 A) → Int → A
  | [] => fun n => if n = 0 then 1 else 0
  | s :: ss => fun n => (r.1 - s.1) * cst1 r ss n + (r.2.1 - s.2.1) * cst1 r ss (n - 1) + (r.2.2 - s.2.2) * cst1 r ss (n - 2)
def at0 (c : Int → A) : Ser A := fun k n => if k = 0 then c n else 0
def quo (r : R3 A) : List (R3 A) → Ser A
  | [] => fun _ _ => 0
  | s :: ss => fun k n => mu s (quo r ss) k n + at0 (cst1 r ss) k n
theorem quo_ok (r : R3 A) : ∀ (ss : List (R3 A)) (k n : Int), prodS ss k n = mu r (quo r ss) k n + at0 (cst1 r ss) k n
  | [], k, n => by
    show (if k = 0 ∧ n = 0 then (1 : A) else 0) = (0 - r.1 * 0 - r.2.1 * 0 - r.2.2 * 0) + (if k = 0 then (if n = 0 then (1 : A) else 0) else 0)
    grind
  | s :: ss, k, n => by
    have ih := quo_ok r ss
    have h := congrFun (congrFun (mu_comm s r (quo r ss)) k) n
    show mu s (prodS ss) k n = mu r (fun k n => mu s (quo r ss) k n + at0 (cst1 r ss) k n) k n + at0 (cst1 r (s :: ss)) k n
    have e : prodS ss = fun k n => mu r (quo r ss) k n + at0 (cst1 r ss) k n := by funext k n; exact ih k n
    rw [e]
    have e1 : mu s (fun k n => mu r (quo r ss) k n + at0 (cst1 r ss) k n) k n = mu s (mu r (quo r ss)) k n + mu s (at0 (cst1 r ss)) k n := by unfold mu; grind
    have e2 : mu r (fun k n => mu s (quo r ss) k n + at0 (cst1 r ss) k n) k n = mu r (mu s (quo r ss)) k n + mu r (at0 (cst1 r ss)) k n := by unfold mu; grind
    rw [e1, e2, h]
    have e3 : mu s (at0 (cst1 r ss)) k n = mu r (at0 (cst1 r ss)) k n + at0 (cst1 r (s :: ss)) k n := by
      unfold mu at0
      show _ = _ + (if k = 0 then ((r.1 - s.1) * cst1 r ss n + (r.2.1 - s.2.1) * cst1 r ss (n - 1) + (r.2.2 - s.2.2) * cst1 r ss (n - 2)) else 0)
      split <;> grind
    rw [e3]
    grind
def Low (c : Int → A) : Prop := ∀ n, n < 0 → c n = 0
theorem low_step {c : Int → A} (h : Low c) (P : ∀ n, 0 ≤ n → (∀ m, m < n → c m = 0) → c n = 0) : ∀ n, c n = 0 := by
  have key : ∀ (N : Nat) (n : Int), n < N → c n = 0 := by
    intro N
    induction N with
    | zero => exact fun n hn => h n (by omega)
    | succ N ih =>
      intro n hn
      by_cases q : n < N
      · exact ih n q
      · by_cases q2 : n < 0
        · exact h n q2
        · exact P n (by omega) fun m hm => ih m (by omega)
  intro n
  exact key (n.toNat + 1) n (by omega)
theorem mul_nz (nzd : ∀ x y : A, x * y = 0 → x = 0 ∨ y = 0) {x y z : A} (hq : ¬ (x = 0 ∧ y = 0 ∧ z = 0)) {c : Int → A} (hl : Low c) (h : ∀ n, x * c n + y * c (n - 1) + z * c (n - 2) = 0) : ∀ n, c n = 0 := by
  by_cases hx : x = 0
  · by_cases hy : y = 0
    · have hz : z ≠ 0 := fun e => hq ⟨hx, hy, e⟩
      refine low_step hl fun n _ ih => ?_
      have := h (n + 2)
      have e : n + 2 - 2 = n := by omega
      rw [hx, hy, e] at this
      have : z * c n = 0 := by grind
      rcases nzd _ _ this with q | q
      · exact (hz q).elim
      · exact q
    · refine low_step hl fun n _ ih => ?_
      have := h (n + 1)
      have e : n + 1 - 1 = n := by omega
      have e2 : n + 1 - 2 = n - 1 := by omega
      rw [hx, e, e2, ih (n - 1) (by omega)] at this
      have : y * c n = 0 := by grind
      rcases nzd _ _ this with q | q
      · exact (hy q).elim
      · exact q
  · refine low_step hl fun n _ ih => ?_
    have := h n
    rw [ih (n - 1) (by omega), ih (n - 2) (by omega)] at this
    have : x * c n = 0 := by grind
    rcases nzd _ _ this with q | q
    · exact (hx q).elim
    · exact q
theorem cst1_low (r : R3 A) : ∀ ss : List (R3 A), Low (cst1 r ss)
  | [] => fun n hn => by
    show (if n = 0 then (1 : A) else 0) = 0
    rw [if_neg (by omega)]
  | s :: ss => fun n hn => by
    have ih := cst1_low r ss
    show (r.1 - s.1) * cst1 r ss n + (r.2.1 - s.2.1) * cst1 r ss (n - 1) + (r.2.2 - s.2.2) * cst1 r ss (n - 2) = 0
    rw [ih n hn, ih (n - 1) (by omega), ih (n - 2) (by omega)]
    grind
theorem cst1_nz (nzd : ∀ x y : A, x * y = 0 → x = 0 ∨ y = 0) (one : (1 : A) ≠ 0) (r : R3 A) : ∀ ss : List (R3 A), r ∉ ss → ¬ ∀ n, cst1 r ss n = 0
  | [], _, h => by
    have := h 0
    exact one this
  | s :: ss, hr, h => by
    refine cst1_nz nzd one r ss (fun z => hr (List.mem_cons_of_mem _ z)) (mul_nz nzd ?_ (cst1_low r ss) h)
    rintro ⟨h1, h2, h3⟩
    apply hr
    have : r = s := by
      obtain ⟨a, b, c⟩ := r
      obtain ⟨a', b', c'⟩ := s
      simp only at h1 h2 h3
      have e1 : a = a' := by grind
      have e2 : b = b' := by grind
      have e3 : c = c' := by grind
      rw [e1, e2, e3]
    rw [this]
    exact List.mem_cons_self
theorem quo_low (r : R3 A) : ∀ (ss : List (R3 A)) (k n : Int), (k < 0 ∨ (ss.length : Int) ≤ k) → quo r ss k n = 0
  | [], _, _, _ => rfl
  | s :: ss, k, n, h => by
    have ih := quo_low r ss
    rw [List.length_cons] at h
    show quo r ss (k - 1) n - s.1 * quo r ss k n - s.2.1 * quo r ss k (n - 1) - s.2.2 * quo r ss k (n - 2) + (if k = 0 then cst1 r ss n else 0) = 0
    rw [ih (k - 1) n (by omega), ih k n (by omega), ih k (n - 1) (by omega), ih k (n - 2) (by omega), if_neg (by omega)]
    grind
theorem mu_inj {r : R3 A} {G : Ser A} {c : Int → A} {K : Int} (hK : ∀ k n, K ≤ k → G k n = 0) (h0 : ∀ k n, k < 0 → G k n = 0) (h : ∀ k n, mu r G k n = at0 c k n) : (∀ k n, G k n = 0) ∧ ∀ n, c n = 0 := by
  have key : ∀ (N : Nat) (k n : Int), 0 ≤ k → K - N ≤ k → G k n = 0 := by
    intro N
    induction N with
    | zero => exact fun k n _ hk => hK k n (by omega)
    | succ N ih =>
      intro k n h0 hk
      by_cases q : K - N ≤ k
      · exact ih k n h0 q
      · have e := h (k + 1) n
        have e1 : k + 1 - 1 = k := by omega
        unfold mu at0 at e
        rw [e1, if_neg (by omega), ih (k + 1) n (by omega) (by omega), ih (k + 1) (n - 1) (by omega) (by omega), ih (k + 1) (n - 2) (by omega) (by omega)] at e
        grind
  have all : ∀ k n, G k n = 0 := by
    intro k n
    by_cases q : k < 0
    · exact h0 k n q
    · exact key (K - k).toNat k n (by omega) (by omega)
  refine ⟨all, fun n => ?_⟩
  have e := h 0 n
  unfold mu at0 at e
  rw [if_pos rfl, all, all, all, all] at e
  grind
theorem prodS_inj (nzd : ∀ x y : A, x * y = 0 → x = 0 ∨ y = 0) (one : (1 : A) ≠ 0) [DecidableEq A] : ∀ (rs ss : List (R3 A)), rs.length = ss.length → prodS rs = prodS ss → rs.Perm ss
  | [], ss, hl, _ => by
    cases ss with
    | nil => exact .nil
    | cons => simp at hl
  | r :: rs, ss, hl, h => by
    have supp : ∀ (l : List (R3 A)) (k n : Int), (k < 0 ∨ (l.length : Int) < k) → prodS l k n = 0 := fun l k n q => prodS_supp 2 (by omega) (by omega) l (fun s _ => ⟨fun z => by omega, fun z => by omega⟩) k n (by omega)
    have hmem : r ∈ ss := by
      apply Classical.byContradiction
      intro hr
      refine cst1_nz nzd one r ss hr ?_
      refine (mu_inj (r := r) (G := fun k n => prodS rs k n - quo r ss k n) (K := ss.length + 1) (fun k n hk => ?_) (fun k n hk => ?_) (fun k n => ?_)).2
      · show prodS rs k n - quo r ss k n = 0
        rw [supp rs k n (by rw [List.length_cons] at hl; omega), quo_low r ss k n (by omega)]
        grind
      · show prodS rs k n - quo r ss k n = 0
        rw [supp rs k n (by omega), quo_low r ss k n (by omega)]
        grind
      · have e := congrFun (congrFun h k) n
        rw [quo_ok r ss k n] at e
        have e' : mu r (prodS rs) k n = mu r (quo r ss) k n + at0 (cst1 r ss) k n := e
        have e2 : mu r (fun k n => prodS rs k n - quo r ss k n) k n = mu r (prodS rs) k n - mu r (quo r ss) k n := by unfold mu; grind
        rw [e2, e']
        grind
    have hp := List.perm_cons_erase hmem
    have h2 : prodS (r :: rs) = prodS (r :: ss.erase r) := h.trans (prodS_perm hp)
    have hlen : rs.length = (ss.erase r).length := by
      have := hp.length_eq
      rw [List.length_cons] at this hl
      omega
    have h3 : prodS rs = prodS (ss.erase r) := by
      have := (mu_inj (r := r) (c := fun _ => 0) (G := fun k n => prodS rs k n - prodS (ss.erase r) k n) (K := rs.length + 1) (fun k n hk => ?_) (fun k n hk => ?_) (fun k n => ?_)).1
      · funext k n
        have := this k n
        grind
      · show prodS rs k n - prodS (ss.erase r) k n = 0
        rw [supp rs k n (by omega), supp _ k n (by omega)]
        grind
      · show prodS rs k n - prodS (ss.erase r) k n = 0
        rw [supp rs k n (by omega), supp _ k n (by omega)]
        grind
      · have e := congrFun (congrFun h2 k) n
        have e' : mu r (prodS rs) k n = mu r (prodS (ss.erase r)) k n := e
        have e2 : mu r (fun k n => prodS rs k n - prodS (ss.erase r) k n) k n = mu r (prodS rs) k n - mu r (prodS (ss.erase r)) k n := by unfold mu; grind
        rw [e2, e']
        unfold at0
        split <;> grind
    exact ((prodS_inj nzd one rs (ss.erase r) hlen h3).cons r).trans hp.symm
end
end PP.SZ
namespace PP.SZ
open Lean.Grind
section
variable {A : Type} [CommRing A]
def evL (x : A) : List A → A
  | [] => 0
  | c :: cs => c + x * evL x cs
def dvL (x0 : A) : List A → List A
  | [] => []
  | c :: cs => evL x0 (c :: cs) :: dvL x0 cs
theorem dvL_length (x0 : A) : ∀ cs : List A, (dvL x0 cs).length = cs.length
  | [] => rfl
  | c :: cs => by show (dvL x0 cs).length + 1 = _; rw [dvL_length x0 cs]; rfl
theorem dvL_ok (x x0 : A) : ∀ cs : List A, x * evL x cs - x0 * evL x0 cs = (x - x0) * evL x (dvL x0 cs)
  | [] => by show x * 0 - x0 * 0 = (x - x0) * 0; grind
  | c :: cs => by
    have ih := dvL_ok x x0 cs
    show x * (c + x * evL x cs) - x0 * (c + x0 * evL x0 cs) = (x - x0) * ((c + x0 * evL x0 cs) + x * evL x (dvL x0 cs))
    grind
theorem evL_zero (x : A) : ∀ {cs : List A}, (∀ c ∈ cs, c = 0) → evL x cs = 0
  | [], _ => rfl
  | c :: cs, h => by
    show c + x * evL x cs = 0
    rw [h c List.mem_cons_self, evL_zero x fun c hc => h c (List.mem_cons_of_mem _ hc)]
    grind
theorem dvL_zero (x0 : A) : ∀ {cs : List A}, (∀ c ∈ dvL x0 cs, c = 0) → ∀ c ∈ cs, c = 0
  | [], _ => by simp
  | c :: cs, h => by
    have ih := dvL_zero x0 (cs := cs) fun c hc => h c (List.mem_cons_of_mem _ hc)
    have e : c + x0 * evL x0 cs = 0 := h _ List.mem_cons_self
    rw [evL_zero x0 ih] at e
    intro c' hc'
    rcases List.mem_cons.mp hc' with q | q
    · subst q; grind
    · exact ih c' q
theorem roots_lt (nzd : ∀ x y : A, x * y = 0 → x = 0 ∨ y = 0) : ∀ (n : Nat) (cs : List A) (L : List A), cs.length = n → L.Nodup → (∃ c ∈ cs, c ≠ 0) → (∀ x ∈ L, evL x cs = 0) → L.length < n
  | 0, cs, L, hl, _, ⟨c, hc, _⟩, _ => by
    cases cs with
    | nil => simp at hc
    | cons => simp at hl
  | n + 1, cs, L, hl, hL, hn, hr => by
    cases L with
    | nil => exact Nat.succ_pos _
    | cons x0 L =>
      cases cs with
      | nil => simp at hl
      | cons c cs =>
        have e0 : c + x0 * evL x0 cs = 0 := hr x0 List.mem_cons_self
        rw [List.nodup_cons] at hL
        have := roots_lt nzd n (dvL x0 cs) L (by rw [dvL_length]; simpa using hl) hL.2 ?_ ?_
        · rw [List.length_cons]; omega
        · apply Classical.byContradiction
          intro h
          have hz : ∀ c ∈ dvL x0 cs, c = 0 := fun c hc => Classical.byContradiction fun q => h ⟨c, hc, q⟩
          have hz2 := dvL_zero x0 hz
          rw [evL_zero x0 hz2] at e0
          obtain ⟨c', hc', hn'⟩ := hn
          rcases List.mem_cons.mp hc' with q | q
          · subst q; apply hn'; grind
          · exact hn' (hz2 c' q)
        · intro x hx
          have e1 : c + x * evL x cs = 0 := hr x (List.mem_cons_of_mem _ hx)
          have e2 := dvL_ok x x0 cs
          have e3 : (x - x0) * evL x (dvL x0 cs) = 0 := by rw [← e2]; grind
          rcases nzd _ _ e3 with q | q
          · exfalso
            apply hL.1
            have : x = x0 := by grind
            rw [← this]
            exact hx
          · exact q
def sm (a : A) (f : Int → A) : Nat → A
  | 0 => 0
  | n + 1 => sm a f n + f n * a ^ n
theorem evL_append (x : A) : ∀ (cs : List A) (c : A), evL x (cs ++ [c]) = evL x cs + c * x ^ cs.length
  | [], c => by show c + x * 0 = 0 + c * x ^ 0; grind
  | d :: cs, c => by
    show d + x * evL x (cs ++ [c]) = d + x * evL x cs + c * x ^ (cs.length + 1)
    rw [evL_append x cs c]
    grind
theorem sm_evL (a : A) (f : Int → A) : ∀ n : Nat, sm a f n = evL a ((List.range n).map fun i => f (i : Nat))
  | 0 => rfl
  | n + 1 => by
    rw [List.range_succ, List.map_append, List.map_cons, List.map_nil, evL_append, List.length_map, List.length_range, ← sm_evL a f n]
    rfl
theorem sm_shift (a : A) (f : Int → A) (h : f (-1) = 0) : ∀ n : Nat, sm a (fun i => f (i - 1)) (n + 1) = a * sm a f n
  | 0 => by
    show 0 + f (((0 : Nat) : Int) - 1) * a ^ 0 = a * 0
    have : ((0 : Nat) : Int) - 1 = -1 := by omega
    rw [this, h]
    grind
  | n + 1 => by
    show sm a (fun i => f (i - 1)) (n + 1) + f (((n + 1 : Nat) : Int) - 1) * a ^ (n + 1) = a * (sm a f n + f n * a ^ n)
    have : ((n + 1 : Nat) : Int) - 1 = n := by omega
    rw [this, sm_shift a f h n]
    grind
theorem sm_add (a : A) (f g : Int → A) : ∀ n : Nat, sm a (fun i => f i + g i) n = sm a f n + sm a g n
  | 0 => by show (0 : A) = 0 + 0; grind
  | n + 1 => by
    show sm a (fun i => f i + g i) n + (f n + g n) * a ^ n = (sm a f n + f n * a ^ n) + (sm a g n + g n * a ^ n)
    rw [sm_add a f g n]
    grind
theorem sm_sub (a : A) (f g : Int → A) : ∀ n : Nat, sm a (fun i => f i - g i) n = sm a f n - sm a g n
  | 0 => by show (0 : A) = 0 - 0; grind
  | n + 1 => by
    show sm a (fun i => f i - g i) n + (f n - g n) * a ^ n = (sm a f n + f n * a ^ n) - (sm a g n + g n * a ^ n)
    rw [sm_sub a f g n]
    grind
theorem sm_mul (a c : A) (f : Int → A) : ∀ n : Nat, sm a (fun i => c * f i) n = c * sm a f n
  | 0 => by show (0 : A) = c * 0; grind
  | n + 1 => by
    show sm a (fun i => c * f i) n + (c * f n) * a ^ n = c * (sm a f n + f n * a ^ n)
    rw [sm_mul a c f n]
    grind
theorem sm_congr {a : A} {f g : Int → A} : ∀ {n : Nat}, (∀ i : Nat, i < n → f i = g i) → sm a f n = sm a g n
  | 0, _ => rfl
  | n + 1, h => by
    show sm a f n + f n * a ^ n = sm a g n + g n * a ^ n
    rw [h n (Nat.lt_succ_self n), sm_congr fun i hi => h i (by omega)]
theorem sm_cut {a : A} {f : Int → A} {n : Nat} : ∀ (k : Nat), (∀ i : Nat, n ≤ i → f i = 0) → sm a f (n + k) = sm a f n
  | 0, _ => rfl
  | k + 1, h => by
    show sm a f (n + k) + f ((n + k : Nat) : Int) * a ^ (n + k) = _
    rw [h (n + k) (by omega), sm_cut k h]
    grind
theorem sm_zero {a : A} {f : Int → A} {n : Nat} (h : ∀ i : Nat, i < n → f i = 0) : sm a f n = 0 := by
  induction n with
  | zero => rfl
  | succ n ih =>
    show sm a f n + f n * a ^ n = 0
    rw [ih fun i hi => h i (by omega), h n (by omega)]
    grind
def rowAt (r : R3 A) (a : A) : A := r.1 + r.2.1 * a + r.2.2 * a * a
def hallA (a b : A) : List (R3 A) → A
  | [] => 1
  | r :: rs => (b - rowAt r a) * hallA a b rs
def ev2 (a b : A) (F : Ser A) (m n : Nat) : A := sm b (fun k => sm a (F k) n) m
theorem supp2 (rs : List (R3 A)) (k n : Int) (h : k < 0 ∨ n < 0 ∨ (rs.length : Int) < k ∨ 2 * (rs.length - k) < n) : prodS rs k n = 0 := prodS_supp 2 (by omega) (by omega) rs (fun s _ => ⟨fun z => by omega, fun z => by omega⟩) k n h
theorem ev2_prod (a b : A) : ∀ (rs : List (R3 A)) (m n : Nat), rs.length < m → 2 * rs.length < n → ev2 a b (prodS rs) m n = hallA a b rs
  | [], m, n, hm, hn => by
    obtain ⟨m, rfl⟩ : ∃ m', m = 1 + m' := ⟨m - 1, by simp at hm; omega⟩
    obtain ⟨n, rfl⟩ : ∃ n', n = 1 + n' := ⟨n - 1, by simp at hn; omega⟩
    unfold ev2
    rw [sm_cut m fun i hi => sm_zero fun j _ => if_neg (by omega)]
    show 0 + sm a (prodS [] ((0 : Nat) : Int)) (1 + n) * b ^ 0 = 1
    rw [sm_cut n fun i hi => if_neg (by omega)]
    show 0 + (0 + (if (((0 : Nat) : Int) = 0 ∧ ((0 : Nat) : Int) = 0) then (1 : A) else 0) * a ^ 0) * b ^ 0 = 1
    rw [if_pos ⟨rfl, rfl⟩]
    grind
  | r :: rs, m, n, hm, hn => by
    rw [List.length_cons] at hm hn
    obtain ⟨m, rfl⟩ : ∃ m', m = m' + 1 := ⟨m - 1, by omega⟩
    obtain ⟨n, rfl⟩ : ∃ n', n = n' + 2 := ⟨n - 2, by omega⟩
    have ih := ev2_prod a b rs m n (by omega) (by omega)
    have ih2 : ev2 a b (prodS rs) (m + 1) (n + 2) = hallA a b rs := ev2_prod a b rs (m + 1) (n + 2) (by omega) (by omega)
    have inner : ∀ k : Int, sm a (fun i => prodS rs (k - 1) i - r.1 * prodS rs k i - r.2.1 * prodS rs k (i - 1) - r.2.2 * prodS rs k (i - 2)) (n + 2) = sm a (prodS rs (k - 1)) (n + 2) - rowAt r a * sm a (prodS rs k) (n + 2) := by
      intro k
      have e1 : sm a (fun i => prodS rs k (i - 1)) (n + 2) = a * sm a (prodS rs k) (n + 2) := by
        rw [sm_shift a (prodS rs k) (supp2 rs _ _ (by omega)) (n + 1)]
        rw [show sm a (prodS rs k) (n + 2) = sm a (prodS rs k) (n + 1) from sm_cut 1 fun i hi => supp2 rs _ _ (by omega)]
      have e2 : sm a (fun i => prodS rs k (i - 2)) (n + 2) = a * a * sm a (prodS rs k) (n + 2) := by
        have e : (fun i => prodS rs k (i - 2)) = fun i => (fun i => prodS rs k (i - 1)) (i - 1) := by
          funext i
          show _ = prodS rs k (i - 1 - 1)
          have : i - 1 - 1 = i - 2 := by omega
          rw [this]
        rw [e, sm_shift a (fun i => prodS rs k (i - 1)) (supp2 rs _ _ (by omega)) (n + 1), sm_shift a (prodS rs k) (supp2 rs _ _ (by omega)) n]
        rw [show sm a (prodS rs k) (n + 2) = sm a (prodS rs k) n from sm_cut 2 fun i hi => supp2 rs _ _ (by omega)]
        grind
      rw [sm_sub a (fun i => prodS rs (k - 1) i - r.1 * prodS rs k i - r.2.1 * prodS rs k (i - 1)) (fun i => r.2.2 * prodS rs k (i - 2)), sm_sub a (fun i => prodS rs (k - 1) i - r.1 * prodS rs k i) (fun i => r.2.1 * prodS rs k (i - 1)), sm_sub a (prodS rs (k - 1)) (fun i => r.1 * prodS rs k i), sm_mul, sm_mul a r.2.1 (fun i => prodS rs k (i - 1)), sm_mul a r.2.2 (fun i => prodS rs k (i - 2)), e1, e2]
      unfold rowAt
      grind
    show sm b (fun k => sm a (fun i => prodS rs (k - 1) i - r.1 * prodS rs k i - r.2.1 * prodS rs k (i - 1) - r.2.2 * prodS rs k (i - 2)) (n + 2)) (m + 1) = (b - rowAt r a) * hallA a b rs
    rw [show (fun k => sm a (fun i => prodS rs (k - 1) i - r.1 * prodS rs k i - r.2.1 * prodS rs k (i - 1) - r.2.2 * prodS rs k (i - 2)) (n + 2)) = fun k => sm a (prodS rs (k - 1)) (n + 2) - rowAt r a * sm a (prodS rs k) (n + 2) from funext inner]
    rw [sm_sub b (fun k => sm a (prodS rs (k - 1)) (n + 2)) (fun k => rowAt r a * sm a (prodS rs k) (n + 2)), sm_mul b (rowAt r a) (fun k => sm a (prodS rs k) (n + 2))]
    rw [sm_shift b (fun k => sm a (prodS rs k) (n + 2)) (sm_zero fun i _ => supp2 rs _ _ (by omega)) m]
    have e3 : sm b (fun k => sm a (prodS rs k) (n + 2)) m = hallA a b rs := ev2_prod a b rs m (n + 2) (by omega) (by omega)
    have e4 : sm b (fun k => sm a (prodS rs k) (n + 2)) (m + 1) = hallA a b rs := ih2
    rw [e3, e4]
    grind
theorem sum_le (f g : α → Nat) : ∀ (l : List α), (∀ x ∈ l, f x ≤ g x) → (l.map f).sum ≤ (l.map g).sum
  | [], _ => Nat.le_refl _
  | x :: l, h => by
    rw [List.map_cons, List.map_cons, List.sum_cons, List.sum_cons]
    exact Nat.add_le_add (h x List.mem_cons_self) (sum_le f g l fun y hy => h y (List.mem_cons_of_mem _ hy))
theorem sum_ite (K p : Nat) (q : α → Bool) : ∀ l : List α, (l.map fun x => K + if q x then p else 0).sum = K * l.length + p * l.countP q
  | [] => rfl
  | x :: l => by
    rw [List.map_cons, List.sum_cons, sum_ite K p q l, List.length_cons, List.countP_cons, Nat.mul_succ]
    split
    · rw [Nat.mul_succ]; omega
    · rw [Nat.add_zero, Nat.add_zero]; omega
theorem countP_roots (nzd : ∀ x y : A, x * y = 0 → x = 0 ∨ y = 0) [DecidableEq A] {E : List A} (hE : E.Nodup) {f : Int → A} {n : Nat} (h : ∃ i : Nat, i ≤ n ∧ f i ≠ 0) : E.countP (fun x => decide (sm x f (n + 1) = 0)) ≤ n := by
  rw [List.countP_eq_length_filter]
  have := roots_lt nzd (n + 1) ((List.range (n + 1)).map fun i => f (i : Nat)) (E.filter fun x => decide (sm x f (n + 1) = 0)) (by simp) (hE.sublist List.filter_sublist) ?_ ?_
  · omega
  · obtain ⟨i, h1, h2⟩ := h
    exact ⟨f i, List.mem_map.mpr ⟨i, List.mem_range.mpr (by omega), rfl⟩, h2⟩
  · intro x hx
    rw [List.mem_filter] at hx
    rw [← sm_evL]
    exact _root_.of_decide_eq_true hx.2
theorem sz (nzd : ∀ x y : A, x * y = 0 → x = 0 ∨ y = 0) (one : (1 : A) ≠ 0) [DecidableEq A] {E : List A} (hE : E.Nodup) {d : Nat} (hd : d = 1 ∨ d = 2) {rs ss : List (R3 A)} (hl : rs.length = ss.length) (hr : d = 1 → ∀ r ∈ rs, r.2.2 = 0) (hs : d = 1 → ∀ r ∈ ss, r.2.2 = 0) (hne : ¬ rs.Perm ss) :
    (E.map fun a => E.countP fun b => decide (hallA a b rs = hallA a b ss)).sum ≤ E.length * (rs.length * d) := by
  have sp : ∀ (l : List (R3 A)), (d = 1 → ∀ r ∈ l, r.2.2 = 0) → ∀ k n, (k < 0 ∨ n < 0 ∨ (l.length : Int) < k ∨ (d : Int) * (l.length - k) < n) → prodS l k n = 0 := fun l h k n q => prodS_supp d (by omega) (by omega) l (fun r hm => ⟨fun z => by omega, fun z => h (by omega) r hm⟩) k n q
  let D : Ser A := fun k n => prodS rs k n - prodS ss k n
  have hD : ∀ k n, (k < 0 ∨ n < 0 ∨ (rs.length : Int) < k ∨ (d : Int) * (rs.length - k) < n) → D k n = 0 := by
    intro k n q
    show prodS rs k n - prodS ss k n = 0
    rw [sp rs hr k n q, sp ss hs k n (by rw [← hl]; exact q)]
    grind
  have hex : ∃ k n, D k n ≠ 0 := by
    apply Classical.byContradiction
    intro h
    apply hne
    apply prodS_inj nzd one rs ss hl
    funext k n
    have : D k n = 0 := Classical.byContradiction fun q => h ⟨k, n, q⟩
    have e : prodS rs k n - prodS ss k n = 0 := this
    grind
  have htop : ∃ K : Nat, K ≤ rs.length ∧ (∃ n, D K n ≠ 0) ∧ ∀ k : Int, (K : Int) < k → ∀ n, D k n = 0 := by
    have key : ∀ (N : Nat), N ≤ rs.length → (∀ k : Int, (N : Int) < k → ∀ n, D k n = 0) → ∃ K : Nat, K ≤ rs.length ∧ (∃ n, D K n ≠ 0) ∧ ∀ k : Int, (K : Int) < k → ∀ n, D k n = 0 := by
      intro N
      induction N with
      | zero =>
        intro hN hz
        obtain ⟨k, n, h⟩ := hex
        have : k = 0 := by
          apply Classical.byContradiction
          intro q
          by_cases q2 : k < 0
          · exact h (hD k n (.inl q2))
          · exact h (hz k (by omega) n)
        subst this
        exact ⟨0, hN, ⟨n, h⟩, hz⟩
      | succ N ih =>
        intro hN hz
        by_cases q : ∃ n, D ((N + 1 : Nat) : Int) n ≠ 0
        · exact ⟨N + 1, hN, q, hz⟩
        · refine ih (by omega) fun k hk n => ?_
          by_cases q2 : k = ((N + 1 : Nat) : Int)
          · subst q2
            exact Classical.byContradiction fun q3 => q ⟨n, q3⟩
          · exact hz k (by omega) n
    exact key rs.length (Nat.le_refl _) fun k hk n => hD k n (.inr (.inr (.inl hk)))
  obtain ⟨K, hK, ⟨n0, hn0⟩, hup⟩ := htop
  have hn0' : 0 ≤ n0 ∧ n0 ≤ (d : Int) * (rs.length - K) := by
    constructor
    · exact Classical.byContradiction fun q => hn0 (hD _ _ (.inr (.inl (by omega))))
    · exact Classical.byContradiction fun q => hn0 (hD _ _ (.inr (.inr (.inr (by omega)))))
  let L : Nat := d * (rs.length - K)
  have hLi : (L : Int) = (d : Int) * (rs.length - K) := by
    show ((d * (rs.length - K) : Nat) : Int) = _
    rw [Int.natCast_mul, Int.natCast_sub hK]
  let N : Nat := 2 * rs.length + 1
  have hev : ∀ a b, hallA a b rs - hallA a b ss = sm b (fun k => sm a (D k) N) (K + 1) := by
    intro a b
    rw [← ev2_prod a b rs (rs.length + 1) N (by omega) (by omega), ← ev2_prod a b ss (rs.length + 1) N (by omega) (by omega)]
    unfold ev2
    rw [← sm_sub]
    have e : (fun k => sm a (prodS rs k) N - sm a (prodS ss k) N) = fun k => sm a (D k) N := by
      funext k
      rw [← sm_sub]
    rw [e]
    obtain ⟨j, hj⟩ : ∃ j, rs.length + 1 = K + 1 + j := ⟨rs.length - K, by omega⟩
    rw [hj, sm_cut j fun i hi => sm_zero fun n _ => hup i (by omega) n]
  have hL : ∀ a, sm a (D K) N = sm a (D K) (L + 1) := by
    intro a
    have : L + 1 ≤ N := by
      show d * (rs.length - K) + 1 ≤ 2 * rs.length + 1
      rcases hd with e | e <;> subst e <;> omega
    obtain ⟨j, hj⟩ : ∃ j, N = L + 1 + j := ⟨N - (L + 1), by omega⟩
    rw [hj, sm_cut j fun i hi => hD _ _ (.inr (.inr (.inr (by rw [← hLi]; omega))))]
  have hA : E.countP (fun a => decide (sm a (D K) (L + 1) = 0)) ≤ L := countP_roots nzd hE ⟨n0.toNat, by omega, by
    have : ((n0.toNat : Nat) : Int) = n0 := by omega
    rw [this]; exact hn0⟩
  have hB : ∀ a ∈ E, E.countP (fun b => decide (hallA a b rs = hallA a b ss)) ≤ K + if decide (sm a (D K) (L + 1) = 0) then E.length else 0 := by
    intro a _
    split
    · exact Nat.le_trans List.countP_le_length (by omega)
    · rename_i q
      rw [Nat.add_zero]
      refine Nat.le_trans (Nat.le_of_eq ?_) (countP_roots nzd hE (f := fun k => sm a (D k) N) (n := K) ⟨K, Nat.le_refl _, ?_⟩)
      · apply List.countP_congr
        intro b _
        have := hev a b
        constructor
        · intro h
          have h := _root_.of_decide_eq_true h
          apply _root_.decide_eq_true
          rw [← this, h]
          grind
        · intro h
          have h := _root_.of_decide_eq_true h
          apply _root_.decide_eq_true
          rw [h] at this
          grind
      · show sm a (D K) N ≠ 0
        rw [hL]
        exact fun z => q (_root_.decide_eq_true z)
  refine Nat.le_trans (sum_le _ _ E hB) ?_
  rw [sum_ite]
  have h1 : K * E.length + E.length * E.countP (fun a => decide (sm a (D K) (L + 1) = 0)) ≤ E.length * (K + L) := by
    rw [Nat.mul_add, Nat.mul_comm K]
    exact Nat.add_le_add_left (Nat.mul_le_mul_left _ hA) _
  refine Nat.le_trans h1 (Nat.mul_le_mul_left _ ?_)
  show K + d * (rs.length - K) ≤ rs.length * d
  rcases hd with e | e <;> subst e <;> omega
end
end PP.SZ
namespace PP.SZ
open Lean.Grind
def ph (p : Nat) [NeZero p] (x : Int) : Fin p := ⟨(x % p).toNat, by
  have h : 0 < p := Nat.pos_of_ne_zero (NeZero.ne p)
  have := Int.emod_lt_of_pos x (b := p) (by omega)
  have := Int.emod_nonneg x (b := p) (by omega)
  omega⟩
section
variable {p : Nat} [NeZero p]
theorem ppos : 0 < p := Nat.pos_of_ne_zero (NeZero.ne p)
theorem ph_val (x : Int) : (((ph p x).val : Nat) : Int) = x % p := by
  show (((x % p).toNat : Nat) : Int) = x % p
  have h : 0 < p := ppos
  have := Int.emod_nonneg x (b := p) (by omega)
  omega
theorem ph_eq {x y : Int} (h : x % p = y % p) : ph p x = ph p y := by
  apply Fin.ext
  show (x % p).toNat = (y % p).toNat
  rw [h]
theorem ph_inj {x y : Int} (h : ph p x = ph p y) : x % p = y % p := by
  rw [← ph_val (p := p) x, ← ph_val (p := p) y, h]
theorem ph_mod (x : Int) : ph p (x % p) = ph p x := ph_eq (by rw [Int.emod_emod_of_dvd _ (Int.dvd_refl _)])
theorem ph_small {x y : Int} (hx : 0 ≤ x ∧ x < p) (hy : 0 ≤ y ∧ y < p) (h : ph p x = ph p y) : x = y := by
  have := ph_inj h
  rw [Int.emod_eq_of_lt hx.1 hx.2, Int.emod_eq_of_lt hy.1 hy.2] at this
  exact this
theorem ph_add (x y : Int) : ph p (x + y) = ph p x + ph p y := by
  apply Fin.ext
  rw [Fin.val_add]
  have : (((ph p (x + y)).val : Nat) : Int) = ((((ph p x).val + (ph p y).val) % p : Nat) : Int) := by
    rw [ph_val, Int.natCast_emod, Int.natCast_add, ph_val, ph_val, ← Int.add_emod]
  exact Int.ofNat.inj this
theorem ph_mul (x y : Int) : ph p (x * y) = ph p x * ph p y := by
  apply Fin.ext
  rw [Fin.val_mul]
  have : (((ph p (x * y)).val : Nat) : Int) = ((((ph p x).val * (ph p y).val) % p : Nat) : Int) := by
    rw [ph_val, Int.natCast_emod, Int.natCast_mul, ph_val, ph_val, ← Int.mul_emod]
  exact Int.ofNat.inj this
theorem ph_zero : ph p 0 = 0 := by
  apply Fin.ext
  have : (((ph p 0).val : Nat) : Int) = 0 := by rw [ph_val]; exact Int.zero_emod _
  have h0 : ((0 : Fin p).val) = 0 := by simp
  rw [h0]
  exact Int.ofNat.inj this
theorem ph_neg (x : Int) : ph p (-x) = - ph p x := by
  have h : ph p (-x) + ph p x = 0 := by rw [← ph_add, Int.add_left_neg, ph_zero]
  grind
theorem ph_sub (x y : Int) : ph p (x - y) = ph p x - ph p y := by
  rw [Int.sub_eq_add_neg, ph_add, ph_neg]
  grind
theorem ph_one : ph p 1 = 1 := by
  apply Fin.ext
  have e : (((ph p 1).val : Nat) : Int) = ((1 % p : Nat) : Int) := by rw [ph_val]; rfl
  have h0 : ((1 : Fin p).val) = 1 % p := rfl
  rw [h0]
  exact Int.ofNat.inj e
def mixI (p : Int) (a : Int) : List Int → Int
  | [] => 0
  | n :: ns => (mixI p a ns * a + n) % p
def lmixI (p a : Int) (f w : Int) : List Int → Int
  | [] => f
  | n :: ns => lmixI p a ((f + n * w) % p) (w * a % p) ns
theorem mixI_range {p : Int} (hp : 0 < p) (a : Int) : ∀ ns, 0 ≤ mixI p a ns ∧ mixI p a ns < p
  | [] => ⟨Int.le_refl _, hp⟩
  | n :: ns => ⟨Int.emod_nonneg _ (by omega), Int.emod_lt_of_pos _ hp⟩
theorem lmixI_range {p : Int} (hp : 0 < p) (a : Int) : ∀ ns f w, 0 ≤ f ∧ f < p → 0 ≤ lmixI p a f w ns ∧ lmixI p a f w ns < p
  | [], f, w, h => h
  | n :: ns, f, w, _ => lmixI_range hp a ns _ _ ⟨Int.emod_nonneg _ (by omega), Int.emod_lt_of_pos _ hp⟩
theorem lmixI_ph (a : Int) : ∀ (ns : List Int) (f w : Int), ph p (lmixI p a f w ns) = ph p f + ph p w * ph p (mixI p a ns)
  | [], f, w => by
    show ph p f = ph p f + ph p w * ph p 0
    rw [ph_zero]
    grind
  | n :: ns, f, w => by
    show ph p (lmixI p a ((f + n * w) % p) (w * a % p) ns) = ph p f + ph p w * ph p ((mixI p a ns * a + n) % p)
    rw [lmixI_ph a ns, ph_mod, ph_mod, ph_mod, ph_add, ph_mul, ph_mul, ph_add, ph_mul]
    grind
theorem lmixI_eq (a : Int) (ns : List Int) : lmixI p a 0 1 ns = mixI p a ns := by
  have hp : (0 : Int) < p := by have := ppos (p := p); omega
  refine ph_small (lmixI_range hp a ns 0 1 ⟨Int.le_refl _, hp⟩) (mixI_range hp a ns) ?_
  rw [lmixI_ph, ph_zero, ph_one]
  grind
def hallI (p a b : Int) (f : Int) : List (List Int) → Int
  | [] => f
  | r :: rs => hallI p a b (f * (b - mixI p a r) % p) rs
theorem hallI_range {p : Int} (hp : 0 < p) (a b : Int) : ∀ rs f, 0 ≤ f ∧ f < p → 0 ≤ hallI p a b f rs ∧ hallI p a b f rs < p
  | [], f, h => h
  | r :: rs, f, _ => hallI_range hp a b rs _ ⟨Int.emod_nonneg _ (by omega), Int.emod_lt_of_pos _ hp⟩
def r3 (p : Nat) [NeZero p] : List Int → R3 (Fin p)
  | [] => (0, 0, 0)
  | [x] => (ph p x, 0, 0)
  | [x, y] => (ph p x, ph p y, 0)
  | x :: y :: z :: _ => (ph p x, ph p y, ph p z)
theorem r3_at (a : Int) : ∀ (r : List Int), r.length ≤ 3 → ph p (mixI p a r) = rowAt (r3 p r) (ph p a)
  | [], _ => by show ph p 0 = 0 + 0 * ph p a + 0 * ph p a * ph p a; rw [ph_zero]; grind
  | [x], _ => by
    show ph p ((0 * a + x) % p) = ph p x + 0 * ph p a + 0 * ph p a * ph p a
    rw [ph_mod, ph_add, ph_mul, ph_zero]
    grind
  | [x, y], _ => by
    show ph p (((0 * a + y) % p * a + x) % p) = ph p x + ph p y * ph p a + 0 * ph p a * ph p a
    rw [ph_mod, ph_add, ph_mul, ph_mod, ph_add, ph_mul, ph_zero]
    grind
  | [x, y, z], _ => by
    show ph p ((((0 * a + z) % p * a + y) % p * a + x) % p) = ph p x + ph p y * ph p a + ph p z * ph p a * ph p a
    rw [ph_mod, ph_add, ph_mul, ph_mod, ph_add, ph_mul, ph_mod, ph_add, ph_mul, ph_zero]
    grind
  | x :: y :: z :: u :: r, h => by simp at h
theorem hallI_ph (a b : Int) : ∀ (rs : List (List Int)) (f : Int), (∀ r ∈ rs, r.length ≤ 3) → ph p (hallI p a b f rs) = ph p f * hallA (ph p a) (ph p b) (rs.map (r3 p))
  | [], f, _ => by show ph p f = ph p f * 1; grind
  | r :: rs, f, h => by
    show ph p (hallI p a b (f * (b - mixI p a r) % p) rs) = ph p f * ((ph p b - rowAt (r3 p r) (ph p a)) * hallA (ph p a) (ph p b) (rs.map (r3 p)))
    rw [hallI_ph a b rs _ fun s hs => h s (List.mem_cons_of_mem _ hs), ph_mod, ph_mul, ph_sub, r3_at a r (h r List.mem_cons_self)]
    grind
theorem hallI_eq {a b : Int} {rs ss : List (List Int)} (hp1 : 1 < p) (hr : ∀ r ∈ rs, r.length ≤ 3) (hs : ∀ r ∈ ss, r.length ≤ 3) : hallI p a b 1 rs = hallI p a b 1 ss ↔ hallA (ph p a) (ph p b) (rs.map (r3 p)) = hallA (ph p a) (ph p b) (ss.map (r3 p)) := by
  have hp : (0 : Int) < p := by omega
  have h1 := hallI_ph (p := p) a b rs 1 hr
  have h2 := hallI_ph (p := p) a b ss 1 hs
  rw [ph_one] at h1 h2
  constructor
  · intro h
    rw [h] at h1
    grind
  · intro h
    rw [h] at h1
    exact ph_small (hallI_range hp a b rs 1 (by omega)) (hallI_range hp a b ss 1 (by omega)) (by rw [h1, h2])
def un3 (w : Nat) (r : R3 (Fin p)) : List Int := [((r.1.val : Nat) : Int), ((r.2.1.val : Nat) : Int), ((r.2.2.val : Nat) : Int)].take w
theorem un3_r3 {w : Nat} (hw : w ≤ 3) : ∀ {r : List Int}, r.length = w → (∀ x ∈ r, 0 ≤ x ∧ x < p) → un3 w (r3 p r) = r
  | [], h, _ => by subst h; rfl
  | [x], h, hx => by
    subst h
    show [(((ph p x).val : Nat) : Int)] = _
    rw [ph_val, Int.emod_eq_of_lt (hx x (by simp)).1 (hx x (by simp)).2]
  | [x, y], h, hx => by
    subst h
    show [(((ph p x).val : Nat) : Int), (((ph p y).val : Nat) : Int)] = _
    rw [ph_val, ph_val, Int.emod_eq_of_lt (hx x (by simp)).1 (hx x (by simp)).2, Int.emod_eq_of_lt (hx y (by simp)).1 (hx y (by simp)).2]
  | [x, y, z], h, hx => by
    subst h
    show [(((ph p x).val : Nat) : Int), (((ph p y).val : Nat) : Int), (((ph p z).val : Nat) : Int)] = _
    rw [ph_val, ph_val, ph_val, Int.emod_eq_of_lt (hx x (by simp)).1 (hx x (by simp)).2, Int.emod_eq_of_lt (hx y (by simp)).1 (hx y (by simp)).2, Int.emod_eq_of_lt (hx z (by simp)).1 (hx z (by simp)).2]
  | x :: y :: z :: u :: r, h, _ => by simp at h; omega
theorem hallI_perm {a b : Int} {rs ss : List (List Int)} (h : rs.Perm ss) : ∀ f, hallI p a b f rs = hallI p a b f ss := by
  induction h with
  | nil => exact fun _ => rfl
  | cons r _ ih => exact fun f => ih _
  | swap r s l =>
    intro f
    show hallI p a b (f * (b - mixI p a s) % p * (b - mixI p a r) % p) l = hallI p a b (f * (b - mixI p a r) % p * (b - mixI p a s) % p) l
    have : f * (b - mixI p a s) % p * (b - mixI p a r) % p = f * (b - mixI p a r) % p * (b - mixI p a s) % p := by
      have e : ∀ x y : Int, x % p * y % p = x * y % p := fun x y => by rw [Int.mul_emod, Int.emod_emod_of_dvd _ (Int.dvd_refl _), ← Int.mul_emod]
      rw [e, e]
      congr 1
      grind
    rw [this]
  | trans _ _ h1 h2 => exact fun f => (h1 f).trans (h2 f)
theorem halls_few (hp1 : 1 < p) (nzd : ∀ x y : Fin p, x * y = 0 → x = 0 ∨ y = 0) {w : Nat} (hw : w ≤ 3) {rs ss : List (List Int)} (hl : rs.length = ss.length) (hr : ∀ r ∈ rs, r.length = w ∧ ∀ x ∈ r, 0 ≤ x ∧ x < p) (hs : ∀ r ∈ ss, r.length = w ∧ ∀ x ∈ r, 0 ≤ x ∧ x < p) (hne : ¬ rs.Perm ss) :
    ((List.range p).map fun a => (List.range p).countP fun b => decide (hallI p (a : Nat) (b : Nat) 1 rs = hallI p (a : Nat) (b : Nat) 1 ss)).sum ≤ p * (rs.length * max 1 (w - 1)) := by
  have one : (1 : Fin p) ≠ 0 := by
    intro h
    have := congrArg Fin.val h
    have h1 : ((1 : Fin p).val) = 1 % p := rfl
    have h0 : ((0 : Fin p).val) = 0 := by simp
    rw [h1, h0, Nat.mod_eq_of_lt hp1] at this
    cases this
  let E : List (Fin p) := (List.range p).map fun a => ph p (a : Nat)
  have hE : E.Nodup := by
    refine List.pairwise_map.mpr ((List.pairwise_lt_range).imp_of_mem ?_)
    intro a b ha hb hab h
    rw [List.mem_range] at ha hb
    have := ph_small (p := p) (x := (a : Nat)) (y := (b : Nat)) (by omega) (by omega) h
    omega
  have hd : max 1 (w - 1) = 1 ∨ max 1 (w - 1) = 2 := by omega
  have z2 : ∀ (l : List (List Int)), (∀ r ∈ l, r.length = w ∧ ∀ x ∈ r, 0 ≤ x ∧ x < p) → max 1 (w - 1) = 1 → ∀ q ∈ l.map (r3 p), q.2.2 = 0 := by
    intro l hlq hm q hq
    obtain ⟨r, hr1, rfl⟩ := List.mem_map.mp hq
    have := (hlq r hr1).1
    match r, this with
    | [], _ => rfl
    | [x], _ => rfl
    | [x, y], _ => rfl
    | x :: y :: z :: u, h => simp at h; omega
  have hne' : ¬ (rs.map (r3 p)).Perm (ss.map (r3 p)) := by
    intro h
    apply hne
    have h2 := h.map (un3 w)
    rw [List.map_map, List.map_map] at h2
    have e : ∀ (l : List (List Int)), (∀ r ∈ l, r.length = w ∧ ∀ x ∈ r, 0 ≤ x ∧ x < p) → l.map (un3 w ∘ r3 p) = l := by
      intro l hlq
      conv => rhs; rw [← List.map_id l]
      apply List.map_congr_left
      intro r hr1
      exact un3_r3 hw (hlq r hr1).1 (hlq r hr1).2
    rw [e rs hr, e ss hs] at h2
    exact h2
  have key := sz nzd one hE hd (rs := rs.map (r3 p)) (ss := ss.map (r3 p)) (by rw [List.length_map, List.length_map, hl]) (z2 rs hr) (z2 ss hs) hne'
  have e1 : E.length = p := by show (List.map _ _).length = _; simp
  rw [e1, List.length_map] at key
  refine Nat.le_trans (Nat.le_of_eq ?_) key
  show _ = (List.map _ (List.map _ _)).sum
  rw [List.map_map]
  congr 1
  apply List.map_congr_left
  intro a _
  show _ = List.countP _ (List.map _ _)
  rw [List.countP_map]
  apply List.countP_congr
  intro b _
  have := hallI_eq (p := p) (a := (a : Nat)) (b := (b : Nat)) hp1 (rs := rs) (ss := ss) (fun r h => by rw [(hr r h).1]; exact hw) (fun r h => by rw [(hs r h).1]; exact hw)
  simp [this]
end
theorem nzd3 : ∀ x y : Fin 3, x * y = 0 → x = 0 ∨ y = 0 := by decide
theorem nzd5 : ∀ x y : Fin 5, x * y = 0 → x = 0 ∨ y = 0 := by decide
theorem nzd7 : ∀ x y : Fin 7, x * y = 0 → x = 0 ∨ y = 0 := by decide
theorem nzd11 : ∀ x y : Fin 11, x * y = 0 → x = 0 ∨ y = 0 := by decide +kernel
end PP.SZ
namespace PP.SZ
def coinsN (p : Nat) : List (Nat × Nat) := (List.range p).flatMap fun a => (List.range p).map fun b => (a, b)
theorem filter_len_aux (q : Nat → Nat → Bool) (bs : List Nat) : ∀ as : List Nat, ((as.flatMap fun a => bs.map fun b => (a, b)).filter fun c => q c.1 c.2).length = (as.map fun a => bs.countP (q a)).sum
  | [] => rfl
  | a :: as => by
    rw [List.flatMap_cons, List.filter_append, List.length_append, filter_len_aux q bs as, List.map_cons, List.sum_cons, List.filter_map, List.length_map, List.countP_eq_length_filter]
    rfl
theorem coinsN_mem {p a b : Nat} : (a, b) ∈ coinsN p ↔ a < p ∧ b < p := by
  unfold coinsN
  rw [List.mem_flatMap]
  constructor
  · rintro ⟨x, hx, h⟩
    obtain ⟨y, hy, e⟩ := List.mem_map.mp h
    rw [List.mem_range] at hx hy
    injection e with e1 e2
    exact ⟨e1 ▸ hx, e2 ▸ hy⟩
  · rintro ⟨h1, h2⟩
    exact ⟨a, List.mem_range.mpr h1, List.mem_map.mpr ⟨b, List.mem_range.mpr h2, rfl⟩⟩
theorem pairs_few {p : Nat} [NeZero p] (hp1 : 1 < p) (nzd : ∀ x y : Fin p, x * y = 0 → x = 0 ∨ y = 0) {w : Nat} (hw : w ≤ 3) {rs ss : List (List Int)} (hl : rs.length = ss.length) (hr : ∀ r ∈ rs, r.length = w ∧ ∀ x ∈ r, 0 ≤ x ∧ x < p) (hs : ∀ r ∈ ss, r.length = w ∧ ∀ x ∈ r, 0 ≤ x ∧ x < p) (hne : ¬ rs.Perm ss) :
    ((coinsN p).filter fun c => decide (hallI p (c.1 : Nat) (c.2 : Nat) 1 rs = hallI p (c.1 : Nat) (c.2 : Nat) 1 ss)).length ≤ p * (rs.length * max 1 (w - 1)) := by
  have := filter_len_aux (fun a b => decide (hallI p (a : Nat) (b : Nat) 1 rs = hallI p (a : Nat) (b : Nat) 1 ss)) (List.range p) (List.range p)
  unfold coinsN
  rw [this]
  exact halls_few hp1 nzd hw hl hr hs hne
theorem pairs_all {p : Nat} [NeZero p] {rs ss : List (List Int)} (h : rs.Perm ss) : ((coinsN p).filter fun c => decide (hallI p (c.1 : Nat) (c.2 : Nat) 1 rs = hallI p (c.1 : Nat) (c.2 : Nat) 1 ss)) = coinsN p := by
  rw [List.filter_eq_self]
  intro c _
  exact decide_eq_true (hallI_perm h 1)
section
variable {α : Type} [BEq α] [LawfulBEq α]
def lst : List α → List Int → List α
  | t :: ts, c :: cs => List.replicate c.toNat t ++ lst ts cs
  | _, _ => []
theorem lst_mem : ∀ {ts : List α} {cs : List Int} {x : α}, x ∈ lst ts cs → x ∈ ts
  | [], _, x, h => by unfold lst at h; exact h
  | t :: ts, [], x, h => by simp [lst] at h
  | t :: ts, c :: cs, x, h => by
    unfold lst at h
    rw [List.mem_append] at h
    rcases h with h | h
    · exact (List.mem_replicate.mp h).2 ▸ List.mem_cons_self
    · exact List.mem_cons_of_mem _ (lst_mem h)
theorem lst_len : ∀ {ts : List α} {cs : List Int}, cs.length = ts.length → (∀ c ∈ cs, 0 ≤ c) → ((lst ts cs).length : Int) = cs.sum
  | [], [], _, _ => rfl
  | t :: ts, c :: cs, h, hc => by
    have ih := lst_len (ts := ts) (cs := cs) (by simpa using h) (fun c h => hc c (List.mem_cons_of_mem _ h))
    have := hc c List.mem_cons_self
    unfold lst
    rw [List.length_append, List.length_replicate, List.sum_cons]
    omega
theorem lst_le : ∀ {ts : List α} {cs : List Int}, (∀ c ∈ cs, c ≤ 12) → (lst ts cs).length ≤ 12 * ts.length
  | [], cs, _ => by simp [lst]
  | t :: ts, [], _ => by simp [lst]
  | t :: ts, c :: cs, hc => by
    have ih := lst_le (ts := ts) (cs := cs) (fun c h => hc c (List.mem_cons_of_mem _ h))
    have := hc c List.mem_cons_self
    unfold lst
    rw [List.length_append, List.length_replicate, List.length_cons]
    omega
theorem lst_cnt : ∀ {ts : List α} {cs : List Int}, ts.Nodup → cs.length = ts.length → (∀ c ∈ cs, 0 ≤ c) → cs = ts.map fun t => (((lst ts cs).count t : Nat) : Int)
  | [], [], _, _, _ => rfl
  | t :: ts, c :: cs, hn, h, hc => by
    have hn' := List.nodup_cons.mp hn
    have ih := lst_cnt (ts := ts) (cs := cs) hn'.2 (by simpa using h) (fun c h => hc c (List.mem_cons_of_mem _ h))
    have h0 := hc c List.mem_cons_self
    rw [List.map_cons]
    have z : (lst ts cs).count t = 0 := List.count_eq_zero.mpr fun q => hn'.1 (lst_mem q)
    congr 1
    · show c = _
      unfold lst
      rw [List.count_append, List.count_replicate_self, z]
      omega
    · refine ih.trans (List.map_congr_left fun u hu => ?_)
      show _ = (((List.replicate c.toNat t ++ lst ts cs).count u : Nat) : Int)
      rw [List.count_append, List.count_replicate, if_neg (by
        intro e
        have := eq_of_beq e
        exact hn'.1 (this ▸ hu)), Nat.zero_add]
theorem lst_perm {ts rs : List α} {cs : List Int} (hn : ts.Nodup) (h : cs.length = ts.length) (hc : ∀ c ∈ cs, 0 ≤ c) : rs.Perm (lst ts cs) ↔ (∀ r ∈ rs, r ∈ ts) ∧ cs = ts.map fun t => ((rs.count t : Nat) : Int) := by
  have k := lst_cnt hn h hc
  constructor
  · intro q
    refine ⟨fun r hr => lst_mem (q.mem_iff.mp hr), k.trans (List.map_congr_left fun t _ => ?_)⟩
    rw [List.Perm.count_eq q]
  · rintro ⟨q1, q2⟩
    rw [List.perm_iff_count]
    intro r
    by_cases m : r ∈ ts
    · have e := List.map_inj_left.mp (q2.symm.trans k) r m
      exact Int.ofNat.inj e
    · rw [List.count_eq_zero.mpr fun q => m (q1 r q), List.count_eq_zero.mpr fun q => m (lst_mem q)]
end
end PP.SZ
set_option maxRecDepth 100000
namespace PP.B52
open PySem PySem.Spec PyProof.Rows L2 PP
def top (i : Nat) : Stmt := PySem.Challenge.pw_shownunseen_k52_fingerprints_and_halls.main.body.getD i (.Pass ⟨0, 0, 0, 0⟩)
abbrev t_is_prime : Stmt := top 14
abbrev t_are_numbers : Stmt := top 16
abbrev t_mixed : Stmt := top 18
abbrev t_check_rows : Stmt := top 22
abbrev t_check_coins : Stmt := top 23
abbrev t_check_two : Stmt := top 24
abbrev t_fingerprint : Stmt := top 25
abbrev t_hall_told : Stmt := top 26
abbrev t_hall : Stmt := top 27
abbrev t_same_hall : Stmt := top 28
abbrev t_pairs_of : Stmt := top 29
abbrev t_passing : Stmt := top 30
abbrev t_most_passing : Stmt := top 31
abbrev t_check_table : Stmt := top 32
abbrev t_counts_in : Stmt := top 33
abbrev t_shown_told : Stmt := top 34
abbrev t_check_counts : Stmt := top 35
abbrev t_shown_by : Stmt := top 36
abbrev t_passing_counts : Stmt := top 37
abbrev t__law_number : Stmt := top 39
abbrev t__law_draws : Stmt := top 40
abbrev t__law_next : Stmt := top 41
abbrev t__law_more : Stmt := top 42
abbrev t__law_pick : Stmt := top 43
abbrev t__law_flat : Stmt := top 44
abbrev t__law_some : Stmt := top 46
abbrev t__law_mixed : Stmt := top 47
abbrev t__law_asked : Stmt := top 48
abbrev t__law_hall : Stmt := top 49
abbrev t__law_coins : Stmt := top 50
abbrev t__law_shuffled : Stmt := top 51
abbrev t_law : Stmt := top 52
def kNames : List String := ["NotProgram", "NotGates", "NotPoly", "NotTalk", "NotPaper", "BadNumber", "NoAnswer", "TooLarge", "Malformed", "ShowError"]
def kindOf : String → Option Str := fun c => if c = "BadNumber" then some "!number" else if c = "NoAnswer" then some "!none" else none
noncomputable def d_is_prime : Sls → OutS := (retS (andV (bin2 gtD (var 0) (cst (.int 1))) (argsN (arg1 allD) (aCons (asVal (compN [1] (itArgs rng2D (aCons (cst (.int 2)) (aCons (var 0) aNil))) (tgN 1) (asB (bin2 leD (bin2 mulD (var 1) (var 1)) (var 0))) (bin2 modD (var 0) (var 1)))) aNil))))
noncomputable def s_is_prime : List PyData → Rs PyData := runP 2 d_is_prime
noncomputable def d_are_numbers : Sls → OutS := (retS (andV (bin2 eqD (argsN (arg1 lenD) (aCons (var 1) aNil)) (var 2)) (argsN (arg1 allD) (aCons (asVal (compN [3] (itSeq (var 1)) (tgN 3) yesT (chain leD ltD (cst (.int 0)) (var 3) (var 0)))) aNil))))
noncomputable def s_are_numbers : List PyData → Rs PyData := runP 4 d_are_numbers
noncomputable def d_mixed_b0 : Sls → OutS := (setS 3 (bin2 modD (bin2 addD (bin2 mulD (var 3) (var 2)) (var 4)) (var 0)))
noncomputable def d_mixed : Sls → OutS := (seqS (setS 3 (cst (.int 0)))
  (seqS (forS (itSeq (un1 revTD (var 1))) (tgN 4) d_mixed_b0)
  (retS (var 3))))
noncomputable def s_mixed : List PyData → Rs PyData := runP 5 d_mixed
noncomputable def d_check_rows : Sls → OutS := (seqS (ifS (orT (notT (asB (chain leD leD (cst (.int 3)) (var 0) (cst (.int 89))))) (notT (asT (callP (s_is_prime) (aCons (var 0) aNil))))) (raiseS "BadNumber") nxS)
  (seqS (ifS (notT (asB (chain leD leD (cst (.int 1)) (argsN (arg1 lenD) (aCons (var 1) aNil)) (cst (.int 12))))) (raiseS "BadNumber") nxS)
  (seqS (setS 3 (ifE (asT (var 2)) (var 2) (argsN (arg1 lenD) (aCons (bin2 ixD (var 1) (cst (.int 0))) aNil))))
  (ifS (orT (notT (asB (chain leD leD (cst (.int 1)) (var 3) (cst (.int 6))))) (notT (asT (argsN (arg1 allD) (aCons (asVal (compN [4] (itSeq (var 1)) (tgN 4) yesT (callP (s_are_numbers) (aCons (var 0) (aCons (var 4) (aCons (var 3) aNil)))))) aNil))))) (raiseS "BadNumber") nxS))))
noncomputable def s_check_rows : List PyData → Rs PyData := runP 5 d_check_rows
noncomputable def d_check_coins : Sls → OutS := (ifS (notT (asT (callP (s_are_numbers) (aCons (var 0) (aCons (var 1) (aCons (argsN (arg1 lenD) (aCons (var 1) aNil)) aNil)))))) (raiseS "BadNumber") nxS)
noncomputable def s_check_coins : List PyData → Rs PyData := runP 2 d_check_coins
noncomputable def d_check_two : Sls → OutS := (seqS (dropS (callP (s_check_rows) (aCons (var 0) (aCons (var 1) (aCons (cst (.int 0)) aNil)))))
  (seqS (dropS (callP (s_check_rows) (aCons (var 0) (aCons (var 2) (aCons (argsN (arg1 lenD) (aCons (bin2 ixD (var 1) (cst (.int 0))) aNil)) aNil)))))
  (ifS (asB (bin2 neD (argsN (arg1 lenD) (aCons (var 1) aNil)) (argsN (arg1 lenD) (aCons (var 2) aNil)))) (raiseS "BadNumber") nxS)))
noncomputable def s_check_two : List PyData → Rs PyData := runP 3 d_check_two
noncomputable def d_fingerprint : Sls → OutS := (seqS (dropS (callP (s_check_rows) (aCons (var 0) (aCons (dispT (aCons (var 1) aNil)) (aCons (cst (.int 0)) aNil)))))
  (seqS (dropS (callP (s_check_coins) (aCons (var 0) (aCons (dispT (aCons (var 2) aNil)) aNil))))
  (retS (callP (s_mixed) (aCons (var 0) (aCons (var 1) (aCons (var 2) aNil)))))))
noncomputable def s_fingerprint : List PyData → Rs PyData := runP 3 d_fingerprint
noncomputable def d_hall_told_b0 : Sls → OutS := (setS 4 (bin2 modD (bin2 mulD (var 4) (bin2 subD (var 3) (callP (s_mixed) (aCons (var 0) (aCons (var 5) (aCons (var 2) aNil)))))) (var 0)))
noncomputable def d_hall_told : Sls → OutS := (seqS (setS 4 (cst (.int 1)))
  (seqS (forS (itSeq (var 1)) (tgN 5) d_hall_told_b0)
  (retS (var 4))))
noncomputable def s_hall_told : List PyData → Rs PyData := runP 6 d_hall_told
noncomputable def d_hall : Sls → OutS := (seqS (dropS (callP (s_check_rows) (aCons (var 0) (aCons (var 1) (aCons (cst (.int 0)) aNil)))))
  (seqS (dropS (callP (s_check_coins) (aCons (var 0) (aCons (dispT (aCons (var 2) (aCons (var 3) aNil))) aNil))))
  (retS (callP (s_hall_told) (aCons (var 0) (aCons (var 1) (aCons (var 2) (aCons (var 3) aNil))))))))
noncomputable def s_hall : List PyData → Rs PyData := runP 4 d_hall
noncomputable def d_same_hall : Sls → OutS := (seqS (dropS (callP (s_check_two) (aCons (var 0) (aCons (var 1) (aCons (var 2) aNil)))))
  (seqS (dropS (callP (s_check_coins) (aCons (var 0) (aCons (dispT (aCons (var 3) (aCons (var 4) aNil))) aNil))))
  (retS (bin2 eqD (callP (s_hall_told) (aCons (var 0) (aCons (var 1) (aCons (var 3) (aCons (var 4) aNil))))) (callP (s_hall_told) (aCons (var 0) (aCons (var 2) (aCons (var 3) (aCons (var 4) aNil)))))))))
noncomputable def s_same_hall : List PyData → Rs PyData := runP 5 d_same_hall
noncomputable def d_pairs_of : Sls → OutS := (retS (asVal (compN2 [1, 2] [2] (itArgs rng1D (aCons (var 0) aNil)) (tgN 1) yesT (itArgs rng1D (aCons (var 0) aNil)) (tgN 2) yesT (dispT (aCons (var 1) (aCons (var 2) aNil))))))
noncomputable def s_pairs_of : List PyData → Rs PyData := runP 3 d_pairs_of
noncomputable def d_passing : Sls → OutS := (seqS (dropS (callP (s_check_two) (aCons (var 0) (aCons (var 1) (aCons (var 2) aNil)))))
  (retS (argsN (arg1 tupD) (aCons (asVal (compN [3, 4] (itSeq (callP (s_pairs_of) (aCons (var 0) aNil))) (tgT 2 (tgsCons (tgN 3) (tgsCons (tgN 4) tgsNil))) (asB (bin2 eqD (callP (s_hall_told) (aCons (var 0) (aCons (var 1) (aCons (var 3) (aCons (var 4) aNil))))) (callP (s_hall_told) (aCons (var 0) (aCons (var 2) (aCons (var 3) (aCons (var 4) aNil))))))) (dispT (aCons (var 3) (aCons (var 4) aNil))))) aNil))))
noncomputable def s_passing : List PyData → Rs PyData := runP 5 d_passing
noncomputable def d_most_passing : Sls → OutS := (seqS (ifS (orT (notT (asB (chain leD leD (cst (.int 3)) (var 0) (cst (.int 89))))) (notT (asT (callP (s_is_prime) (aCons (var 0) aNil))))) (raiseS "BadNumber") nxS)
  (seqS (ifS (orT (notT (asB (chain leD leD (cst (.int 1)) (var 1) (cst (.int 12))))) (notT (asB (chain leD leD (cst (.int 1)) (var 2) (cst (.int 6)))))) (raiseS "BadNumber") nxS)
  (retS (bin2 mulD (bin2 mulD (var 0) (var 1)) (argsN (arg2 max2D) (aCons (cst (.int 1)) (aCons (bin2 subD (var 2) (cst (.int 1))) aNil)))))))
noncomputable def s_most_passing : List PyData → Rs PyData := runP 3 d_most_passing
noncomputable def d_check_table : Sls → OutS := (seqS (dropS (callP (s_check_rows) (aCons (var 0) (aCons (var 1) (aCons (cst (.int 0)) aNil)))))
  (seqS (dropS (callP (s_check_rows) (aCons (var 0) (aCons (var 2) (aCons (argsN (arg1 lenD) (aCons (bin2 ixD (var 1) (cst (.int 0))) aNil)) aNil)))))
  (ifS (asB (bin2 neD (compD [3] (itSeq (var 2)) (tgN 3) yesT (argsN (arg1 tupD) (aCons (var 3) aNil)) (cst (.bool true))) (argsN (arg1 lenD) (aCons (var 2) aNil)))) (raiseS "BadNumber") nxS)))
noncomputable def s_check_table : List PyData → Rs PyData := runP 4 d_check_table
noncomputable def d_counts_in : Sls → OutS := (seqS (dropS (callP (s_check_table) (aCons (var 0) (aCons (var 1) (aCons (var 2) aNil)))))
  (seqS (setS 3 (asVal (compN [4] (itSeq (var 2)) (tgN 4) yesT (argsN (arg1 tupD) (aCons (var 4) aNil)))))
  (seqS (ifS (notT (asT (argsN (arg1 allD) (aCons (asVal (compN [4] (itSeq (var 1)) (tgN 4) yesT (bin2 inD (argsN (arg1 tupD) (aCons (var 4) aNil)) (var 3)))) aNil)))) (raiseS "NoAnswer") nxS)
  (retS (argsN (arg1 tupD) (aCons (asVal (compN [5] (itSeq (var 3)) (tgN 5) yesT (meth "list" cntD (asVal (compN [4] (itSeq (var 1)) (tgN 4) yesT (argsN (arg1 tupD) (aCons (var 4) aNil)))) (aCons (var 5) aNil)))) aNil))))))
noncomputable def s_counts_in : List PyData → Rs PyData := runP 6 d_counts_in
noncomputable def d_shown_told : Sls → OutS := (seqS (ifS (asB (bin2 neD (argsN (arg1 sumD) (aCons (var 3) aNil)) (argsN (arg1 lenD) (aCons (var 1) aNil)))) (retS (cst (.bool false))) nxS)
  (seqS (setS 5 (asVal (compN2 [6, 7, 8] [8] (itFrz zipD (aCons (var 2) (aCons (var 3) aNil))) (tgT 2 (tgsCons (tgN 6) (tgsCons (tgN 7) tgsNil))) yesT (itArgs rng1D (aCons (var 7) aNil)) (tgN 8) yesT (var 6))))
  (retS (bin2 eqD (callP (s_hall_told) (aCons (var 0) (aCons (var 1) (aCons (bin2 ixD (var 4) (cst (.int 0))) (aCons (bin2 ixD (var 4) (cst (.int 1))) aNil))))) (callP (s_hall_told) (aCons (var 0) (aCons (var 5) (aCons (bin2 ixD (var 4) (cst (.int 0))) (aCons (bin2 ixD (var 4) (cst (.int 1))) aNil)))))))))
noncomputable def s_shown_told : List PyData → Rs PyData := runP 9 d_shown_told
noncomputable def d_check_counts : Sls → OutS := (seqS (dropS (callP (s_check_table) (aCons (var 0) (aCons (var 1) (aCons (var 2) aNil)))))
  (ifS (orT (asB (bin2 neD (argsN (arg1 lenD) (aCons (var 3) aNil)) (argsN (arg1 lenD) (aCons (var 2) aNil)))) (notT (asT (argsN (arg1 allD) (aCons (asVal (compN [4] (itSeq (var 3)) (tgN 4) yesT (chain leD leD (cst (.int 0)) (var 4) (cst (.int 12))))) aNil))))) (raiseS "BadNumber") nxS))
noncomputable def s_check_counts : List PyData → Rs PyData := runP 5 d_check_counts
noncomputable def d_shown_by : Sls → OutS := (seqS (dropS (callP (s_check_counts) (aCons (var 0) (aCons (var 1) (aCons (var 2) (aCons (var 3) aNil))))))
  (seqS (dropS (callP (s_check_coins) (aCons (var 0) (aCons (dispT (aCons (var 4) (aCons (var 5) aNil))) aNil))))
  (retS (callP (s_shown_told) (aCons (var 0) (aCons (var 1) (aCons (var 2) (aCons (var 3) (aCons (dispT (aCons (var 4) (aCons (var 5) aNil))) aNil)))))))))
noncomputable def s_shown_by : List PyData → Rs PyData := runP 6 d_shown_by
noncomputable def d_passing_counts : Sls → OutS := (seqS (dropS (callP (s_check_counts) (aCons (var 0) (aCons (var 1) (aCons (var 2) (aCons (var 3) aNil))))))
  (retS (argsN (arg1 tupD) (aCons (asVal (compN [4] (itSeq (callP (s_pairs_of) (aCons (var 0) aNil))) (tgN 4) (asT (callP (s_shown_told) (aCons (var 0) (aCons (var 1) (aCons (var 2) (aCons (var 3) (aCons (var 4) aNil))))))) (var 4))) aNil))))
noncomputable def s_passing_counts : List PyData → Rs PyData := runP 5 d_passing_counts
noncomputable def d__law_number : Sls → OutS := (seqS (ifS (asB (bin2 ltD (var 0) (cst (.int 0)))) (retS (bin2 subD (cst (.int 0)) (var 0))) nxS)
  (retS (var 0)))
noncomputable def s__law_number : List PyData → Rs PyData := runP 1 d__law_number
noncomputable def d__law_draws_b0 : Sls → OutS := (seqS (ifS (asB (bin2 eqD (var 3) (cst (.int 0)))) bkS nxS)
  (seqS (dropS (mutF 1 appD (aCons (bin2 modD (argsN (arg1 intoD) (aCons (var 3) aNil)) (cst (.int 1000))) aNil)))
  (setS 3 (bin2 fdivD (var 3) (cst (.int 1000))))))
noncomputable def d__law_draws_b1 : Sls → OutS := (seqS (setS 3 (callP (s__law_number) (aCons (var 2) aNil)))
  (ifS (asB (bin2 geD (var 3) (cst (.int 1000000000000000000)))) (forS (itArgs rng1D (aCons (cst (.int 60)) aNil)) (tgN 4) d__law_draws_b0) (seqS (setS 5 (bin2 modD (argsN (arg1 intoD) (aCons (bin2 addD (bin2 mulD (var 3) (cst (.int 48271))) (cst (.int 11))) aNil)) (cst (.int 2147483647))))
  (seqS (setS 6 (bin2 modD (argsN (arg1 intoD) (aCons (bin2 addD (bin2 mulD (var 5) (cst (.int 69621))) (var 3)) aNil)) (cst (.int 2147483629))))
  (dropS (mutR 1 extD (aCons (asVal (dispL (aCons (bin2 modD (argsN (arg1 intoD) (aCons (var 3) aNil)) (cst (.int 1000))) (aCons (bin2 modD (argsN (arg1 intoD) (aCons (var 5) aNil)) (cst (.int 1000))) (aCons (bin2 modD (argsN (arg1 intoD) (aCons (var 6) aNil)) (cst (.int 1000))) aNil))))) aNil)))))))
noncomputable def d__law_draws : Sls → OutS := (seqS (setN 1 (dispL aNil))
  (seqS (forS (itSeq (var 0)) (tgN 2) d__law_draws_b1)
  (seqS (dropS (mut0 1 rvsD))
  (retO 1))))
noncomputable def s__law_draws : List PyData → Rs (List PyData) := runN 7 d__law_draws
noncomputable def d__law_next : Sls → OutS := (seqS (ifS (asT (var 0)) (retS (mut0 0 popD)) nxS)
  (retS (cst (.int 0))))
noncomputable def s__law_next : List PyData → List PyData → Rs (PyData × List PyData) := runO 1 d__law_next
noncomputable def d__law_more_b0 : Sls → OutS := (seqS (setS 2 (bin2 modD (argsN (arg1 intoD) (aCons (bin2 addD (bin2 mulD (var 2) (cst (.int 48271))) (cst (.int 12345))) aNil)) (cst (.int 2147483647))))
  (dropS (mutF 3 appD (aCons (bin2 modD (argsN (arg1 intoD) (aCons (bin2 fdivD (var 2) (cst (.int 7))) aNil)) (cst (.int 1000))) aNil))))
noncomputable def d__law_more : Sls → OutS := (seqS (setS 2 (bin2 addD (bin2 addD (bin2 mulD (cst (.int 1000)) (callO 0 (s__law_next) aNil)) (callO 0 (s__law_next) aNil)) (cst (.int 1))))
  (seqS (setN 3 (dispL aNil))
  (seqS (forS (itArgs rng1D (aCons (var 1) aNil)) (tgN 4) d__law_more_b0)
  (retL (bin2n catD (var 3) (var 0))))))
noncomputable def s__law_more : List PyData → List PyData → Rs (List PyData × List PyData) := runON 5 d__law_more
noncomputable def d__law_pick : Sls → OutS := (retS (bin2 ixD (var 1) (bin2 modD (argsN (arg1 intoD) (aCons (callO 0 (s__law_next) aNil) aNil)) (argsN (arg1 lenD) (aCons (var 1) aNil)))))
noncomputable def s__law_pick : List PyData → List PyData → Rs (PyData × List PyData) := runO 2 d__law_pick
noncomputable def d__law_flat_b0 : Sls → OutS := (dropS (mutR 1 extD (aCons (var 2) aNil)))
noncomputable def d__law_flat : Sls → OutS := (seqS (setN 1 (dispL aNil))
  (seqS (forS (itSeq (var 0)) (tgN 2) d__law_flat_b0)
  (retS (var 1))))
noncomputable def s__law_flat : List PyData → Rs PyData := runP 3 d__law_flat
noncomputable def d__law_some : Sls → OutS := (retS (argsN (arg1 tupD) (aCons (asVal (compN [3] (itArgs rng1D (aCons (var 2) aNil)) (tgN 3) yesT (bin2 modD (argsN (arg1 intoD) (aCons (callO 0 (s__law_next) aNil) aNil)) (var 1)))) aNil)))
noncomputable def s__law_some : List PyData → List PyData → Rs (PyData × List PyData) := runO 4 d__law_some
noncomputable def d__law_mixed_b0 : Sls → OutS := (parS [3, 4] (avSv (argsN (arg1 intoD) (aCons (bin2 modD (bin2 addD (var 3) (bin2 mulD (var 5) (var 4))) (var 0)) aNil)) (avSv (argsN (arg1 intoD) (aCons (bin2 modD (bin2 mulD (var 4) (var 2)) (var 0)) aNil)) avNil)))
noncomputable def d__law_mixed : Sls → OutS := (seqS (asgS (tgT 2 (tgsCons (tgN 3) (tgsCons (tgN 4) tgsNil))) (dispT (aCons (cst (.int 0)) (aCons (cst (.int 1)) aNil))))
  (seqS (forS (itSeq (var 1)) (tgN 5) d__law_mixed_b0)
  (retS (var 3))))
noncomputable def s__law_mixed : List PyData → Rs PyData := runP 6 d__law_mixed
noncomputable def d__law_asked : Sls → OutS := (tryK kindOf (seqS (ifS (asB (bin2 ltD (var 0) (cst (.int 2)))) (retS (ifE (asB (bin2 eqD (var 0) (cst (.int 0)))) (callP (s_fingerprint) (aCons (var 1) (aCons (var 2) (aCons (var 4) aNil)))) (callP (s_hall) (aCons (var 1) (aCons (var 2) (aCons (var 4) (aCons (var 5) aNil))))))) nxS)
  (seqS (ifS (asB (bin2 ltD (var 0) (cst (.int 4)))) (retS (ifE (asB (bin2 eqD (var 0) (cst (.int 2)))) (callP (s_same_hall) (aCons (var 1) (aCons (var 2) (aCons (var 3) (aCons (var 4) (aCons (var 5) aNil)))))) (callP (s_passing) (aCons (var 1) (aCons (var 2) (aCons (var 3) aNil)))))) nxS)
  (seqS (ifS (asB (bin2 ltD (var 0) (cst (.int 6)))) (retS (ifE (asB (bin2 eqD (var 0) (cst (.int 4)))) (callP (s_counts_in) (aCons (var 1) (aCons (var 2) (aCons (var 3) aNil)))) (callP (s_most_passing) (aCons (var 1) (aCons (var 2) (aCons (var 3) aNil)))))) nxS)
  (retS (ifE (asB (bin2 eqD (var 0) (cst (.int 6)))) (callP (s_shown_by) (aCons (var 1) (aCons (var 2) (aCons (var 3) (aCons (var 4) (aCons (bin2 ixD (var 5) (cst (.int 0))) (aCons (bin2 ixD (var 5) (cst (.int 1))) aNil))))))) (callP (s_passing_counts) (aCons (var 1) (aCons (var 2) (aCons (var 3) (aCons (var 4) aNil)))))))))))
noncomputable def s__law_asked : List PyData → Rs PyData := runP 7 d__law_asked
noncomputable def d__law_hall_b0 : Sls → OutS := (setS 4 (argsN (arg1 intoD) (aCons (bin2 modD (bin2 mulD (var 4) (bin2 subD (var 3) (callP (s__law_mixed) (aCons (var 0) (aCons (var 5) (aCons (var 2) aNil)))))) (var 0)) aNil)))
noncomputable def d__law_hall : Sls → OutS := (seqS (setS 4 (cst (.int 1)))
  (seqS (forS (itSeq (var 1)) (tgN 5) d__law_hall_b0)
  (retS (var 4))))
noncomputable def s__law_hall : List PyData → Rs PyData := runP 6 d__law_hall
noncomputable def d__law_coins : Sls → OutS := (retS (callP (s__law_flat) (aCons (asVal (compN [1] (itArgs rng1D (aCons (var 0) aNil)) (tgN 1) yesT (asVal (compN [2] (itArgs rng1D (aCons (var 0) aNil)) (tgN 2) yesT (dispT (aCons (var 1) (aCons (var 2) aNil))))))) aNil)))
noncomputable def s__law_coins : List PyData → Rs PyData := runP 3 d__law_coins
noncomputable def d__law_shuffled_b0 : Sls → OutS := (dropS (mutF 3 appD (aCons (mutR 2 popAtD (aCons (bin2 modD (argsN (arg1 intoD) (aCons (callO 0 (s__law_next) aNil) aNil)) (argsN (arg1 lenD) (aCons (var 2) aNil))) aNil)) aNil)))
noncomputable def d__law_shuffled : Sls → OutS := (seqS (parS [2, 3] (avNw (argsNn (arg1 itemsD) (aCons (var 1) aNil)) (avNw (dispL aNil) avNil)))
  (seqS (forS (itArgs rng1D (aCons (argsN (arg1 lenD) (aCons (var 1) aNil)) aNil)) (tgN 4) d__law_shuffled_b0)
  (retS (argsN (arg1 tupD) (aCons (var 3) aNil)))))
noncomputable def s__law_shuffled : List PyData → List PyData → Rs (PyData × List PyData) := runO 5 d__law_shuffled
noncomputable def d_law_b0 : Sls → OutS := (seqS (setS 11 (argsN (arg1 tupD) (aCons (asVal (compN [30] (itSeq (callP (s__law_coins) (aCons (var 2) aNil))) (tgN 30) (asB (bin2 eqD (callP (s__law_hall) (aCons (var 2) (aCons (var 5) (aCons (bin2 ixD (var 30) (cst (.int 0))) (aCons (bin2 ixD (var 30) (cst (.int 1))) aNil))))) (callP (s__law_hall) (aCons (var 2) (aCons (var 10) (aCons (bin2 ixD (var 30) (cst (.int 0))) (aCons (bin2 ixD (var 30) (cst (.int 1))) aNil))))))) (var 30))) aNil)))
  (seqS (ifS (asB (bin2 neD (argsN (arg1 reprD) (aCons (asVal (dispL (aCons (callP (s__law_asked) (aCons (cst (.int 3)) (aCons (var 2) (aCons (var 5) (aCons (var 10) (aCons (cst .none) (aCons (cst .none) aNil))))))) (aCons (callP (s__law_asked) (aCons (cst (.int 2)) (aCons (var 2) (aCons (var 5) (aCons (var 10) (aCons (var 6) (aCons (var 7) aNil))))))) aNil)))) aNil)) (argsN (arg1 reprD) (aCons (asVal (dispL (aCons (var 11) (aCons (bin2 inD (dispT (aCons (var 6) (aCons (var 7) aNil))) (var 11)) aNil)))) aNil)))) (retS (cst (.bool false))) nxS)
  (seqS (parS [12, 13] (avSv (bin2 eqD (asVal (argsNn (arg1 sortD) (aCons (var 5) aNil))) (asVal (argsNn (arg1 sortD) (aCons (var 10) aNil)))) (avSv (bin2 mulD (bin2 mulD (var 2) (var 4)) (argsN (arg2 max2D) (aCons (cst (.int 1)) (aCons (bin2 subD (var 3) (cst (.int 1))) aNil)))) avNil)))
  (ifS (orT (andT (asT (var 12)) (asB (bin2 neD (argsN (arg1 lenD) (aCons (var 11) aNil)) (bin2 mulD (var 2) (var 2))))) (orT (andT (notT (asT (var 12))) (asB (bin2 gtD (argsN (arg1 lenD) (aCons (var 11) aNil)) (var 13)))) (asB (bin2 neD (callP (s__law_asked) (aCons (cst (.int 5)) (aCons (var 2) (aCons (var 4) (aCons (var 3) (aCons (cst .none) (aCons (cst .none) aNil))))))) (var 13))))) (retS (cst (.bool false))) nxS))))
noncomputable def d_law_b1 : Sls → OutS := (seqS (setS 20 (callP (s__law_flat) (aCons (asVal (compN [31] (itArgs rng1D (aCons (argsN (arg1 lenD) (aCons (var 14) aNil)) aNil)) (tgN 31) yesT (asVal (bin2n repLD (asVal (dispL (aCons (bin2 ixD (var 14) (var 31)) aNil))) (argsN (arg1 intoD) (aCons (bin2 ixD (var 19) (var 31)) aNil)))))) aNil)))
  (seqS (setS 11 (argsN (arg1 tupD) (aCons (asVal (compN [30] (itSeq (callP (s__law_coins) (aCons (var 2) aNil))) (tgN 30) (andT (asB (bin2 eqD (argsN (arg1 lenD) (aCons (var 20) aNil)) (var 4))) (asB (bin2 eqD (callP (s__law_hall) (aCons (var 2) (aCons (var 5) (aCons (bin2 ixD (var 30) (cst (.int 0))) (aCons (bin2 ixD (var 30) (cst (.int 1))) aNil))))) (callP (s__law_hall) (aCons (var 2) (aCons (var 20) (aCons (bin2 ixD (var 30) (cst (.int 0))) (aCons (bin2 ixD (var 30) (cst (.int 1))) aNil)))))))) (var 30))) aNil)))
  (seqS (ifS (asB (bin2 neD (argsN (arg1 reprD) (aCons (asVal (dispL (aCons (callP (s__law_asked) (aCons (cst (.int 7)) (aCons (var 2) (aCons (var 5) (aCons (var 14) (aCons (var 19) (aCons (cst .none) aNil))))))) (aCons (callP (s__law_asked) (aCons (cst (.int 6)) (aCons (var 2) (aCons (var 5) (aCons (var 14) (aCons (var 19) (aCons (dispT (aCons (var 6) (aCons (var 7) aNil))) aNil))))))) aNil)))) aNil)) (argsN (arg1 reprD) (aCons (asVal (dispL (aCons (var 11) (aCons (bin2 inD (dispT (aCons (var 6) (aCons (var 7) aNil))) (var 11)) aNil)))) aNil)))) (retS (cst (.bool false))) nxS)
  (ifS (orT (andT (asT (var 17)) (andT (asB (bin2 eqD (var 19) (var 16))) (asB (bin2 neD (argsN (arg1 lenD) (aCons (var 11) aNil)) (bin2 mulD (var 2) (var 2)))))) (andT (orT (asB (bin2 neD (var 19) (var 16))) (notT (asT (var 17)))) (asB (bin2 gtD (argsN (arg1 lenD) (aCons (var 11) aNil)) (bin2 mulD (bin2 mulD (var 2) (var 4)) (argsN (arg2 max2D) (aCons (cst (.int 1)) (aCons (bin2 subD (var 3) (cst (.int 1))) aNil)))))))) (retS (cst (.bool false))) nxS))))
noncomputable def d_law_s2 : Sls → OutS := (setN 1 (callN (s__law_draws) (aCons (var 0) aNil)))
noncomputable def d_law_s3 : Sls → OutS := (setN 1 (callON 1 (s__law_more) (aCons (cst (.int 150)) aNil)))
noncomputable def d_law_s4 : Sls → OutS := (asgS (tgT 3 (tgsCons (tgN 2) (tgsCons (tgN 3) (tgsCons (tgN 4) tgsNil)))) (dispT (aCons (callO 1 (s__law_pick) (aCons (asVal (dispL (aCons (cst (.int 3)) (aCons (cst (.int 5)) (aCons (cst (.int 7)) (aCons (cst (.int 11)) aNil)))))) aNil)) (aCons (bin2 addD (cst (.int 1)) (bin2 modD (argsN (arg1 intoD) (aCons (callO 1 (s__law_next) aNil) aNil)) (cst (.int 3)))) (aCons (bin2 addD (cst (.int 1)) (bin2 modD (argsN (arg1 intoD) (aCons (callO 1 (s__law_next) aNil) aNil)) (cst (.int 4)))) aNil)))))
noncomputable def d_law_s5 : Sls → OutS := (setS 5 (argsN (arg1 tupD) (aCons (asVal (compN [23] (itArgs rng1D (aCons (var 4) aNil)) (tgN 23) yesT (callO 1 (s__law_some) (aCons (var 2) (aCons (var 3) aNil))))) aNil)))
noncomputable def d_law_s6 : Sls → OutS := (asgS (tgT 2 (tgsCons (tgN 6) (tgsCons (tgN 7) tgsNil))) (callO 1 (s__law_some) (aCons (var 2) (aCons (cst (.int 2)) aNil))))
noncomputable def d_law_s7 : Sls → OutS := (ifS (asB (bin2 neD (argsN (arg1 reprD) (aCons (asVal (dispL (aCons (callP (s__law_asked) (aCons (cst (.int 0)) (aCons (var 2) (aCons (bin2 ixD (var 5) (cst (.int 0))) (aCons (cst .none) (aCons (var 6) (aCons (cst .none) aNil))))))) (aCons (callP (s__law_asked) (aCons (cst (.int 1)) (aCons (var 2) (aCons (var 5) (aCons (cst .none) (aCons (var 6) (aCons (var 7) aNil))))))) aNil)))) aNil)) (argsN (arg1 reprD) (aCons (asVal (dispL (aCons (callP (s__law_mixed) (aCons (var 2) (aCons (bin2 ixD (var 5) (cst (.int 0))) (aCons (var 6) aNil)))) (aCons (callP (s__law_hall) (aCons (var 2) (aCons (var 5) (aCons (var 6) (aCons (var 7) aNil))))) aNil)))) aNil)))) (retS (cst (.bool false))) nxS)
noncomputable def d_law_s8 : Sls → OutS := (setS 8 (bin2 addD (slc slTD (var 5) noPart (part (un1 negD (cst (.int 1))))) (dispT (aCons (callO 1 (s__law_some) (aCons (var 2) (aCons (var 3) aNil))) aNil))))
noncomputable def d_law_s9 : Sls → OutS := (setS 9 (argsN (arg1 tupD) (aCons (asVal (compN [23] (itArgs rng1D (aCons (var 4) aNil)) (tgN 23) yesT (callO 1 (s__law_some) (aCons (var 2) (aCons (var 3) aNil))))) aNil)))
noncomputable def d_law_s10 : Sls → OutS := (forS (itSeq (asVal (dispL (aCons (callO 1 (s__law_shuffled) (aCons (var 5) aNil)) (aCons (var 8) (aCons (var 9) (aCons (callO 1 (s__law_shuffled) (aCons (var 8) aNil)) aNil))))))) (tgN 10) d_law_b0)
noncomputable def d_law_s11 : Sls → OutS := (setS 14 (argsN (arg1 tupD) (aCons (asVal (un1n sdD (asVal (compN [24] (itSeq (bin2 addD (var 9) (slc slTD (var 5) (part (cst (.int 1))) noPart))) (tgN 24) yesT (dispT (aCons (var 24) (aCons (cst (.bool true)) aNil))))))) aNil)))
noncomputable def d_law_s12 : Sls → OutS := (setS 16 (argsN (arg1 tupD) (aCons (asVal (compN [15] (itSeq (var 14)) (tgN 15) yesT (argsN (arg1 lenD) (aCons (asVal (compN [24] (itSeq (var 5)) (tgN 24) (asB (bin2 eqD (var 24) (var 15))) (var 24))) aNil)))) aNil)))
noncomputable def d_law_s13 : Sls → OutS := (setS 17 (argsN (arg1 allD) (aCons (asVal (compN [24] (itSeq (var 5)) (tgN 24) yesT (bin2 inD (var 24) (var 14)))) aNil)))
noncomputable def d_law_s14 : Sls → OutS := (ifS (asB (bin2 neD (argsN (arg1 reprD) (aCons (callP (s__law_asked) (aCons (cst (.int 4)) (aCons (var 2) (aCons (var 5) (aCons (var 14) (aCons (cst .none) (aCons (cst .none) aNil))))))) aNil)) (argsN (arg1 reprD) (aCons (ifE (asT (var 17)) (var 16) (cst (.str "!none"))) aNil)))) (retS (cst (.bool false))) nxS)
noncomputable def d_law_s15 : Sls → OutS := (setS 18 (argsN (arg1 tupD) (aCons (asVal (compN [15] (itSeq (var 14)) (tgN 15) yesT (bin2 modD (argsN (arg1 intoD) (aCons (callO 1 (s__law_next) aNil) aNil)) (cst (.int 3))))) aNil)))
noncomputable def d_law_s16 : Sls → OutS := (forS (itSeq (asVal (dispL (aCons (var 16) (aCons (var 18) (aCons (un1 revTD (var 16)) (aCons (bin2 mulD (dispT (aCons (cst (.int 0)) aNil)) (argsN (arg1 lenD) (aCons (var 14) aNil))) (aCons (bin2 addD (dispT (aCons (var 4) aNil)) (bin2 mulD (dispT (aCons (cst (.int 0)) aNil)) (bin2 subD (argsN (arg1 lenD) (aCons (var 14) aNil)) (cst (.int 1))))) aNil)))))))) (tgN 19) d_law_b1)
noncomputable def d_law_s17 : Sls → OutS := (setS 21 (dispT (aCons (dispT (aCons (cst (.int 1)) aNil)) (aCons (dispT (aCons (cst (.int 2)) aNil)) aNil))))
noncomputable def d_law_s18 : Sls → OutS := (ifS (asB (bin2 neD (asVal (compN [25] (itSeq (asVal (dispL (aCons (dispT (aCons (dispT (aCons (cst (.int 0)) aNil)) (aCons (dispT (aCons (cst (.int 4)) aNil)) aNil))) (aCons (dispT (aCons (dispT (aCons (cst (.int 2)) aNil)) (aCons (dispT (aCons (cst (.int 1)) aNil)) aNil))) aNil))))) (tgN 25) yesT (callP (s_passing) (aCons (cst (.int 5)) (aCons (var 21) (aCons (var 25) aNil)))))) (asVal (dispL (aCons (dispT (aCons (dispT (aCons (cst (.int 0)) (aCons (cst (.int 3)) aNil))) (aCons (dispT (aCons (cst (.int 1)) (aCons (cst (.int 3)) aNil))) (aCons (dispT (aCons (cst (.int 2)) (aCons (cst (.int 3)) aNil))) (aCons (dispT (aCons (cst (.int 3)) (aCons (cst (.int 3)) aNil))) (aCons (dispT (aCons (cst (.int 4)) (aCons (cst (.int 3)) aNil))) aNil)))))) (aCons (argsN (arg1 tupD) (aCons (callP (s__law_coins) (aCons (cst (.int 5)) aNil)) aNil)) aNil)))))) (retS (cst (.bool false))) nxS)
noncomputable def d_law_s19 : Sls → OutS := (setS 22 (asVal (dispL (aCons (dispT (aCons (cst (.int 4)) (aCons (var 5) aNil))) (aCons (dispT (aCons (cst (.int 97)) (aCons (var 5) aNil))) (aCons (dispT (aCons (var 2) (aCons (dispT aNil) aNil))) (aCons (dispT (aCons (var 2) (aCons (bin2 mulD (var 5) (cst (.int 13))) aNil))) (aCons (dispT (aCons (var 2) (aCons (dispT (aCons (dispT aNil) aNil)) aNil))) (aCons (dispT (aCons (var 2) (aCons (dispT (aCons (bin2 mulD (dispT (aCons (cst (.int 0)) aNil)) (cst (.int 7))) aNil)) aNil))) (aCons (dispT (aCons (var 2) (aCons (dispT (aCons (bin2 mulD (dispT (aCons (var 2) aNil)) (var 3)) aNil)) aNil))) (aCons (dispT (aCons (var 2) (aCons (dispT (aCons (dispT (aCons (cst (.int 0)) aNil)) (aCons (dispT (aCons (cst (.int 0)) (aCons (cst (.int 0)) aNil))) aNil))) aNil))) (aCons (dispT (aCons (var 2) (aCons (dispT (aCons (dispT (aCons (un1 negD (cst (.int 1))) aNil)) aNil)) aNil))) aNil))))))))))))
noncomputable def d_law_s20 : Sls → OutS := (setS 15 (callP (s__law_flat) (aCons (asVal (compN [26, 27] (itSeq (var 22)) (tgT 2 (tgsCons (tgN 26) (tgsCons (tgN 27) tgsNil))) yesT (asVal (dispL (aCons (callP (s__law_asked) (aCons (cst (.int 1)) (aCons (var 26) (aCons (var 27) (aCons (cst .none) (aCons (cst (.int 0)) (aCons (cst (.int 0)) aNil))))))) (aCons (callP (s__law_asked) (aCons (cst (.int 2)) (aCons (var 26) (aCons (var 27) (aCons (var 27) (aCons (cst (.int 0)) (aCons (cst (.int 0)) aNil))))))) (aCons (callP (s__law_asked) (aCons (cst (.int 3)) (aCons (var 26) (aCons (var 27) (aCons (var 27) (aCons (cst .none) (aCons (cst .none) aNil))))))) (aCons (callP (s__law_asked) (aCons (cst (.int 4)) (aCons (var 26) (aCons (var 27) (aCons (var 27) (aCons (cst .none) (aCons (cst .none) aNil))))))) aNil)))))))) aNil)))
noncomputable def d_law_s21 : Sls → OutS := (setS 15 (asVal (bin2n catD (var 15) (callP (s__law_flat) (aCons (asVal (compN [26, 27] (itSeq (var 22)) (tgT 2 (tgsCons (tgN 26) (tgsCons (tgN 27) tgsNil))) yesT (asVal (dispL (aCons (callP (s__law_asked) (aCons (cst (.int 6)) (aCons (var 26) (aCons (var 27) (aCons (var 27) (aCons (dispT aNil) (aCons (dispT (aCons (cst (.int 0)) (aCons (cst (.int 0)) aNil))) aNil))))))) (aCons (callP (s__law_asked) (aCons (cst (.int 7)) (aCons (var 26) (aCons (var 27) (aCons (var 27) (aCons (dispT aNil) (aCons (cst .none) aNil))))))) aNil)))))) aNil)))))
noncomputable def d_law_s22 : Sls → OutS := (setS 15 (asVal (bin2n catD (var 15) (asVal (compN [27] (itSeq (asVal (dispL (aCons (dispT aNil) (aCons (bin2 mulD (dispT (aCons (cst (.int 0)) aNil)) (cst (.int 7))) (aCons (dispT (aCons (var 2) aNil)) aNil)))))) (tgN 27) yesT (callP (s__law_asked) (aCons (cst (.int 0)) (aCons (var 2) (aCons (var 27) (aCons (cst .none) (aCons (cst (.int 0)) (aCons (cst .none) aNil))))))))))))
noncomputable def d_law_s23 : Sls → OutS := (setS 15 (asVal (bin2n catD (var 15) (callP (s__law_flat) (aCons (asVal (compN [32] (itSeq (asVal (dispL (aCons (un1 negD (cst (.int 1))) (aCons (var 2) aNil))))) (tgN 32) yesT (asVal (dispL (aCons (callP (s__law_asked) (aCons (cst (.int 0)) (aCons (var 2) (aCons (bin2 ixD (var 5) (cst (.int 0))) (aCons (cst .none) (aCons (var 32) (aCons (cst .none) aNil))))))) (aCons (callP (s__law_asked) (aCons (cst (.int 1)) (aCons (var 2) (aCons (var 5) (aCons (cst .none) (aCons (var 32) (aCons (cst (.int 0)) aNil))))))) (aCons (callP (s__law_asked) (aCons (cst (.int 1)) (aCons (var 2) (aCons (var 5) (aCons (cst .none) (aCons (cst (.int 0)) (aCons (var 32) aNil))))))) aNil))))))) aNil)))))
noncomputable def d_law_s24 : Sls → OutS := (setS 15 (asVal (bin2n catD (var 15) (asVal (dispL (aCons (callP (s__law_asked) (aCons (cst (.int 2)) (aCons (var 2) (aCons (var 5) (aCons (bin2 addD (var 5) (var 5)) (aCons (cst (.int 0)) (aCons (cst (.int 0)) aNil))))))) (aCons (callP (s__law_asked) (aCons (cst (.int 3)) (aCons (var 2) (aCons (var 5) (aCons (bin2 addD (var 5) (var 5)) (aCons (cst .none) (aCons (cst .none) aNil))))))) (aCons (callP (s__law_asked) (aCons (cst (.int 4)) (aCons (var 2) (aCons (var 5) (aCons (bin2 addD (var 14) (slc slTD (var 14) noPart (part (cst (.int 1))))) (aCons (cst .none) (aCons (cst .none) aNil))))))) aNil))))))))
noncomputable def d_law_s25 : Sls → OutS := (setS 15 (asVal (bin2n catD (asVal (bin2n catD (var 15) (asVal (compN [27] (itSeq (asVal (dispL (aCons (bin2 addD (var 16) (dispT (aCons (cst (.int 0)) aNil))) (aCons (bin2 mulD (dispT (aCons (cst (.int 13)) aNil)) (argsN (arg1 lenD) (aCons (var 14) aNil))) (aCons (bin2 mulD (dispT (aCons (un1 negD (cst (.int 1))) aNil)) (argsN (arg1 lenD) (aCons (var 14) aNil))) aNil)))))) (tgN 27) yesT (callP (s__law_asked) (aCons (cst (.int 7)) (aCons (var 2) (aCons (var 5) (aCons (var 14) (aCons (var 27) (aCons (cst .none) aNil))))))))))) (asVal (dispL (aCons (callP (s__law_asked) (aCons (cst (.int 6)) (aCons (var 2) (aCons (var 5) (aCons (var 14) (aCons (var 16) (aCons (dispT (aCons (var 2) (aCons (cst (.int 0)) aNil))) aNil))))))) aNil))))))
noncomputable def d_law_s26 : Sls → OutS := (setS 15 (asVal (bin2n catD (var 15) (asVal (compN [26, 28, 29] (itSeq (asVal (dispL (aCons (dispT (aCons (cst (.int 4)) (aCons (cst (.int 1)) (aCons (cst (.int 1)) aNil)))) (aCons (dispT (aCons (var 2) (aCons (cst (.int 0)) (aCons (cst (.int 1)) aNil)))) (aCons (dispT (aCons (var 2) (aCons (cst (.int 13)) (aCons (cst (.int 1)) aNil)))) (aCons (dispT (aCons (var 2) (aCons (cst (.int 1)) (aCons (cst (.int 0)) aNil)))) (aCons (dispT (aCons (var 2) (aCons (cst (.int 1)) (aCons (cst (.int 7)) aNil)))) aNil)))))))) (tgT 3 (tgsCons (tgN 26) (tgsCons (tgN 28) (tgsCons (tgN 29) tgsNil)))) yesT (callP (s__law_asked) (aCons (cst (.int 5)) (aCons (var 26) (aCons (var 28) (aCons (var 29) (aCons (cst .none) (aCons (cst .none) aNil))))))))))))
noncomputable def d_law_s27 : Sls → OutS := (retS (bin2 eqD (var 15) (asVal (bin2n repLD (asVal (dispL (aCons (cst (.str "!number")) aNil))) (cst (.int 75))))))
noncomputable def d_law : Sls → OutS := (seqS d_law_s2
  (seqS d_law_s3
  (seqS d_law_s4
  (seqS d_law_s5
  (seqS d_law_s6
  (seqS d_law_s7
  (seqS d_law_s8
  (seqS d_law_s9
  (seqS d_law_s10
  (seqS d_law_s11
  (seqS d_law_s12
  (seqS d_law_s13
  (seqS d_law_s14
  (seqS d_law_s15
  (seqS d_law_s16
  (seqS d_law_s17
  (seqS d_law_s18
  (seqS d_law_s19
  (seqS d_law_s20
  (seqS d_law_s21
  (seqS d_law_s22
  (seqS d_law_s23
  (seqS d_law_s24
  (seqS d_law_s25
  (seqS d_law_s26
  d_law_s27)))))))))))))))))))))))))
noncomputable def s_law : List PyData → Rs PyData := runP 33 d_law
structure Gl (K : PySem.W.Frag) (mg : Str → Option Value) : Prop where
  e_BadNumber : ∃ C, ErrC K mg "BadNumber" C
  e_NoAnswer : ∃ C, ErrC K mg "NoAnswer" C
  kfacts : KindFacts K mg "ShowError" kNames kindOf
  c_LEAST_PRIME : ∃ t, mg "LEAST_PRIME" = some (.int 3 t)
  c_MOST_LISTED : ∃ t, mg "MOST_LISTED" = some (.int 12 t)
  c_MOST_PRIME : ∃ t, mg "MOST_PRIME" = some (.int 89 t)
  c_MOST_WIDTH : ∃ t, mg "MOST_WIDTH" = some (.int 6 t)
  h_ShowError : ∃ C, mg "ShowError" = some (.ref C) ∧ ∀ c D, kindOf c ≠ none → mg (Str.ofString c) = some (.ref D) → PySem.W.exmOne K (.ref D) (.ref C) = some true
  n_all : mg "all" = none
  n_dict : mg "dict" = none
  n_int : mg "int" = none
  n_isinstance : mg "isinstance" = none
  n_len : mg "len" = none
  n_list : mg "list" = none
  n_max : mg "max" = none
  n_range : mg "range" = none
  n_repr : mg "repr" = none
  n_sorted : mg "sorted" = none
  n_sum : mg "sum" = none
  n_tuple : mg "tuple" = none
  n_zip : mg "zip" = none
section
variable {P : Program} {w : World} {K : PySem.W.Frag} {mg : Str → Option Value} {base : Heap} {f : Addr}
theorem sc_is_prime : FnScope ["n", "k"] ["n"] (defScope t_is_prime) := ⟨rfl, rfl, rfl, by decide +kernel, rfl, by decide +kernel, by decide +kernel⟩
theorem b_is_prime (G : Gl K mg) : Body P w K mg base ["n", "k"] "is_prime" t_is_prime f 0 [] d_is_prime := by
  intro cdv A outer s H E gd hr
  have ct := cs_of (P := P) (w := w) (K := K) (mg := mg) (base := base) (N := ["n", "k"]) (E := E) (H := H) (outer := outer) gd hr (by decide)
  exact (ppss_one (pps_ret (pp_and (w_cmp o2_gt (pp_var (i := 0)) pp_int) (pp_one (w_bi (on_all ct.calm) G.n_all (ppa_cons (pp_val (pp_lc (own := [("k", 1)]) (ts := [1]) (by rfl) (tgok_name (by decide)) ct.calm ct.nd (ppi_range2 G.n_range (ppa_cons pp_int (ppa_cons (pp_var (i := 0)) ppa_nil))) (fun s1 H1 C1 cl1 fp1 => (ppg_name (i := 1) [1] rfl (ct.blk s1 H1 _ _ fp1).nd)) (fun s1 H1 C1 cl1 fp1 => (ppts_one (wt_cmp o2_le (w_op o2_mul (pp_var (i := 1)) (pp_var (i := 1))) (pp_var (i := 0))))) (fun s1 H1 C1 cl1 fp1 => (w_op o2_mod (pp_var (i := 0)) (pp_var (i := 1)))))) ppa_nil))))))
theorem sc_are_numbers : FnScope ["p", "numbers", "many", "number"] ["p", "numbers", "many"] (defScope t_are_numbers) := ⟨rfl, rfl, rfl, by decide +kernel, rfl, by decide +kernel, by decide +kernel⟩
theorem b_are_numbers (G : Gl K mg) : Body P w K mg base ["p", "numbers", "many", "number"] "are_numbers" t_are_numbers f 0 [] d_are_numbers := by
  intro cdv A outer s H E gd hr
  have ct := cs_of (P := P) (w := w) (K := K) (mg := mg) (base := base) (N := ["p", "numbers", "many", "number"]) (E := E) (H := H) (outer := outer) gd hr (by decide)
  exact (ppss_one (pps_ret (pp_and (w_cmp (o2_eq ct.u64) (w_bi on_len G.n_len (ppa_cons (pp_var (i := 1)) ppa_nil)) (pp_var (i := 2))) (pp_one (w_bi (on_all ct.calm) G.n_all (ppa_cons (pp_val (pp_lc (own := [("number", 3)]) (ts := [3]) (by rfl) (tgok_name (by decide)) ct.calm ct.nd (ppi_seq (pp_var (i := 1))) (fun s1 H1 C1 cl1 fp1 => (ppg_name (i := 3) [3] rfl (ct.blk s1 H1 _ _ fp1).nd)) (fun s1 H1 C1 cl1 fp1 => ppts_nil) (fun s1 H1 C1 cl1 fp1 => (w_chain o2_le o2_lt pp_int (pp_var (i := 3)) (pp_var (i := 0)))))) ppa_nil))))))
theorem sc_mixed : FnScope ["p", "numbers", "coin", "found", "number"] ["p", "numbers", "coin"] (defScope t_mixed) := ⟨rfl, rfl, rfl, by decide +kernel, rfl, by decide +kernel, by decide +kernel⟩
theorem b_mixed (G : Gl K mg) : Body P w K mg base ["p", "numbers", "coin", "found", "number"] "mixed" t_mixed f 0 [] d_mixed := by
  intro cdv A outer s H E gd hr
  have ct := cs_of (P := P) (w := w) (K := K) (mg := mg) (base := base) (N := ["p", "numbers", "coin", "found", "number"]) (E := E) (H := H) (outer := outer) gd hr (by decide)
  exact (ppss_cons (pps_set (i := 3) rfl pp_int ct.nd)
  (ppss_cons (pps_for ct.pass ct.calm (ppi_seq (pp_revT (pp_var (i := 1)))) (ppg_name (i := 4) [4] rfl ct.nd) (ppss_one (pps_set (i := 3) rfl (w_op o2_mod (w_op o2_add (w_op o2_mul (pp_var (i := 3)) (pp_var (i := 2))) (pp_var (i := 4))) (pp_var (i := 0))) ct.nd)))
  (ppss_one (pps_ret (pp_var (i := 3))))))
theorem sc_check_rows : FnScope ["p", "rows", "width", "size", "row"] ["p", "rows", "width"] (defScope t_check_rows) := ⟨rfl, rfl, rfl, by decide +kernel, rfl, by decide +kernel, by decide +kernel⟩
theorem b_check_rows (G : Gl K mg) (C_are_numbers : CallOk P w K mg base 1 "are_numbers" ["p", "numbers", "many"] (spP ⟨K, mg⟩ 3 s_are_numbers)) (C_is_prime : CallOk P w K mg base 1 "is_prime" ["n"] (spP ⟨K, mg⟩ 1 s_is_prime)) : Body P w K mg base ["p", "rows", "width", "size", "row"] "check_rows" t_check_rows f 1 [] d_check_rows := by
  intro cdv A outer s H E gd hr
  have ct := cs_of (P := P) (w := w) (K := K) (mg := mg) (base := base) (N := ["p", "rows", "width", "size", "row"]) (E := E) (H := H) (outer := outer) gd hr (by decide)
  exact (ppss_cons (pps_if (PW.pt (ppw_or (ppt_not (wt_chain o2_le o2_le (w_glo (gint G.c_LEAST_PRIME)) (pp_var (i := 0)) (w_glo (gint G.c_MOST_PRIME)))) (ppw_or1 (ppt_not (ppt_val (w_call ct.toCt C_is_prime (by decide) (ppa_cons (pp_var (i := 0)) ppa_nil) (alen_cons alen_nil))))))) (ppss_one (w_raise (c := "BadNumber") G.e_BadNumber ct.calm ct.tk)) ppss_nil)
  (ppss_cons (pps_if (ppt_not (wt_chain o2_le o2_le pp_int (w_bi on_len G.n_len (ppa_cons (pp_var (i := 1)) ppa_nil)) (w_glo (gint G.c_MOST_LISTED)))) (ppss_one (w_raise (c := "BadNumber") G.e_BadNumber ct.calm ct.tk)) ppss_nil)
  (ppss_cons (pps_set (i := 3) rfl (pp_if (ppt_val (pp_var (i := 2))) (pp_var (i := 2)) (w_bi on_len G.n_len (ppa_cons (w_ix (pp_var (i := 1)) pp_int) ppa_nil))) ct.nd)
  (ppss_one (pps_if (PW.pt (ppw_or (ppt_not (wt_chain o2_le o2_le pp_int (pp_var (i := 3)) (w_glo (gint G.c_MOST_WIDTH)))) (ppw_or1 (ppt_not (ppt_val (w_bi (on_all ct.calm) G.n_all (ppa_cons (pp_val (pp_lc (own := [("row", 4)]) (ts := [4]) (by rfl) (tgok_name (by decide)) ct.calm ct.nd (ppi_seq (pp_var (i := 1))) (fun s1 H1 C1 cl1 fp1 => (ppg_name (i := 4) [4] rfl (ct.blk s1 H1 _ _ fp1).nd)) (fun s1 H1 C1 cl1 fp1 => ppts_nil) (fun s1 H1 C1 cl1 fp1 => (w_call (ct.blk s1 H1 _ _ fp1) C_are_numbers (by decide) (ppa_cons (pp_var (i := 0)) (ppa_cons (pp_var (i := 4)) (ppa_cons (pp_var (i := 3)) ppa_nil))) (alen_cons (alen_cons (alen_cons alen_nil))))))) ppa_nil))))))) (ppss_one (w_raise (c := "BadNumber") G.e_BadNumber ct.calm ct.tk)) ppss_nil)))))
theorem sc_check_coins : FnScope ["p", "coins"] ["p", "coins"] (defScope t_check_coins) := ⟨rfl, rfl, rfl, by decide +kernel, rfl, by decide +kernel, by decide +kernel⟩
theorem b_check_coins (G : Gl K mg) (C_are_numbers : CallOk P w K mg base 1 "are_numbers" ["p", "numbers", "many"] (spP ⟨K, mg⟩ 3 s_are_numbers)) : Body P w K mg base ["p", "coins"] "check_coins" t_check_coins f 1 [] d_check_coins := by
  intro cdv A outer s H E gd hr
  have ct := cs_of (P := P) (w := w) (K := K) (mg := mg) (base := base) (N := ["p", "coins"]) (E := E) (H := H) (outer := outer) gd hr (by decide)
  exact (ppss_one (pps_if (ppt_not (ppt_val (w_call ct.toCt C_are_numbers (by decide) (ppa_cons (pp_var (i := 0)) (ppa_cons (pp_var (i := 1)) (ppa_cons (w_bi on_len G.n_len (ppa_cons (pp_var (i := 1)) ppa_nil)) ppa_nil))) (alen_cons (alen_cons (alen_cons alen_nil)))))) (ppss_one (w_raise (c := "BadNumber") G.e_BadNumber ct.calm ct.tk)) ppss_nil))
theorem sc_check_two : FnScope ["p", "rows", "others"] ["p", "rows", "others"] (defScope t_check_two) := ⟨rfl, rfl, rfl, by decide +kernel, rfl, by decide +kernel, by decide +kernel⟩
theorem b_check_two (G : Gl K mg) (C_check_rows : CallOk P w K mg base 2 "check_rows" ["p", "rows", "width"] (spP ⟨K, mg⟩ 3 s_check_rows)) : Body P w K mg base ["p", "rows", "others"] "check_two" t_check_two f 2 [] d_check_two := by
  intro cdv A outer s H E gd hr
  have ct := cs_of (P := P) (w := w) (K := K) (mg := mg) (base := base) (N := ["p", "rows", "others"]) (E := E) (H := H) (outer := outer) gd hr (by decide)
  exact (ppss_cons (pps_expr (w_call ct.toCt C_check_rows (by decide) (ppa_cons (pp_var (i := 0)) (ppa_cons (pp_var (i := 1)) (ppa_cons pp_int ppa_nil))) (alen_cons (alen_cons (alen_cons alen_nil)))))
  (ppss_cons (pps_expr (w_call ct.toCt C_check_rows (by decide) (ppa_cons (pp_var (i := 0)) (ppa_cons (pp_var (i := 2)) (ppa_cons (w_bi on_len G.n_len (ppa_cons (w_ix (pp_var (i := 1)) pp_int) ppa_nil)) ppa_nil))) (alen_cons (alen_cons (alen_cons alen_nil)))))
  (ppss_one (pps_if (wt_cmp (o2_ne ct.u64) (w_bi on_len G.n_len (ppa_cons (pp_var (i := 1)) ppa_nil)) (w_bi on_len G.n_len (ppa_cons (pp_var (i := 2)) ppa_nil))) (ppss_one (w_raise (c := "BadNumber") G.e_BadNumber ct.calm ct.tk)) ppss_nil))))
theorem sc_fingerprint : FnScope ["p", "row", "a"] ["p", "row", "a"] (defScope t_fingerprint) := ⟨rfl, rfl, rfl, by decide +kernel, rfl, by decide +kernel, by decide +kernel⟩
theorem b_fingerprint (G : Gl K mg) (C_check_coins : CallOk P w K mg base 2 "check_coins" ["p", "coins"] (spP ⟨K, mg⟩ 2 s_check_coins)) (C_check_rows : CallOk P w K mg base 2 "check_rows" ["p", "rows", "width"] (spP ⟨K, mg⟩ 3 s_check_rows)) (C_mixed : CallOk P w K mg base 1 "mixed" ["p", "numbers", "coin"] (spP ⟨K, mg⟩ 3 s_mixed)) : Body P w K mg base ["p", "row", "a"] "fingerprint" t_fingerprint f 2 [] d_fingerprint := by
  intro cdv A outer s H E gd hr
  have ct := cs_of (P := P) (w := w) (K := K) (mg := mg) (base := base) (N := ["p", "row", "a"]) (E := E) (H := H) (outer := outer) gd hr (by decide)
  exact (ppss_cons (pps_expr (w_call ct.toCt C_check_rows (by decide) (ppa_cons (pp_var (i := 0)) (ppa_cons (pp_tup (ppa_cons (pp_var (i := 1)) ppa_nil)) (ppa_cons pp_int ppa_nil))) (alen_cons (alen_cons (alen_cons alen_nil)))))
  (ppss_cons (pps_expr (w_call ct.toCt C_check_coins (by decide) (ppa_cons (pp_var (i := 0)) (ppa_cons (pp_tup (ppa_cons (pp_var (i := 2)) ppa_nil)) ppa_nil)) (alen_cons (alen_cons alen_nil))))
  (ppss_one (pps_ret (w_call ct.toCt C_mixed (by decide) (ppa_cons (pp_var (i := 0)) (ppa_cons (pp_var (i := 1)) (ppa_cons (pp_var (i := 2)) ppa_nil))) (alen_cons (alen_cons (alen_cons alen_nil))))))))
theorem sc_hall_told : FnScope ["p", "rows", "a", "b", "found", "row"] ["p", "rows", "a", "b"] (defScope t_hall_told) := ⟨rfl, rfl, rfl, by decide +kernel, rfl, by decide +kernel, by decide +kernel⟩
theorem b_hall_told (G : Gl K mg) (C_mixed : CallOk P w K mg base 1 "mixed" ["p", "numbers", "coin"] (spP ⟨K, mg⟩ 3 s_mixed)) : Body P w K mg base ["p", "rows", "a", "b", "found", "row"] "hall_told" t_hall_told f 1 [] d_hall_told := by
  intro cdv A outer s H E gd hr
  have ct := cs_of (P := P) (w := w) (K := K) (mg := mg) (base := base) (N := ["p", "rows", "a", "b", "found", "row"]) (E := E) (H := H) (outer := outer) gd hr (by decide)
  exact (ppss_cons (pps_set (i := 4) rfl pp_int ct.nd)
  (ppss_cons (pps_for ct.pass ct.calm (ppi_seq (pp_var (i := 1))) (ppg_name (i := 5) [5] rfl ct.nd) (ppss_one (pps_set (i := 4) rfl (w_op o2_mod (w_op o2_mul (pp_var (i := 4)) (w_op o2_sub (pp_var (i := 3)) (w_call ct.toCt C_mixed (by decide) (ppa_cons (pp_var (i := 0)) (ppa_cons (pp_var (i := 5)) (ppa_cons (pp_var (i := 2)) ppa_nil))) (alen_cons (alen_cons (alen_cons alen_nil)))))) (pp_var (i := 0))) ct.nd)))
  (ppss_one (pps_ret (pp_var (i := 4))))))
theorem sc_hall : FnScope ["p", "rows", "a", "b"] ["p", "rows", "a", "b"] (defScope t_hall) := ⟨rfl, rfl, rfl, by decide +kernel, rfl, by decide +kernel, by decide +kernel⟩
theorem b_hall (G : Gl K mg) (C_check_coins : CallOk P w K mg base 2 "check_coins" ["p", "coins"] (spP ⟨K, mg⟩ 2 s_check_coins)) (C_check_rows : CallOk P w K mg base 2 "check_rows" ["p", "rows", "width"] (spP ⟨K, mg⟩ 3 s_check_rows)) (C_hall_told : CallOk P w K mg base 2 "hall_told" ["p", "rows", "a", "b"] (spP ⟨K, mg⟩ 4 s_hall_told)) : Body P w K mg base ["p", "rows", "a", "b"] "hall" t_hall f 2 [] d_hall := by
  intro cdv A outer s H E gd hr
  have ct := cs_of (P := P) (w := w) (K := K) (mg := mg) (base := base) (N := ["p", "rows", "a", "b"]) (E := E) (H := H) (outer := outer) gd hr (by decide)
  exact (ppss_cons (pps_expr (w_call ct.toCt C_check_rows (by decide) (ppa_cons (pp_var (i := 0)) (ppa_cons (pp_var (i := 1)) (ppa_cons pp_int ppa_nil))) (alen_cons (alen_cons (alen_cons alen_nil)))))
  (ppss_cons (pps_expr (w_call ct.toCt C_check_coins (by decide) (ppa_cons (pp_var (i := 0)) (ppa_cons (pp_tup (ppa_cons (pp_var (i := 2)) (ppa_cons (pp_var (i := 3)) ppa_nil))) ppa_nil)) (alen_cons (alen_cons alen_nil))))
  (ppss_one (pps_ret (w_call ct.toCt C_hall_told (by decide) (ppa_cons (pp_var (i := 0)) (ppa_cons (pp_var (i := 1)) (ppa_cons (pp_var (i := 2)) (ppa_cons (pp_var (i := 3)) ppa_nil)))) (alen_cons (alen_cons (alen_cons (alen_cons alen_nil)))))))))
theorem sc_same_hall : FnScope ["p", "rows", "others", "a", "b"] ["p", "rows", "others", "a", "b"] (defScope t_same_hall) := ⟨rfl, rfl, rfl, by decide +kernel, rfl, by decide +kernel, by decide +kernel⟩
theorem b_same_hall (G : Gl K mg) (C_check_coins : CallOk P w K mg base 2 "check_coins" ["p", "coins"] (spP ⟨K, mg⟩ 2 s_check_coins)) (C_check_two : CallOk P w K mg base 3 "check_two" ["p", "rows", "others"] (spP ⟨K, mg⟩ 3 s_check_two)) (C_hall_told : CallOk P w K mg base 2 "hall_told" ["p", "rows", "a", "b"] (spP ⟨K, mg⟩ 4 s_hall_told)) : Body P w K mg base ["p", "rows", "others", "a", "b"] "same_hall" t_same_hall f 3 [] d_same_hall := by
  intro cdv A outer s H E gd hr
  have ct := cs_of (P := P) (w := w) (K := K) (mg := mg) (base := base) (N := ["p", "rows", "others", "a", "b"]) (E := E) (H := H) (outer := outer) gd hr (by decide)
  exact (ppss_cons (pps_expr (w_call ct.toCt C_check_two (by decide) (ppa_cons (pp_var (i := 0)) (ppa_cons (pp_var (i := 1)) (ppa_cons (pp_var (i := 2)) ppa_nil))) (alen_cons (alen_cons (alen_cons alen_nil)))))
  (ppss_cons (pps_expr (w_call ct.toCt C_check_coins (by decide) (ppa_cons (pp_var (i := 0)) (ppa_cons (pp_tup (ppa_cons (pp_var (i := 3)) (ppa_cons (pp_var (i := 4)) ppa_nil))) ppa_nil)) (alen_cons (alen_cons alen_nil))))
  (ppss_one (pps_ret (w_cmp (o2_eq ct.u64) (w_call ct.toCt C_hall_told (by decide) (ppa_cons (pp_var (i := 0)) (ppa_cons (pp_var (i := 1)) (ppa_cons (pp_var (i := 3)) (ppa_cons (pp_var (i := 4)) ppa_nil)))) (alen_cons (alen_cons (alen_cons (alen_cons alen_nil))))) (w_call ct.toCt C_hall_told (by decide) (ppa_cons (pp_var (i := 0)) (ppa_cons (pp_var (i := 2)) (ppa_cons (pp_var (i := 3)) (ppa_cons (pp_var (i := 4)) ppa_nil)))) (alen_cons (alen_cons (alen_cons (alen_cons alen_nil))))))))))
theorem sc_pairs_of : FnScope ["p", "a", "b"] ["p"] (defScope t_pairs_of) := ⟨rfl, rfl, rfl, by decide +kernel, rfl, by decide +kernel, by decide +kernel⟩
theorem b_pairs_of (G : Gl K mg) : Body P w K mg base ["p", "a", "b"] "pairs_of" t_pairs_of f 0 [] d_pairs_of := by
  intro cdv A outer s H E gd hr
  have ct := cs_of (P := P) (w := w) (K := K) (mg := mg) (base := base) (N := ["p", "a", "b"]) (E := E) (H := H) (outer := outer) gd hr (by decide)
  exact (ppss_one (pps_ret (pp_val (pp_lc2 (own := [("a", 1), ("b", 2)]) (vs1 := [2]) (ts := [1]) (ts1 := [2]) (by rfl) (tgok_name (by decide)) (tgok_name (by decide)) ct.calm ct.nd (ppi_range1 G.n_range (ppa_cons (pp_var (i := 0)) ppa_nil)) (fun s1 H1 C1 cl1 fp1 => (ppg_name (i := 1) [1] rfl (ct.blk s1 H1 _ _ fp1).nd)) (fun s1 H1 C1 cl1 fp1 => ppts_nil) (fun s1 H1 C1 cl1 fp1 => (ppi_range1 G.n_range (ppa_cons (pp_var (i := 0)) ppa_nil))) (fun s1 H1 C1 cl1 fp1 => (ppg_name (i := 2) [2] rfl (ct.blk s1 H1 _ _ fp1).nd)) (fun s1 H1 C1 cl1 fp1 => ppts_nil) (fun s1 H1 C1 cl1 fp1 => (pp_tup (ppa_cons (pp_var (i := 1)) (ppa_cons (pp_var (i := 2)) ppa_nil))))))))
theorem sc_passing : FnScope ["p", "rows", "others", "a", "b"] ["p", "rows", "others"] (defScope t_passing) := ⟨rfl, rfl, rfl, by decide +kernel, rfl, by decide +kernel, by decide +kernel⟩
theorem b_passing (G : Gl K mg) (C_check_two : CallOk P w K mg base 3 "check_two" ["p", "rows", "others"] (spP ⟨K, mg⟩ 3 s_check_two)) (C_hall_told : CallOk P w K mg base 2 "hall_told" ["p", "rows", "a", "b"] (spP ⟨K, mg⟩ 4 s_hall_told)) (C_pairs_of : CallOk P w K mg base 1 "pairs_of" ["p"] (spP ⟨K, mg⟩ 1 s_pairs_of)) : Body P w K mg base ["p", "rows", "others", "a", "b"] "passing" t_passing f 3 [] d_passing := by
  intro cdv A outer s H E gd hr
  have ct := cs_of (P := P) (w := w) (K := K) (mg := mg) (base := base) (N := ["p", "rows", "others", "a", "b"]) (E := E) (H := H) (outer := outer) gd hr (by decide)
  exact (ppss_cons (pps_expr (w_call ct.toCt C_check_two (by decide) (ppa_cons (pp_var (i := 0)) (ppa_cons (pp_var (i := 1)) (ppa_cons (pp_var (i := 2)) ppa_nil))) (alen_cons (alen_cons (alen_cons alen_nil)))))
  (ppss_one (pps_ret (w_ty on_tup G.n_tuple (ppa_cons (pp_val (pp_lc (own := [("a", 3), ("b", 4)]) (ts := [3, 4]) (by rfl) (tgok_tup (tgsok_cons (tgok_name (by decide)) (tgsok_cons (tgok_name (by decide)) tgsok_nil))) ct.calm ct.nd (ppi_seq (w_call ct.toCt C_pairs_of (by decide) (ppa_cons (pp_var (i := 0)) ppa_nil) (alen_cons alen_nil))) (fun s1 H1 C1 cl1 fp1 => (ppg_tup (ct.blk s1 H1 _ _ fp1).calm (ppgs_cons (ppg_name (i := 3) [3, 4] rfl (ct.blk s1 H1 _ _ fp1).nd) (ppgs_cons (ppg_name (i := 4) [3, 4] rfl (ct.blk s1 H1 _ _ fp1).nd) ppgs_nil)))) (fun s1 H1 C1 cl1 fp1 => (ppts_one (wt_cmp (o2_eq (ct.blk s1 H1 _ _ fp1).u64) (w_call (ct.blk s1 H1 _ _ fp1) C_hall_told (by decide) (ppa_cons (pp_var (i := 0)) (ppa_cons (pp_var (i := 1)) (ppa_cons (pp_var (i := 3)) (ppa_cons (pp_var (i := 4)) ppa_nil)))) (alen_cons (alen_cons (alen_cons (alen_cons alen_nil))))) (w_call (ct.blk s1 H1 _ _ fp1) C_hall_told (by decide) (ppa_cons (pp_var (i := 0)) (ppa_cons (pp_var (i := 2)) (ppa_cons (pp_var (i := 3)) (ppa_cons (pp_var (i := 4)) ppa_nil)))) (alen_cons (alen_cons (alen_cons (alen_cons alen_nil)))))))) (fun s1 H1 C1 cl1 fp1 => (pp_tup (ppa_cons (pp_var (i := 3)) (ppa_cons (pp_var (i := 4)) ppa_nil)))))) ppa_nil)))))
theorem sc_most_passing : FnScope ["p", "many", "width"] ["p", "many", "width"] (defScope t_most_passing) := ⟨rfl, rfl, rfl, by decide +kernel, rfl, by decide +kernel, by decide +kernel⟩
theorem b_most_passing (G : Gl K mg) (C_is_prime : CallOk P w K mg base 1 "is_prime" ["n"] (spP ⟨K, mg⟩ 1 s_is_prime)) : Body P w K mg base ["p", "many", "width"] "most_passing" t_most_passing f 1 [] d_most_passing := by
  intro cdv A outer s H E gd hr
  have ct := cs_of (P := P) (w := w) (K := K) (mg := mg) (base := base) (N := ["p", "many", "width"]) (E := E) (H := H) (outer := outer) gd hr (by decide)
  exact (ppss_cons (pps_if (PW.pt (ppw_or (ppt_not (wt_chain o2_le o2_le (w_glo (gint G.c_LEAST_PRIME)) (pp_var (i := 0)) (w_glo (gint G.c_MOST_PRIME)))) (ppw_or1 (ppt_not (ppt_val (w_call ct.toCt C_is_prime (by decide) (ppa_cons (pp_var (i := 0)) ppa_nil) (alen_cons alen_nil))))))) (ppss_one (w_raise (c := "BadNumber") G.e_BadNumber ct.calm ct.tk)) ppss_nil)
  (ppss_cons (pps_if (PW.pt (ppw_or (ppt_not (wt_chain o2_le o2_le pp_int (pp_var (i := 1)) (w_glo (gint G.c_MOST_LISTED)))) (ppw_or1 (ppt_not (wt_chain o2_le o2_le pp_int (pp_var (i := 2)) (w_glo (gint G.c_MOST_WIDTH))))))) (ppss_one (w_raise (c := "BadNumber") G.e_BadNumber ct.calm ct.tk)) ppss_nil)
  (ppss_one (pps_ret (w_op o2_mul (w_op o2_mul (pp_var (i := 0)) (pp_var (i := 1))) (w_bi (on_max2 ct.calm) G.n_max (ppa_cons pp_int (ppa_cons (w_op o2_sub (pp_var (i := 2)) pp_int) ppa_nil))))))))
theorem sc_check_table : FnScope ["p", "rows", "table", "row"] ["p", "rows", "table"] (defScope t_check_table) := ⟨rfl, rfl, rfl, by decide +kernel, rfl, by decide +kernel, by decide +kernel⟩
theorem b_check_table (G : Gl K mg) (C_check_rows : CallOk P w K mg base 2 "check_rows" ["p", "rows", "width"] (spP ⟨K, mg⟩ 3 s_check_rows)) : Body P w K mg base ["p", "rows", "table", "row"] "check_table" t_check_table f 2 [] d_check_table := by
  intro cdv A outer s H E gd hr
  have ct := cs_of (P := P) (w := w) (K := K) (mg := mg) (base := base) (N := ["p", "rows", "table", "row"]) (E := E) (H := H) (outer := outer) gd hr (by decide)
  exact (ppss_cons (pps_expr (w_call ct.toCt C_check_rows (by decide) (ppa_cons (pp_var (i := 0)) (ppa_cons (pp_var (i := 1)) (ppa_cons pp_int ppa_nil))) (alen_cons (alen_cons (alen_cons alen_nil)))))
  (ppss_cons (pps_expr (w_call ct.toCt C_check_rows (by decide) (ppa_cons (pp_var (i := 0)) (ppa_cons (pp_var (i := 2)) (ppa_cons (w_bi on_len G.n_len (ppa_cons (w_ix (pp_var (i := 1)) pp_int) ppa_nil)) ppa_nil))) (alen_cons (alen_cons (alen_cons alen_nil)))))
  (ppss_one (pps_if (wt_cmp (o2_ne ct.u64) (w_lenDC (own := [("row", 3)]) (ts := [3]) ct.toCt G.n_len (by rfl) (tgok_name (by decide)) (ppi_seq (pp_var (i := 2))) (fun s1 H1 C1 cl1 fp1 => (ppg_name (i := 3) [3] rfl (ct.blk s1 H1 _ _ fp1).nd)) (fun s1 H1 C1 cl1 fp1 => ppts_nil) (fun s1 H1 C1 cl1 fp1 => (w_ty on_tup G.n_tuple (ppa_cons (pp_var (i := 3)) ppa_nil))) (fun s1 H1 C1 cl1 fp1 => pp_bl)) (w_bi on_len G.n_len (ppa_cons (pp_var (i := 2)) ppa_nil))) (ppss_one (w_raise (c := "BadNumber") G.e_BadNumber ct.calm ct.tk)) ppss_nil))))
theorem sc_counts_in : FnScope ["p", "rows", "table", "listed", "row", "told"] ["p", "rows", "table"] (defScope t_counts_in) := ⟨rfl, rfl, rfl, by decide +kernel, rfl, by decide +kernel, by decide +kernel⟩
theorem b_counts_in (G : Gl K mg) (C_check_table : CallOk P w K mg base 3 "check_table" ["p", "rows", "table"] (spP ⟨K, mg⟩ 3 s_check_table)) : Body P w K mg base ["p", "rows", "table", "listed", "row", "told"] "counts_in" t_counts_in f 3 [] d_counts_in := by
  intro cdv A outer s H E gd hr
  have ct := cs_of (P := P) (w := w) (K := K) (mg := mg) (base := base) (N := ["p", "rows", "table", "listed", "row", "told"]) (E := E) (H := H) (outer := outer) gd hr (by decide)
  exact (ppss_cons (pps_expr (w_call ct.toCt C_check_table (by decide) (ppa_cons (pp_var (i := 0)) (ppa_cons (pp_var (i := 1)) (ppa_cons (pp_var (i := 2)) ppa_nil))) (alen_cons (alen_cons (alen_cons alen_nil)))))
  (ppss_cons (pps_set (i := 3) rfl (pp_val (pp_lc (own := [("row", 4)]) (ts := [4]) (by rfl) (tgok_name (by decide)) ct.calm ct.nd (ppi_seq (pp_var (i := 2))) (fun s1 H1 C1 cl1 fp1 => (ppg_name (i := 4) [4] rfl (ct.blk s1 H1 _ _ fp1).nd)) (fun s1 H1 C1 cl1 fp1 => ppts_nil) (fun s1 H1 C1 cl1 fp1 => (w_ty on_tup G.n_tuple (ppa_cons (pp_var (i := 4)) ppa_nil))))) ct.nd)
  (ppss_cons (pps_if (ppt_not (ppt_val (w_bi (on_all ct.calm) G.n_all (ppa_cons (pp_val (pp_lc (own := [("row", 4)]) (ts := [4]) (by rfl) (tgok_name (by decide)) ct.calm ct.nd (ppi_seq (pp_var (i := 1))) (fun s1 H1 C1 cl1 fp1 => (ppg_name (i := 4) [4] rfl (ct.blk s1 H1 _ _ fp1).nd)) (fun s1 H1 C1 cl1 fp1 => ppts_nil) (fun s1 H1 C1 cl1 fp1 => (w_cmp (o2_in (ct.blk s1 H1 _ _ fp1).u65) (w_ty on_tup G.n_tuple (ppa_cons (pp_var (i := 4)) ppa_nil)) (pp_var (i := 3)))))) ppa_nil)))) (ppss_one (w_raise (c := "NoAnswer") G.e_NoAnswer ct.calm ct.tk)) ppss_nil)
  (ppss_one (pps_ret (w_ty on_tup G.n_tuple (ppa_cons (pp_val (pp_lc (own := [("told", 5)]) (ts := [5]) (by rfl) (tgok_name (by decide)) ct.calm ct.nd (ppi_seq (pp_var (i := 3))) (fun s1 H1 C1 cl1 fp1 => (ppg_name (i := 5) [5] rfl (ct.blk s1 H1 _ _ fp1).nd)) (fun s1 H1 C1 cl1 fp1 => ppts_nil) (fun s1 H1 C1 cl1 fp1 => (w_count (ct.blk s1 H1 _ _ fp1) (pp_val (pp_lc (own := [("row", 4)]) (ts := [4]) (by rfl) (tgok_name (by decide)) (ct.blk s1 H1 _ _ fp1).calm (ct.blk s1 H1 _ _ fp1).nd (ppi_seq (pp_var (i := 1))) (fun s2 H2 C2 cl2 fp2 => (ppg_name (i := 4) [4] rfl ((ct.blk s1 H1 _ _ fp1).blk s2 H2 _ _ fp2).nd)) (fun s2 H2 C2 cl2 fp2 => ppts_nil) (fun s2 H2 C2 cl2 fp2 => (w_ty on_tup G.n_tuple (ppa_cons (pp_var (i := 4)) ppa_nil))))) (ppa_cons (pp_var (i := 5)) ppa_nil))))) ppa_nil)))))))
theorem sc_shown_told : FnScope ["p", "rows", "table", "counts", "coins", "listed", "row", "many", "_"] ["p", "rows", "table", "counts", "coins"] (defScope t_shown_told) := ⟨rfl, rfl, rfl, by decide +kernel, rfl, by decide +kernel, by decide +kernel⟩
theorem b_shown_told (G : Gl K mg) (C_hall_told : CallOk P w K mg base 2 "hall_told" ["p", "rows", "a", "b"] (spP ⟨K, mg⟩ 4 s_hall_told)) : Body P w K mg base ["p", "rows", "table", "counts", "coins", "listed", "row", "many", "_"] "shown_told" t_shown_told f 2 [] d_shown_told := by
  intro cdv A outer s H E gd hr
  have ct := cs_of (P := P) (w := w) (K := K) (mg := mg) (base := base) (N := ["p", "rows", "table", "counts", "coins", "listed", "row", "many", "_"]) (E := E) (H := H) (outer := outer) gd hr (by decide)
  exact (ppss_cons (pps_if (wt_cmp (o2_ne ct.u64) (w_bi (on_sum ct.calm) G.n_sum (ppa_cons (pp_var (i := 3)) ppa_nil)) (w_bi on_len G.n_len (ppa_cons (pp_var (i := 1)) ppa_nil))) (ppss_one (pps_ret pp_bl)) ppss_nil)
  (ppss_cons (pps_setLc2 (own := [("row", 6), ("many", 7), ("_", 8)]) (vs1 := [8]) (ts := [6, 7]) (ts1 := [8]) rfl (by rfl) (tgok_tup (tgsok_cons (tgok_name (by decide)) (tgsok_cons (tgok_name (by decide)) tgsok_nil))) (tgok_name (by decide)) ct.calm ct.nd (ppi_zip G.n_zip (ppa_cons (pp_var (i := 2)) (ppa_cons (pp_var (i := 3)) ppa_nil))) (fun s1 H1 C1 cl1 fp1 => (ppg_tup (ct.blk s1 H1 _ _ fp1).calm (ppgs_cons (ppg_name (i := 6) [6, 7] rfl (ct.blk s1 H1 _ _ fp1).nd) (ppgs_cons (ppg_name (i := 7) [6, 7] rfl (ct.blk s1 H1 _ _ fp1).nd) ppgs_nil)))) (fun s1 H1 C1 cl1 fp1 => ppts_nil) (fun s1 H1 C1 cl1 fp1 => (ppi_range1 G.n_range (ppa_cons (pp_var (i := 7)) ppa_nil))) (fun s1 H1 C1 cl1 fp1 => (ppg_name (i := 8) [8] rfl (ct.blk s1 H1 _ _ fp1).nd)) (fun s1 H1 C1 cl1 fp1 => ppts_nil) (fun s1 H1 C1 cl1 fp1 => (pp_var (i := 6))) rfl)
  (ppss_one (pps_ret (w_cmp (o2_eq ct.u64) (w_call ct.toCt C_hall_told (by decide) (ppa_cons (pp_var (i := 0)) (ppa_cons (pp_var (i := 1)) (ppa_cons (w_ix (pp_var (i := 4)) pp_int) (ppa_cons (w_ix (pp_var (i := 4)) pp_int) ppa_nil)))) (alen_cons (alen_cons (alen_cons (alen_cons alen_nil))))) (w_call ct.toCt C_hall_told (by decide) (ppa_cons (pp_var (i := 0)) (ppa_cons (pp_var (i := 5)) (ppa_cons (w_ix (pp_var (i := 4)) pp_int) (ppa_cons (w_ix (pp_var (i := 4)) pp_int) ppa_nil)))) (alen_cons (alen_cons (alen_cons (alen_cons alen_nil))))))))))
theorem sc_check_counts : FnScope ["p", "rows", "table", "counts", "many"] ["p", "rows", "table", "counts"] (defScope t_check_counts) := ⟨rfl, rfl, rfl, by decide +kernel, rfl, by decide +kernel, by decide +kernel⟩
theorem b_check_counts (G : Gl K mg) (C_check_table : CallOk P w K mg base 3 "check_table" ["p", "rows", "table"] (spP ⟨K, mg⟩ 3 s_check_table)) : Body P w K mg base ["p", "rows", "table", "counts", "many"] "check_counts" t_check_counts f 3 [] d_check_counts := by
  intro cdv A outer s H E gd hr
  have ct := cs_of (P := P) (w := w) (K := K) (mg := mg) (base := base) (N := ["p", "rows", "table", "counts", "many"]) (E := E) (H := H) (outer := outer) gd hr (by decide)
  exact (ppss_cons (pps_expr (w_call ct.toCt C_check_table (by decide) (ppa_cons (pp_var (i := 0)) (ppa_cons (pp_var (i := 1)) (ppa_cons (pp_var (i := 2)) ppa_nil))) (alen_cons (alen_cons (alen_cons alen_nil)))))
  (ppss_one (pps_if (PW.pt (ppw_or (wt_cmp (o2_ne ct.u64) (w_bi on_len G.n_len (ppa_cons (pp_var (i := 3)) ppa_nil)) (w_bi on_len G.n_len (ppa_cons (pp_var (i := 2)) ppa_nil))) (ppw_or1 (ppt_not (ppt_val (w_bi (on_all ct.calm) G.n_all (ppa_cons (pp_val (pp_lc (own := [("many", 4)]) (ts := [4]) (by rfl) (tgok_name (by decide)) ct.calm ct.nd (ppi_seq (pp_var (i := 3))) (fun s1 H1 C1 cl1 fp1 => (ppg_name (i := 4) [4] rfl (ct.blk s1 H1 _ _ fp1).nd)) (fun s1 H1 C1 cl1 fp1 => ppts_nil) (fun s1 H1 C1 cl1 fp1 => (w_chain o2_le o2_le pp_int (pp_var (i := 4)) (w_glo (gint G.c_MOST_LISTED)))))) ppa_nil))))))) (ppss_one (w_raise (c := "BadNumber") G.e_BadNumber ct.calm ct.tk)) ppss_nil)))
theorem sc_shown_by : FnScope ["p", "rows", "table", "counts", "a", "b"] ["p", "rows", "table", "counts", "a", "b"] (defScope t_shown_by) := ⟨rfl, rfl, rfl, by decide +kernel, rfl, by decide +kernel, by decide +kernel⟩
theorem b_shown_by (G : Gl K mg) (C_check_coins : CallOk P w K mg base 2 "check_coins" ["p", "coins"] (spP ⟨K, mg⟩ 2 s_check_coins)) (C_check_counts : CallOk P w K mg base 4 "check_counts" ["p", "rows", "table", "counts"] (spP ⟨K, mg⟩ 4 s_check_counts)) (C_shown_told : CallOk P w K mg base 3 "shown_told" ["p", "rows", "table", "counts", "coins"] (spP ⟨K, mg⟩ 5 s_shown_told)) : Body P w K mg base ["p", "rows", "table", "counts", "a", "b"] "shown_by" t_shown_by f 4 [] d_shown_by := by
  intro cdv A outer s H E gd hr
  have ct := cs_of (P := P) (w := w) (K := K) (mg := mg) (base := base) (N := ["p", "rows", "table", "counts", "a", "b"]) (E := E) (H := H) (outer := outer) gd hr (by decide)
  exact (ppss_cons (pps_expr (w_call ct.toCt C_check_counts (by decide) (ppa_cons (pp_var (i := 0)) (ppa_cons (pp_var (i := 1)) (ppa_cons (pp_var (i := 2)) (ppa_cons (pp_var (i := 3)) ppa_nil)))) (alen_cons (alen_cons (alen_cons (alen_cons alen_nil))))))
  (ppss_cons (pps_expr (w_call ct.toCt C_check_coins (by decide) (ppa_cons (pp_var (i := 0)) (ppa_cons (pp_tup (ppa_cons (pp_var (i := 4)) (ppa_cons (pp_var (i := 5)) ppa_nil))) ppa_nil)) (alen_cons (alen_cons alen_nil))))
  (ppss_one (pps_ret (w_call ct.toCt C_shown_told (by decide) (ppa_cons (pp_var (i := 0)) (ppa_cons (pp_var (i := 1)) (ppa_cons (pp_var (i := 2)) (ppa_cons (pp_var (i := 3)) (ppa_cons (pp_tup (ppa_cons (pp_var (i := 4)) (ppa_cons (pp_var (i := 5)) ppa_nil))) ppa_nil))))) (alen_cons (alen_cons (alen_cons (alen_cons (alen_cons alen_nil))))))))))
theorem sc_passing_counts : FnScope ["p", "rows", "table", "counts", "coins"] ["p", "rows", "table", "counts"] (defScope t_passing_counts) := ⟨rfl, rfl, rfl, by decide +kernel, rfl, by decide +kernel, by decide +kernel⟩
theorem b_passing_counts (G : Gl K mg) (C_check_counts : CallOk P w K mg base 4 "check_counts" ["p", "rows", "table", "counts"] (spP ⟨K, mg⟩ 4 s_check_counts)) (C_pairs_of : CallOk P w K mg base 1 "pairs_of" ["p"] (spP ⟨K, mg⟩ 1 s_pairs_of)) (C_shown_told : CallOk P w K mg base 3 "shown_told" ["p", "rows", "table", "counts", "coins"] (spP ⟨K, mg⟩ 5 s_shown_told)) : Body P w K mg base ["p", "rows", "table", "counts", "coins"] "passing_counts" t_passing_counts f 4 [] d_passing_counts := by
  intro cdv A outer s H E gd hr
  have ct := cs_of (P := P) (w := w) (K := K) (mg := mg) (base := base) (N := ["p", "rows", "table", "counts", "coins"]) (E := E) (H := H) (outer := outer) gd hr (by decide)
  exact (ppss_cons (pps_expr (w_call ct.toCt C_check_counts (by decide) (ppa_cons (pp_var (i := 0)) (ppa_cons (pp_var (i := 1)) (ppa_cons (pp_var (i := 2)) (ppa_cons (pp_var (i := 3)) ppa_nil)))) (alen_cons (alen_cons (alen_cons (alen_cons alen_nil))))))
  (ppss_one (pps_ret (w_ty on_tup G.n_tuple (ppa_cons (pp_val (pp_lc (own := [("coins", 4)]) (ts := [4]) (by rfl) (tgok_name (by decide)) ct.calm ct.nd (ppi_seq (w_call ct.toCt C_pairs_of (by decide) (ppa_cons (pp_var (i := 0)) ppa_nil) (alen_cons alen_nil))) (fun s1 H1 C1 cl1 fp1 => (ppg_name (i := 4) [4] rfl (ct.blk s1 H1 _ _ fp1).nd)) (fun s1 H1 C1 cl1 fp1 => (ppts_one (ppt_val (w_call (ct.blk s1 H1 _ _ fp1) C_shown_told (by decide) (ppa_cons (pp_var (i := 0)) (ppa_cons (pp_var (i := 1)) (ppa_cons (pp_var (i := 2)) (ppa_cons (pp_var (i := 3)) (ppa_cons (pp_var (i := 4)) ppa_nil))))) (alen_cons (alen_cons (alen_cons (alen_cons (alen_cons alen_nil))))))))) (fun s1 H1 C1 cl1 fp1 => (pp_var (i := 4))))) ppa_nil)))))
theorem sc__law_number : FnScope ["cell"] ["cell"] (defScope t__law_number) := ⟨rfl, rfl, rfl, by decide +kernel, rfl, by decide +kernel, by decide +kernel⟩
theorem b__law_number (G : Gl K mg) : Body P w K mg base ["cell"] "_law_number" t__law_number f 0 [] d__law_number := by
  intro cdv A outer s H E gd hr
  have ct := cs_of (P := P) (w := w) (K := K) (mg := mg) (base := base) (N := ["cell"]) (E := E) (H := H) (outer := outer) gd hr (by decide)
  exact (ppss_cons (pps_if (wt_cmp o2_lt (pp_var (i := 0)) pp_int) (ppss_one (pps_ret (w_op o2_sub pp_int (pp_var (i := 0))))) ppss_nil)
  (ppss_one (pps_ret (pp_var (i := 0)))))
theorem sc__law_draws : FnScope ["script", "draws", "cell", "rest", "k", "once", "twice"] ["script"] (defScope t__law_draws) := ⟨rfl, rfl, rfl, by decide +kernel, rfl, by decide +kernel, by decide +kernel⟩
theorem b__law_draws (G : Gl K mg) (C__law_number : CallOk P w K mg base 1 "_law_number" ["cell"] (spP ⟨K, mg⟩ 1 s__law_number)) : Body P w K mg base ["script", "draws", "cell", "rest", "k", "once", "twice"] "_law_draws" t__law_draws f 1 [] d__law_draws := by
  intro cdv A outer s H E gd hr
  have ct := cs_of (P := P) (w := w) (K := K) (mg := mg) (base := base) (N := ["script", "draws", "cell", "rest", "k", "once", "twice"]) (E := E) (H := H) (outer := outer) gd hr (by decide)
  exact (ppss_cons (pps_setN (i := 1) rfl (pp_lst ppa_nil) ct.nd)
  (ppss_cons (pps_for ct.pass ct.calm (ppi_seq (pp_var (i := 0))) (ppg_name (i := 2) [2] rfl ct.nd) (ppss_cons (pps_set (i := 3) rfl (w_call ct.toCt C__law_number (by decide) (ppa_cons (pp_var (i := 2)) ppa_nil) (alen_cons alen_nil)) ct.nd)
  (ppss_one (pps_if (wt_cmp o2_ge (pp_var (i := 3)) pp_int) (ppss_one (pps_for ct.pass ct.calm (ppi_range1 G.n_range (ppa_cons pp_int ppa_nil)) (ppg_name (i := 4) [4] rfl ct.nd) (ppss_cons (pps_if (wt_cmp (o2_eq ct.u64) (pp_var (i := 3)) pp_int) (ppss_one pps_break) ppss_nil)
  (ppss_cons (pps_expr (w_append (i := 1) (ppa_cons (w_op o2_mod (w_ty on_int G.n_int (ppa_cons (pp_var (i := 3)) ppa_nil)) pp_int) ppa_nil)))
  (ppss_one (pps_set (i := 3) rfl (w_op o2_fdiv (pp_var (i := 3)) pp_int) ct.nd)))))) (ppss_cons (pps_set (i := 5) rfl (w_op o2_mod (w_ty on_int G.n_int (ppa_cons (w_op o2_add (w_op o2_mul (pp_var (i := 3)) pp_int) pp_int) ppa_nil)) pp_int) ct.nd)
  (ppss_cons (pps_set (i := 6) rfl (w_op o2_mod (w_ty on_int G.n_int (ppa_cons (w_op o2_add (w_op o2_mul (pp_var (i := 5)) pp_int) (pp_var (i := 3))) ppa_nil)) pp_int) ct.nd)
  (ppss_one (pps_expr (w_extend (i := 1) (ppa_cons (pp_val (pp_lst (ppa_cons (w_op o2_mod (w_ty on_int G.n_int (ppa_cons (pp_var (i := 3)) ppa_nil)) pp_int) (ppa_cons (w_op o2_mod (w_ty on_int G.n_int (ppa_cons (pp_var (i := 5)) ppa_nil)) pp_int) (ppa_cons (w_op o2_mod (w_ty on_int G.n_int (ppa_cons (pp_var (i := 6)) ppa_nil)) pp_int) ppa_nil))))) ppa_nil))))))))))
  (ppss_cons (pps_expr (w_reverse (i := 1)))
  (ppss_one (pps_retO (i := 1))))))
theorem sc__law_next : FnScope ["draws"] ["draws"] (defScope t__law_next) := ⟨rfl, rfl, rfl, by decide +kernel, rfl, by decide +kernel, by decide +kernel⟩
theorem b__law_next (G : Gl K mg) : Body P w K mg base ["draws"] "_law_next" t__law_next f 0 [0] d__law_next := by
  intro cdv A outer s H E gd hr
  have ct := cs_of (P := P) (w := w) (K := K) (mg := mg) (base := base) (N := ["draws"]) (E := E) (H := H) (outer := outer) gd hr (by decide)
  exact (ppss_cons (pps_if (ppt_val (pp_var (i := 0))) (ppss_one (pps_ret (w_pop (i := 0)))) ppss_nil)
  (ppss_one (pps_ret pp_int)))
theorem sc__law_more : FnScope ["draws", "many", "seed", "more", "k"] ["draws", "many"] (defScope t__law_more) := ⟨rfl, rfl, rfl, by decide +kernel, rfl, by decide +kernel, by decide +kernel⟩
theorem b__law_more (G : Gl K mg) (C__law_next : CallOk P w K mg base 1 "_law_next" ["draws"] (spO ⟨K, mg⟩ 1 s__law_next)) : Body P w K mg base ["draws", "many", "seed", "more", "k"] "_law_more" t__law_more f 1 [0] d__law_more := by
  intro cdv A outer s H E gd hr
  have ct := cs_of (P := P) (w := w) (K := K) (mg := mg) (base := base) (N := ["draws", "many", "seed", "more", "k"]) (E := E) (H := H) (outer := outer) gd hr (by decide)
  exact (ppss_cons (pps_set (i := 2) rfl (w_op o2_add (w_op o2_add (w_op o2_mul pp_int (w_callo (i := 0) ct.toCt C__law_next (by decide) ppa_nil alen_nil)) (w_callo (i := 0) ct.toCt C__law_next (by decide) ppa_nil alen_nil)) pp_int) ct.nd)
  (ppss_cons (pps_setN (i := 3) rfl (pp_lst ppa_nil) ct.nd)
  (ppss_cons (pps_for ct.pass ct.calm (ppi_range1 G.n_range (ppa_cons (pp_var (i := 1)) ppa_nil)) (ppg_name (i := 4) [4] rfl ct.nd) (ppss_cons (pps_set (i := 2) rfl (w_op o2_mod (w_ty on_int G.n_int (ppa_cons (w_op o2_add (w_op o2_mul (pp_var (i := 2)) pp_int) pp_int) ppa_nil)) pp_int) ct.nd)
  (ppss_one (pps_expr (w_append (i := 3) (ppa_cons (w_op o2_mod (w_ty on_int G.n_int (ppa_cons (w_op o2_fdiv (pp_var (i := 2)) pp_int) ppa_nil)) pp_int) ppa_nil))))))
  (ppss_one (pps_retL (w_opn o2n_cat (pp_var (i := 3)) (pp_var (i := 0))))))))
theorem sc__law_pick : FnScope ["draws", "some"] ["draws", "some"] (defScope t__law_pick) := ⟨rfl, rfl, rfl, by decide +kernel, rfl, by decide +kernel, by decide +kernel⟩
theorem b__law_pick (G : Gl K mg) (C__law_next : CallOk P w K mg base 1 "_law_next" ["draws"] (spO ⟨K, mg⟩ 1 s__law_next)) : Body P w K mg base ["draws", "some"] "_law_pick" t__law_pick f 1 [0] d__law_pick := by
  intro cdv A outer s H E gd hr
  have ct := cs_of (P := P) (w := w) (K := K) (mg := mg) (base := base) (N := ["draws", "some"]) (E := E) (H := H) (outer := outer) gd hr (by decide)
  exact (ppss_one (pps_ret (w_ix (pp_var (i := 1)) (w_op o2_mod (w_ty on_int G.n_int (ppa_cons (w_callo (i := 0) ct.toCt C__law_next (by decide) ppa_nil alen_nil) ppa_nil)) (w_bi on_len G.n_len (ppa_cons (pp_var (i := 1)) ppa_nil))))))
theorem sc__law_flat : FnScope ["rows", "found", "row"] ["rows"] (defScope t__law_flat) := ⟨rfl, rfl, rfl, by decide +kernel, rfl, by decide +kernel, by decide +kernel⟩
theorem b__law_flat (G : Gl K mg) : Body P w K mg base ["rows", "found", "row"] "_law_flat" t__law_flat f 0 [] d__law_flat := by
  intro cdv A outer s H E gd hr
  have ct := cs_of (P := P) (w := w) (K := K) (mg := mg) (base := base) (N := ["rows", "found", "row"]) (E := E) (H := H) (outer := outer) gd hr (by decide)
  exact (ppss_cons (pps_setN (i := 1) rfl (pp_lst ppa_nil) ct.nd)
  (ppss_cons (pps_for ct.pass ct.calm (ppi_seq (pp_var (i := 0))) (ppg_name (i := 2) [2] rfl ct.nd) (ppss_one (pps_expr (w_extend (i := 1) (ppa_cons (pp_var (i := 2)) ppa_nil)))))
  (ppss_one (pps_ret (pp_var (i := 1))))))
theorem sc__law_some : FnScope ["draws", "p", "many", "at"] ["draws", "p", "many"] (defScope t__law_some) := ⟨rfl, rfl, rfl, by decide +kernel, rfl, by decide +kernel, by decide +kernel⟩
theorem b__law_some (G : Gl K mg) (C__law_next : CallOk P w K mg base 1 "_law_next" ["draws"] (spO ⟨K, mg⟩ 1 s__law_next)) : Body P w K mg base ["draws", "p", "many", "at"] "_law_some" t__law_some f 1 [0] d__law_some := by
  intro cdv A outer s H E gd hr
  have ct := cs_of (P := P) (w := w) (K := K) (mg := mg) (base := base) (N := ["draws", "p", "many", "at"]) (E := E) (H := H) (outer := outer) gd hr (by decide)
  exact (ppss_one (pps_ret (w_ty on_tup G.n_tuple (ppa_cons (pp_val (pp_lc (own := [("at", 3)]) (ts := [3]) (by rfl) (tgok_name (by decide)) ct.calm ct.nd (ppi_range1 G.n_range (ppa_cons (pp_var (i := 2)) ppa_nil)) (fun s1 H1 C1 cl1 fp1 => (ppg_name (i := 3) [3] rfl (ct.blk s1 H1 _ _ fp1).nd)) (fun s1 H1 C1 cl1 fp1 => ppts_nil) (fun s1 H1 C1 cl1 fp1 => (w_op o2_mod (w_ty on_int G.n_int (ppa_cons (w_callo (i := 0) (ct.blk s1 H1 _ _ fp1) C__law_next (by decide) ppa_nil alen_nil) ppa_nil)) (pp_var (i := 1)))))) ppa_nil))))
theorem sc__law_mixed : FnScope ["p", "numbers", "coin", "found", "power", "number"] ["p", "numbers", "coin"] (defScope t__law_mixed) := ⟨rfl, rfl, rfl, by decide +kernel, rfl, by decide +kernel, by decide +kernel⟩
theorem b__law_mixed (G : Gl K mg) : Body P w K mg base ["p", "numbers", "coin", "found", "power", "number"] "_law_mixed" t__law_mixed f 0 [] d__law_mixed := by
  intro cdv A outer s H E gd hr
  have ct := cs_of (P := P) (w := w) (K := K) (mg := mg) (base := base) (N := ["p", "numbers", "coin", "found", "power", "number"]) (E := E) (H := H) (outer := outer) gd hr (by decide)
  exact (ppss_cons (pps_asg (pp_tup (ppa_cons pp_int (ppa_cons pp_int ppa_nil))) (ppg_tup ct.calm (ppgs_cons (ppg_name (i := 3) [3, 4] rfl ct.nd) (ppgs_cons (ppg_name (i := 4) [3, 4] rfl ct.nd) ppgs_nil))))
  (ppss_cons (pps_for ct.pass ct.calm (ppi_seq (pp_var (i := 1))) (ppg_name (i := 5) [5] rfl ct.nd) (ppss_one (pps_par2 (i := 3) (j := 4) (by decide) ct.calm ct.nd (ppan_sv (w_ty on_int G.n_int (ppa_cons (w_op o2_mod (w_op o2_add (pp_var (i := 3)) (w_op o2_mul (pp_var (i := 5)) (pp_var (i := 4)))) (pp_var (i := 0))) ppa_nil)) (ppan_sv (w_ty on_int G.n_int (ppa_cons (w_op o2_mod (w_op o2_mul (pp_var (i := 4)) (pp_var (i := 2))) (pp_var (i := 0))) ppa_nil)) ppan_nil)))))
  (ppss_one (pps_ret (pp_var (i := 3))))))
theorem sc__law_asked : FnScope ["way", "p", "rows", "others", "one", "two", "error"] ["way", "p", "rows", "others", "one", "two"] (defScope t__law_asked) := ⟨rfl, rfl, rfl, by decide +kernel, rfl, by decide +kernel, by decide +kernel⟩
theorem b__law_asked (G : Gl K mg) (K__law_kind : KindOk P w K mg base 1 "_law_kind" "error" kindOf) (C_counts_in : CallOk P w K mg base 4 "counts_in" ["p", "rows", "table"] (spP ⟨K, mg⟩ 3 s_counts_in)) (C_fingerprint : CallOk P w K mg base 3 "fingerprint" ["p", "row", "a"] (spP ⟨K, mg⟩ 3 s_fingerprint)) (C_hall : CallOk P w K mg base 3 "hall" ["p", "rows", "a", "b"] (spP ⟨K, mg⟩ 4 s_hall)) (C_most_passing : CallOk P w K mg base 2 "most_passing" ["p", "many", "width"] (spP ⟨K, mg⟩ 3 s_most_passing)) (C_passing : CallOk P w K mg base 4 "passing" ["p", "rows", "others"] (spP ⟨K, mg⟩ 3 s_passing)) (C_passing_counts : CallOk P w K mg base 5 "passing_counts" ["p", "rows", "table", "counts"] (spP ⟨K, mg⟩ 4 s_passing_counts)) (C_same_hall : CallOk P w K mg base 4 "same_hall" ["p", "rows", "others", "a", "b"] (spP ⟨K, mg⟩ 5 s_same_hall)) (C_shown_by : CallOk P w K mg base 5 "shown_by" ["p", "rows", "table", "counts", "a", "b"] (spP ⟨K, mg⟩ 6 s_shown_by)) : Body P w K mg base ["way", "p", "rows", "others", "one", "two", "error"] "_law_asked" t__law_asked f 5 [] d__law_asked := by
  intro cdv A outer s H E gd hr
  have ct := cs_of (P := P) (w := w) (K := K) (mg := mg) (base := base) (N := ["way", "p", "rows", "others", "one", "two", "error"]) (E := E) (H := H) (outer := outer) gd hr (by decide)
  exact (ppss_one (w_try (i := 6) ct K__law_kind (by decide) G.h_ShowError (fun _ _ _ cT => (ppss_cons (pps_if (wt_cmp o2_lt (pp_var (i := 0)) pp_int) (ppss_one (pps_ret (pp_if (wt_cmp (o2_eq cT.u64) (pp_var (i := 0)) pp_int) (w_call cT.toCt C_fingerprint (by decide) (ppa_cons (pp_var (i := 1)) (ppa_cons (pp_var (i := 2)) (ppa_cons (pp_var (i := 4)) ppa_nil))) (alen_cons (alen_cons (alen_cons alen_nil)))) (w_call cT.toCt C_hall (by decide) (ppa_cons (pp_var (i := 1)) (ppa_cons (pp_var (i := 2)) (ppa_cons (pp_var (i := 4)) (ppa_cons (pp_var (i := 5)) ppa_nil)))) (alen_cons (alen_cons (alen_cons (alen_cons alen_nil)))))))) ppss_nil)
  (ppss_cons (pps_if (wt_cmp o2_lt (pp_var (i := 0)) pp_int) (ppss_one (pps_ret (pp_if (wt_cmp (o2_eq cT.u64) (pp_var (i := 0)) pp_int) (w_call cT.toCt C_same_hall (by decide) (ppa_cons (pp_var (i := 1)) (ppa_cons (pp_var (i := 2)) (ppa_cons (pp_var (i := 3)) (ppa_cons (pp_var (i := 4)) (ppa_cons (pp_var (i := 5)) ppa_nil))))) (alen_cons (alen_cons (alen_cons (alen_cons (alen_cons alen_nil)))))) (w_call cT.toCt C_passing (by decide) (ppa_cons (pp_var (i := 1)) (ppa_cons (pp_var (i := 2)) (ppa_cons (pp_var (i := 3)) ppa_nil))) (alen_cons (alen_cons (alen_cons alen_nil))))))) ppss_nil)
  (ppss_cons (pps_if (wt_cmp o2_lt (pp_var (i := 0)) pp_int) (ppss_one (pps_ret (pp_if (wt_cmp (o2_eq cT.u64) (pp_var (i := 0)) pp_int) (w_call cT.toCt C_counts_in (by decide) (ppa_cons (pp_var (i := 1)) (ppa_cons (pp_var (i := 2)) (ppa_cons (pp_var (i := 3)) ppa_nil))) (alen_cons (alen_cons (alen_cons alen_nil)))) (w_call cT.toCt C_most_passing (by decide) (ppa_cons (pp_var (i := 1)) (ppa_cons (pp_var (i := 2)) (ppa_cons (pp_var (i := 3)) ppa_nil))) (alen_cons (alen_cons (alen_cons alen_nil))))))) ppss_nil)
  (ppss_one (pps_ret (pp_if (wt_cmp (o2_eq cT.u64) (pp_var (i := 0)) pp_int) (w_call cT.toCt C_shown_by (by decide) (ppa_cons (pp_var (i := 1)) (ppa_cons (pp_var (i := 2)) (ppa_cons (pp_var (i := 3)) (ppa_cons (pp_var (i := 4)) (ppa_cons (w_ix (pp_var (i := 5)) pp_int) (ppa_cons (w_ix (pp_var (i := 5)) pp_int) ppa_nil)))))) (alen_cons (alen_cons (alen_cons (alen_cons (alen_cons (alen_cons alen_nil))))))) (w_call cT.toCt C_passing_counts (by decide) (ppa_cons (pp_var (i := 1)) (ppa_cons (pp_var (i := 2)) (ppa_cons (pp_var (i := 3)) (ppa_cons (pp_var (i := 4)) ppa_nil)))) (alen_cons (alen_cons (alen_cons (alen_cons alen_nil))))))))))))))
theorem sc__law_hall : FnScope ["p", "rows", "a", "b", "found", "row"] ["p", "rows", "a", "b"] (defScope t__law_hall) := ⟨rfl, rfl, rfl, by decide +kernel, rfl, by decide +kernel, by decide +kernel⟩
theorem b__law_hall (G : Gl K mg) (C__law_mixed : CallOk P w K mg base 1 "_law_mixed" ["p", "numbers", "coin"] (spP ⟨K, mg⟩ 3 s__law_mixed)) : Body P w K mg base ["p", "rows", "a", "b", "found", "row"] "_law_hall" t__law_hall f 1 [] d__law_hall := by
  intro cdv A outer s H E gd hr
  have ct := cs_of (P := P) (w := w) (K := K) (mg := mg) (base := base) (N := ["p", "rows", "a", "b", "found", "row"]) (E := E) (H := H) (outer := outer) gd hr (by decide)
  exact (ppss_cons (pps_set (i := 4) rfl pp_int ct.nd)
  (ppss_cons (pps_for ct.pass ct.calm (ppi_seq (pp_var (i := 1))) (ppg_name (i := 5) [5] rfl ct.nd) (ppss_one (pps_set (i := 4) rfl (w_ty on_int G.n_int (ppa_cons (w_op o2_mod (w_op o2_mul (pp_var (i := 4)) (w_op o2_sub (pp_var (i := 3)) (w_call ct.toCt C__law_mixed (by decide) (ppa_cons (pp_var (i := 0)) (ppa_cons (pp_var (i := 5)) (ppa_cons (pp_var (i := 2)) ppa_nil))) (alen_cons (alen_cons (alen_cons alen_nil)))))) (pp_var (i := 0))) ppa_nil)) ct.nd)))
  (ppss_one (pps_ret (pp_var (i := 4))))))
theorem sc__law_coins : FnScope ["p", "a", "b"] ["p"] (defScope t__law_coins) := ⟨rfl, rfl, rfl, by decide +kernel, rfl, by decide +kernel, by decide +kernel⟩
theorem b__law_coins (G : Gl K mg) (C__law_flat : CallOk P w K mg base 1 "_law_flat" ["rows"] (spP ⟨K, mg⟩ 1 s__law_flat)) : Body P w K mg base ["p", "a", "b"] "_law_coins" t__law_coins f 1 [] d__law_coins := by
  intro cdv A outer s H E gd hr
  have ct := cs_of (P := P) (w := w) (K := K) (mg := mg) (base := base) (N := ["p", "a", "b"]) (E := E) (H := H) (outer := outer) gd hr (by decide)
  exact (ppss_one (pps_ret (w_call ct.toCt C__law_flat (by decide) (ppa_cons (pp_val (pp_lc (own := [("a", 1)]) (ts := [1]) (by rfl) (tgok_name (by decide)) ct.calm ct.nd (ppi_range1 G.n_range (ppa_cons (pp_var (i := 0)) ppa_nil)) (fun s1 H1 C1 cl1 fp1 => (ppg_name (i := 1) [1] rfl (ct.blk s1 H1 _ _ fp1).nd)) (fun s1 H1 C1 cl1 fp1 => ppts_nil) (fun s1 H1 C1 cl1 fp1 => (pp_val (pp_lc (own := [("b", 2)]) (ts := [2]) (by rfl) (tgok_name (by decide)) (ct.blk s1 H1 _ _ fp1).calm (ct.blk s1 H1 _ _ fp1).nd (ppi_range1 G.n_range (ppa_cons (pp_var (i := 0)) ppa_nil)) (fun s2 H2 C2 cl2 fp2 => (ppg_name (i := 2) [2] rfl ((ct.blk s1 H1 _ _ fp1).blk s2 H2 _ _ fp2).nd)) (fun s2 H2 C2 cl2 fp2 => ppts_nil) (fun s2 H2 C2 cl2 fp2 => (pp_tup (ppa_cons (pp_var (i := 1)) (ppa_cons (pp_var (i := 2)) ppa_nil))))))))) ppa_nil) (alen_cons alen_nil))))
theorem sc__law_shuffled : FnScope ["draws", "rows", "rest", "found", "turn"] ["draws", "rows"] (defScope t__law_shuffled) := ⟨rfl, rfl, rfl, by decide +kernel, rfl, by decide +kernel, by decide +kernel⟩
theorem b__law_shuffled (G : Gl K mg) (C__law_next : CallOk P w K mg base 1 "_law_next" ["draws"] (spO ⟨K, mg⟩ 1 s__law_next)) : Body P w K mg base ["draws", "rows", "rest", "found", "turn"] "_law_shuffled" t__law_shuffled f 1 [0] d__law_shuffled := by
  intro cdv A outer s H E gd hr
  have ct := cs_of (P := P) (w := w) (K := K) (mg := mg) (base := base) (N := ["draws", "rows", "rest", "found", "turn"]) (E := E) (H := H) (outer := outer) gd hr (by decide)
  exact (ppss_cons (pps_par2 (i := 2) (j := 3) (by decide) ct.calm ct.nd (ppan_nw (w_tyn onn_list G.n_list (ppa_cons (pp_var (i := 1)) ppa_nil)) (ppan_nw (pp_lst ppa_nil) ppan_nil)))
  (ppss_cons (pps_for ct.pass ct.calm (ppi_range1 G.n_range (ppa_cons (w_bi on_len G.n_len (ppa_cons (pp_var (i := 1)) ppa_nil)) ppa_nil)) (ppg_name (i := 4) [4] rfl ct.nd) (ppss_one (pps_expr (w_append (i := 3) (ppa_cons (w_popAt (i := 2) (ppa_cons (w_op o2_mod (w_ty on_int G.n_int (ppa_cons (w_callo (i := 0) ct.toCt C__law_next (by decide) ppa_nil alen_nil) ppa_nil)) (w_bi on_len G.n_len (ppa_cons (pp_var (i := 2)) ppa_nil))) ppa_nil)) ppa_nil)))))
  (ppss_one (pps_ret (w_ty on_tup G.n_tuple (ppa_cons (pp_var (i := 3)) ppa_nil))))))
theorem sc_law : FnScope [("script" : Str), ("draws" : Str), ("p" : Str), ("width" : Str), ("many" : Str), ("rows" : Str), ("a" : Str), ("b" : Str), ("changed" : Str), ("drawn" : Str), ("others" : Str), ("due" : Str), ("same" : Str), ("most" : Str), ("table" : Str), ("told" : Str), ("counts" : Str), ("there" : Str), ("wrong" : Str), ("some" : Str), ("listed" : Str), ("known" : Str), ("lists" : Str), ("turn" : Str), ("row" : Str), ("other" : Str), ("q" : Str), ("bad" : Str), ("n" : Str), ("w" : Str), ("coins" : Str), ("at" : Str), ("coin" : Str)] ["script"] (defScope t_law) := ⟨rfl, rfl, rfl, by decide +kernel, rfl, by decide +kernel, by decide +kernel⟩
theorem b_law (G : Gl K mg) (C__law_asked : CallOk P w K mg base 6 "_law_asked" ["way", "p", "rows", "others", "one", "two"] (spP ⟨K, mg⟩ 6 s__law_asked)) (C__law_coins : CallOk P w K mg base 2 "_law_coins" ["p"] (spP ⟨K, mg⟩ 1 s__law_coins)) (C__law_draws : CallOk P w K mg base 2 "_law_draws" ["script"] (spN ⟨K, mg⟩ 1 s__law_draws)) (C__law_flat : CallOk P w K mg base 1 "_law_flat" ["rows"] (spP ⟨K, mg⟩ 1 s__law_flat)) (C__law_hall : CallOk P w K mg base 2 "_law_hall" ["p", "rows", "a", "b"] (spP ⟨K, mg⟩ 4 s__law_hall)) (C__law_mixed : CallOk P w K mg base 1 "_law_mixed" ["p", "numbers", "coin"] (spP ⟨K, mg⟩ 3 s__law_mixed)) (C__law_more : CallOk P w K mg base 2 "_law_more" ["draws", "many"] (spON ⟨K, mg⟩ 2 s__law_more)) (C__law_next : CallOk P w K mg base 1 "_law_next" ["draws"] (spO ⟨K, mg⟩ 1 s__law_next)) (C__law_pick : CallOk P w K mg base 2 "_law_pick" ["draws", "some"] (spO ⟨K, mg⟩ 2 s__law_pick)) (C__law_shuffled : CallOk P w K mg base 2 "_law_shuffled" ["draws", "rows"] (spO ⟨K, mg⟩ 2 s__law_shuffled)) (C__law_some : CallOk P w K mg base 2 "_law_some" ["draws", "p", "many"] (spO ⟨K, mg⟩ 3 s__law_some)) (C_passing : CallOk P w K mg base 4 "passing" ["p", "rows", "others"] (spP ⟨K, mg⟩ 3 s_passing)) : Body P w K mg base [("script" : Str), ("draws" : Str), ("p" : Str), ("width" : Str), ("many" : Str), ("rows" : Str), ("a" : Str), ("b" : Str), ("changed" : Str), ("drawn" : Str), ("others" : Str), ("due" : Str), ("same" : Str), ("most" : Str), ("table" : Str), ("told" : Str), ("counts" : Str), ("there" : Str), ("wrong" : Str), ("some" : Str), ("listed" : Str), ("known" : Str), ("lists" : Str), ("turn" : Str), ("row" : Str), ("other" : Str), ("q" : Str), ("bad" : Str), ("n" : Str), ("w" : Str), ("coins" : Str), ("at" : Str), ("coin" : Str)] "law" t_law f 6 [] d_law := by
  intro cdv A outer s H E gd hr
  have ct := cs_of (P := P) (w := w) (K := K) (mg := mg) (base := base) (N := [("script" : Str), ("draws" : Str), ("p" : Str), ("width" : Str), ("many" : Str), ("rows" : Str), ("a" : Str), ("b" : Str), ("changed" : Str), ("drawn" : Str), ("others" : Str), ("due" : Str), ("same" : Str), ("most" : Str), ("table" : Str), ("told" : Str), ("counts" : Str), ("there" : Str), ("wrong" : Str), ("some" : Str), ("listed" : Str), ("known" : Str), ("lists" : Str), ("turn" : Str), ("row" : Str), ("other" : Str), ("q" : Str), ("bad" : Str), ("n" : Str), ("w" : Str), ("coins" : Str), ("at" : Str), ("coin" : Str)]) (E := E) (H := H) (outer := outer) gd hr (by decide)
  exact (ppss_cons (pps_setN (i := 1) rfl (w_calln ct.toCt C__law_draws (by decide) (ppa_cons (pp_var (i := 0)) ppa_nil) (alen_cons alen_nil)) ct.nd)
  (ppss_cons (pps_setN (i := 1) rfl (w_callon (i := 1) ct.toCt C__law_more (by decide) (ppa_cons pp_int ppa_nil) (alen_cons alen_nil)) ct.nd)
  (ppss_cons (pps_asg (pp_tup (ppa_cons (w_callo (i := 1) ct.toCt C__law_pick (by decide) (ppa_cons (pp_val (pp_lst (ppa_cons pp_int (ppa_cons pp_int (ppa_cons pp_int (ppa_cons pp_int ppa_nil)))))) ppa_nil) (alen_cons alen_nil)) (ppa_cons (w_op o2_add pp_int (w_op o2_mod (w_ty on_int G.n_int (ppa_cons (w_callo (i := 1) ct.toCt C__law_next (by decide) ppa_nil alen_nil) ppa_nil)) pp_int)) (ppa_cons (w_op o2_add pp_int (w_op o2_mod (w_ty on_int G.n_int (ppa_cons (w_callo (i := 1) ct.toCt C__law_next (by decide) ppa_nil alen_nil) ppa_nil)) pp_int)) ppa_nil)))) (ppg_tup ct.calm (ppgs_cons (ppg_name (i := 2) [2, 3, 4] rfl ct.nd) (ppgs_cons (ppg_name (i := 3) [2, 3, 4] rfl ct.nd) (ppgs_cons (ppg_name (i := 4) [2, 3, 4] rfl ct.nd) ppgs_nil)))))
  (ppss_cons (pps_set (i := 5) rfl (w_ty on_tup G.n_tuple (ppa_cons (pp_val (pp_lc (own := [("turn", 23)]) (ts := [23]) (by rfl) (tgok_name (by decide)) ct.calm ct.nd (ppi_range1 G.n_range (ppa_cons (pp_var (i := 4)) ppa_nil)) (fun s1 H1 C1 cl1 fp1 => (ppg_name (i := 23) [23] rfl (ct.blk s1 H1 _ _ fp1).nd)) (fun s1 H1 C1 cl1 fp1 => ppts_nil) (fun s1 H1 C1 cl1 fp1 => (w_callo (i := 1) (ct.blk s1 H1 _ _ fp1) C__law_some (by decide) (ppa_cons (pp_var (i := 2)) (ppa_cons (pp_var (i := 3)) ppa_nil)) (alen_cons (alen_cons alen_nil)))))) ppa_nil)) ct.nd)
  (ppss_cons (pps_asg (w_callo (i := 1) ct.toCt C__law_some (by decide) (ppa_cons (pp_var (i := 2)) (ppa_cons pp_int ppa_nil)) (alen_cons (alen_cons alen_nil))) (ppg_tup ct.calm (ppgs_cons (ppg_name (i := 6) [6, 7] rfl ct.nd) (ppgs_cons (ppg_name (i := 7) [6, 7] rfl ct.nd) ppgs_nil))))
  (ppss_cons (pps_if (wt_cmp (o2_ne ct.u64) (w_bi (on_repr ct.gd ct.u65) G.n_repr (ppa_cons (pp_val (pp_lst (ppa_cons (w_call ct.toCt C__law_asked (by decide) (ppa_cons pp_int (ppa_cons (pp_var (i := 2)) (ppa_cons (w_ix (pp_var (i := 5)) pp_int) (ppa_cons pp_non (ppa_cons (pp_var (i := 6)) (ppa_cons pp_non ppa_nil)))))) (alen_cons (alen_cons (alen_cons (alen_cons (alen_cons (alen_cons alen_nil))))))) (ppa_cons (w_call ct.toCt C__law_asked (by decide) (ppa_cons pp_int (ppa_cons (pp_var (i := 2)) (ppa_cons (pp_var (i := 5)) (ppa_cons pp_non (ppa_cons (pp_var (i := 6)) (ppa_cons (pp_var (i := 7)) ppa_nil)))))) (alen_cons (alen_cons (alen_cons (alen_cons (alen_cons (alen_cons alen_nil))))))) ppa_nil)))) ppa_nil)) (w_bi (on_repr ct.gd ct.u65) G.n_repr (ppa_cons (pp_val (pp_lst (ppa_cons (w_call ct.toCt C__law_mixed (by decide) (ppa_cons (pp_var (i := 2)) (ppa_cons (w_ix (pp_var (i := 5)) pp_int) (ppa_cons (pp_var (i := 6)) ppa_nil))) (alen_cons (alen_cons (alen_cons alen_nil)))) (ppa_cons (w_call ct.toCt C__law_hall (by decide) (ppa_cons (pp_var (i := 2)) (ppa_cons (pp_var (i := 5)) (ppa_cons (pp_var (i := 6)) (ppa_cons (pp_var (i := 7)) ppa_nil)))) (alen_cons (alen_cons (alen_cons (alen_cons alen_nil))))) ppa_nil)))) ppa_nil))) (ppss_one (pps_ret pp_bl)) ppss_nil)
  (ppss_cons (pps_set (i := 8) rfl (w_op o2_add (w_slT (pp_var (i := 5)) ppo_none (ppo_some (w_neg pp_int))) (pp_tup (ppa_cons (w_callo (i := 1) ct.toCt C__law_some (by decide) (ppa_cons (pp_var (i := 2)) (ppa_cons (pp_var (i := 3)) ppa_nil)) (alen_cons (alen_cons alen_nil))) ppa_nil))) ct.nd)
  (ppss_cons (pps_set (i := 9) rfl (w_ty on_tup G.n_tuple (ppa_cons (pp_val (pp_lc (own := [("turn", 23)]) (ts := [23]) (by rfl) (tgok_name (by decide)) ct.calm ct.nd (ppi_range1 G.n_range (ppa_cons (pp_var (i := 4)) ppa_nil)) (fun s1 H1 C1 cl1 fp1 => (ppg_name (i := 23) [23] rfl (ct.blk s1 H1 _ _ fp1).nd)) (fun s1 H1 C1 cl1 fp1 => ppts_nil) (fun s1 H1 C1 cl1 fp1 => (w_callo (i := 1) (ct.blk s1 H1 _ _ fp1) C__law_some (by decide) (ppa_cons (pp_var (i := 2)) (ppa_cons (pp_var (i := 3)) ppa_nil)) (alen_cons (alen_cons alen_nil)))))) ppa_nil)) ct.nd)
  (ppss_cons (pps_for ct.pass ct.calm (ppi_seq (pp_val (pp_lst (ppa_cons (w_callo (i := 1) ct.toCt C__law_shuffled (by decide) (ppa_cons (pp_var (i := 5)) ppa_nil) (alen_cons alen_nil)) (ppa_cons (pp_var (i := 8)) (ppa_cons (pp_var (i := 9)) (ppa_cons (w_callo (i := 1) ct.toCt C__law_shuffled (by decide) (ppa_cons (pp_var (i := 8)) ppa_nil) (alen_cons alen_nil)) ppa_nil))))))) (ppg_name (i := 10) [10] rfl ct.nd) (ppss_cons (pps_set (i := 11) rfl (w_ty on_tup G.n_tuple (ppa_cons (pp_val (pp_lc (own := [("coins", 30)]) (ts := [30]) (by rfl) (tgok_name (by decide)) ct.calm ct.nd (ppi_seq (w_call ct.toCt C__law_coins (by decide) (ppa_cons (pp_var (i := 2)) ppa_nil) (alen_cons alen_nil))) (fun s1 H1 C1 cl1 fp1 => (ppg_name (i := 30) [30] rfl (ct.blk s1 H1 _ _ fp1).nd)) (fun s1 H1 C1 cl1 fp1 => (ppts_one (wt_cmp (o2_eq (ct.blk s1 H1 _ _ fp1).u64) (w_call (ct.blk s1 H1 _ _ fp1) C__law_hall (by decide) (ppa_cons (pp_var (i := 2)) (ppa_cons (pp_var (i := 5)) (ppa_cons (w_ix (pp_var (i := 30)) pp_int) (ppa_cons (w_ix (pp_var (i := 30)) pp_int) ppa_nil)))) (alen_cons (alen_cons (alen_cons (alen_cons alen_nil))))) (w_call (ct.blk s1 H1 _ _ fp1) C__law_hall (by decide) (ppa_cons (pp_var (i := 2)) (ppa_cons (pp_var (i := 10)) (ppa_cons (w_ix (pp_var (i := 30)) pp_int) (ppa_cons (w_ix (pp_var (i := 30)) pp_int) ppa_nil)))) (alen_cons (alen_cons (alen_cons (alen_cons alen_nil)))))))) (fun s1 H1 C1 cl1 fp1 => (pp_var (i := 30))))) ppa_nil)) ct.nd)
  (ppss_cons (pps_if (wt_cmp (o2_ne ct.u64) (w_bi (on_repr ct.gd ct.u65) G.n_repr (ppa_cons (pp_val (pp_lst (ppa_cons (w_call ct.toCt C__law_asked (by decide) (ppa_cons pp_int (ppa_cons (pp_var (i := 2)) (ppa_cons (pp_var (i := 5)) (ppa_cons (pp_var (i := 10)) (ppa_cons pp_non (ppa_cons pp_non ppa_nil)))))) (alen_cons (alen_cons (alen_cons (alen_cons (alen_cons (alen_cons alen_nil))))))) (ppa_cons (w_call ct.toCt C__law_asked (by decide) (ppa_cons pp_int (ppa_cons (pp_var (i := 2)) (ppa_cons (pp_var (i := 5)) (ppa_cons (pp_var (i := 10)) (ppa_cons (pp_var (i := 6)) (ppa_cons (pp_var (i := 7)) ppa_nil)))))) (alen_cons (alen_cons (alen_cons (alen_cons (alen_cons (alen_cons alen_nil))))))) ppa_nil)))) ppa_nil)) (w_bi (on_repr ct.gd ct.u65) G.n_repr (ppa_cons (pp_val (pp_lst (ppa_cons (pp_var (i := 11)) (ppa_cons (w_cmp (o2_in ct.u65) (pp_tup (ppa_cons (pp_var (i := 6)) (ppa_cons (pp_var (i := 7)) ppa_nil))) (pp_var (i := 11))) ppa_nil)))) ppa_nil))) (ppss_one (pps_ret pp_bl)) ppss_nil)
  (ppss_cons (pps_par2 (i := 12) (j := 13) (by decide) ct.calm ct.nd (ppan_sv (w_cmp (o2_eq ct.u64) (pp_val (w_bin (onn_sorted ct.u66) G.n_sorted (ppa_cons (pp_var (i := 5)) ppa_nil))) (pp_val (w_bin (onn_sorted ct.u66) G.n_sorted (ppa_cons (pp_var (i := 10)) ppa_nil)))) (ppan_sv (w_op o2_mul (w_op o2_mul (pp_var (i := 2)) (pp_var (i := 4))) (w_bi (on_max2 ct.calm) G.n_max (ppa_cons pp_int (ppa_cons (w_op o2_sub (pp_var (i := 3)) pp_int) ppa_nil)))) ppan_nil)))
  (ppss_one (pps_if (PW.pt (ppw_or (PW.pt (ppw_and (ppt_val (pp_var (i := 12))) (ppw_and1 (wt_cmp (o2_ne ct.u64) (w_bi on_len G.n_len (ppa_cons (pp_var (i := 11)) ppa_nil)) (w_op o2_mul (pp_var (i := 2)) (pp_var (i := 2))))))) (ppw_or (PW.pt (ppw_and (ppt_not (ppt_val (pp_var (i := 12)))) (ppw_and1 (wt_cmp o2_gt (w_bi on_len G.n_len (ppa_cons (pp_var (i := 11)) ppa_nil)) (pp_var (i := 13)))))) (ppw_or1 (wt_cmp (o2_ne ct.u64) (w_call ct.toCt C__law_asked (by decide) (ppa_cons pp_int (ppa_cons (pp_var (i := 2)) (ppa_cons (pp_var (i := 4)) (ppa_cons (pp_var (i := 3)) (ppa_cons pp_non (ppa_cons pp_non ppa_nil)))))) (alen_cons (alen_cons (alen_cons (alen_cons (alen_cons (alen_cons alen_nil))))))) (pp_var (i := 13))))))) (ppss_one (pps_ret pp_bl)) ppss_nil))))))
  (ppss_cons (pps_set (i := 14) rfl (w_ty on_tup G.n_tuple (ppa_cons (pp_val (w_sortDict ct.toCt G.n_sorted G.n_dict (pp_val (pp_lc (own := [("row", 24)]) (ts := [24]) (by rfl) (tgok_name (by decide)) ct.calm ct.nd (ppi_seq (w_op o2_add (pp_var (i := 9)) (w_slT (pp_var (i := 5)) (ppo_some pp_int) ppo_none))) (fun s1 H1 C1 cl1 fp1 => (ppg_name (i := 24) [24] rfl (ct.blk s1 H1 _ _ fp1).nd)) (fun s1 H1 C1 cl1 fp1 => ppts_nil) (fun s1 H1 C1 cl1 fp1 => (pp_tup (ppa_cons (pp_var (i := 24)) (ppa_cons pp_bl ppa_nil)))))))) ppa_nil)) ct.nd)
  (ppss_cons (pps_set (i := 16) rfl (w_ty on_tup G.n_tuple (ppa_cons (pp_val (pp_lc (own := [("told", 15)]) (ts := [15]) (by rfl) (tgok_name (by decide)) ct.calm ct.nd (ppi_seq (pp_var (i := 14))) (fun s1 H1 C1 cl1 fp1 => (ppg_name (i := 15) [15] rfl (ct.blk s1 H1 _ _ fp1).nd)) (fun s1 H1 C1 cl1 fp1 => ppts_nil) (fun s1 H1 C1 cl1 fp1 => (w_bi on_len G.n_len (ppa_cons (pp_val (pp_lc (own := [("row", 24)]) (ts := [24]) (by rfl) (tgok_name (by decide)) (ct.blk s1 H1 _ _ fp1).calm (ct.blk s1 H1 _ _ fp1).nd (ppi_seq (pp_var (i := 5))) (fun s2 H2 C2 cl2 fp2 => (ppg_name (i := 24) [24] rfl ((ct.blk s1 H1 _ _ fp1).blk s2 H2 _ _ fp2).nd)) (fun s2 H2 C2 cl2 fp2 => (ppts_one (wt_cmp (o2_eq ((ct.blk s1 H1 _ _ fp1).blk s2 H2 _ _ fp2).u64) (pp_var (i := 24)) (pp_var (i := 15))))) (fun s2 H2 C2 cl2 fp2 => (pp_var (i := 24))))) ppa_nil))))) ppa_nil)) ct.nd)
  (ppss_cons (pps_set (i := 17) rfl (w_bi (on_all ct.calm) G.n_all (ppa_cons (pp_val (pp_lc (own := [("row", 24)]) (ts := [24]) (by rfl) (tgok_name (by decide)) ct.calm ct.nd (ppi_seq (pp_var (i := 5))) (fun s1 H1 C1 cl1 fp1 => (ppg_name (i := 24) [24] rfl (ct.blk s1 H1 _ _ fp1).nd)) (fun s1 H1 C1 cl1 fp1 => ppts_nil) (fun s1 H1 C1 cl1 fp1 => (w_cmp (o2_in (ct.blk s1 H1 _ _ fp1).u65) (pp_var (i := 24)) (pp_var (i := 14)))))) ppa_nil)) ct.nd)
  (ppss_cons (pps_if (wt_cmp (o2_ne ct.u64) (w_bi (on_repr ct.gd ct.u65) G.n_repr (ppa_cons (w_call ct.toCt C__law_asked (by decide) (ppa_cons pp_int (ppa_cons (pp_var (i := 2)) (ppa_cons (pp_var (i := 5)) (ppa_cons (pp_var (i := 14)) (ppa_cons pp_non (ppa_cons pp_non ppa_nil)))))) (alen_cons (alen_cons (alen_cons (alen_cons (alen_cons (alen_cons alen_nil))))))) ppa_nil)) (w_bi (on_repr ct.gd ct.u65) G.n_repr (ppa_cons (pp_if (ppt_val (pp_var (i := 17))) (pp_var (i := 16)) pp_str) ppa_nil))) (ppss_one (pps_ret pp_bl)) ppss_nil)
  (ppss_cons (pps_set (i := 18) rfl (w_ty on_tup G.n_tuple (ppa_cons (pp_val (pp_lc (own := [("told", 15)]) (ts := [15]) (by rfl) (tgok_name (by decide)) ct.calm ct.nd (ppi_seq (pp_var (i := 14))) (fun s1 H1 C1 cl1 fp1 => (ppg_name (i := 15) [15] rfl (ct.blk s1 H1 _ _ fp1).nd)) (fun s1 H1 C1 cl1 fp1 => ppts_nil) (fun s1 H1 C1 cl1 fp1 => (w_op o2_mod (w_ty on_int G.n_int (ppa_cons (w_callo (i := 1) (ct.blk s1 H1 _ _ fp1) C__law_next (by decide) ppa_nil alen_nil) ppa_nil)) pp_int)))) ppa_nil)) ct.nd)
  (ppss_cons (pps_for ct.pass ct.calm (ppi_seq (pp_val (pp_lst (ppa_cons (pp_var (i := 16)) (ppa_cons (pp_var (i := 18)) (ppa_cons (pp_revT (pp_var (i := 16))) (ppa_cons (w_op o2_mul (pp_tup (ppa_cons pp_int ppa_nil)) (w_bi on_len G.n_len (ppa_cons (pp_var (i := 14)) ppa_nil))) (ppa_cons (w_op o2_add (pp_tup (ppa_cons (pp_var (i := 4)) ppa_nil)) (w_op o2_mul (pp_tup (ppa_cons pp_int ppa_nil)) (w_op o2_sub (w_bi on_len G.n_len (ppa_cons (pp_var (i := 14)) ppa_nil)) pp_int))) ppa_nil)))))))) (ppg_name (i := 19) [19] rfl ct.nd) (ppss_cons (pps_set (i := 20) rfl (w_call ct.toCt C__law_flat (by decide) (ppa_cons (pp_val (pp_lc (own := [("at", 31)]) (ts := [31]) (by rfl) (tgok_name (by decide)) ct.calm ct.nd (ppi_range1 G.n_range (ppa_cons (w_bi on_len G.n_len (ppa_cons (pp_var (i := 14)) ppa_nil)) ppa_nil)) (fun s1 H1 C1 cl1 fp1 => (ppg_name (i := 31) [31] rfl (ct.blk s1 H1 _ _ fp1).nd)) (fun s1 H1 C1 cl1 fp1 => ppts_nil) (fun s1 H1 C1 cl1 fp1 => (pp_val (w_opn o2n_rep (pp_val (pp_lst (ppa_cons (w_ix (pp_var (i := 14)) (pp_var (i := 31))) ppa_nil))) (w_ty on_int G.n_int (ppa_cons (w_ix (pp_var (i := 19)) (pp_var (i := 31))) ppa_nil))))))) ppa_nil) (alen_cons alen_nil)) ct.nd)
  (ppss_cons (pps_set (i := 11) rfl (w_ty on_tup G.n_tuple (ppa_cons (pp_val (pp_lc (own := [("coins", 30)]) (ts := [30]) (by rfl) (tgok_name (by decide)) ct.calm ct.nd (ppi_seq (w_call ct.toCt C__law_coins (by decide) (ppa_cons (pp_var (i := 2)) ppa_nil) (alen_cons alen_nil))) (fun s1 H1 C1 cl1 fp1 => (ppg_name (i := 30) [30] rfl (ct.blk s1 H1 _ _ fp1).nd)) (fun s1 H1 C1 cl1 fp1 => (ppts_one (PW.pt (ppw_and (wt_cmp (o2_eq (ct.blk s1 H1 _ _ fp1).u64) (w_bi on_len G.n_len (ppa_cons (pp_var (i := 20)) ppa_nil)) (pp_var (i := 4))) (ppw_and1 (wt_cmp (o2_eq (ct.blk s1 H1 _ _ fp1).u64) (w_call (ct.blk s1 H1 _ _ fp1) C__law_hall (by decide) (ppa_cons (pp_var (i := 2)) (ppa_cons (pp_var (i := 5)) (ppa_cons (w_ix (pp_var (i := 30)) pp_int) (ppa_cons (w_ix (pp_var (i := 30)) pp_int) ppa_nil)))) (alen_cons (alen_cons (alen_cons (alen_cons alen_nil))))) (w_call (ct.blk s1 H1 _ _ fp1) C__law_hall (by decide) (ppa_cons (pp_var (i := 2)) (ppa_cons (pp_var (i := 20)) (ppa_cons (w_ix (pp_var (i := 30)) pp_int) (ppa_cons (w_ix (pp_var (i := 30)) pp_int) ppa_nil)))) (alen_cons (alen_cons (alen_cons (alen_cons alen_nil))))))))))) (fun s1 H1 C1 cl1 fp1 => (pp_var (i := 30))))) ppa_nil)) ct.nd)
  (ppss_cons (pps_if (wt_cmp (o2_ne ct.u64) (w_bi (on_repr ct.gd ct.u65) G.n_repr (ppa_cons (pp_val (pp_lst (ppa_cons (w_call ct.toCt C__law_asked (by decide) (ppa_cons pp_int (ppa_cons (pp_var (i := 2)) (ppa_cons (pp_var (i := 5)) (ppa_cons (pp_var (i := 14)) (ppa_cons (pp_var (i := 19)) (ppa_cons pp_non ppa_nil)))))) (alen_cons (alen_cons (alen_cons (alen_cons (alen_cons (alen_cons alen_nil))))))) (ppa_cons (w_call ct.toCt C__law_asked (by decide) (ppa_cons pp_int (ppa_cons (pp_var (i := 2)) (ppa_cons (pp_var (i := 5)) (ppa_cons (pp_var (i := 14)) (ppa_cons (pp_var (i := 19)) (ppa_cons (pp_tup (ppa_cons (pp_var (i := 6)) (ppa_cons (pp_var (i := 7)) ppa_nil))) ppa_nil)))))) (alen_cons (alen_cons (alen_cons (alen_cons (alen_cons (alen_cons alen_nil))))))) ppa_nil)))) ppa_nil)) (w_bi (on_repr ct.gd ct.u65) G.n_repr (ppa_cons (pp_val (pp_lst (ppa_cons (pp_var (i := 11)) (ppa_cons (w_cmp (o2_in ct.u65) (pp_tup (ppa_cons (pp_var (i := 6)) (ppa_cons (pp_var (i := 7)) ppa_nil))) (pp_var (i := 11))) ppa_nil)))) ppa_nil))) (ppss_one (pps_ret pp_bl)) ppss_nil)
  (ppss_one (pps_if (PW.pt (ppw_or (PW.pt (ppw_and (ppt_val (pp_var (i := 17))) (ppw_and (wt_cmp (o2_eq ct.u64) (pp_var (i := 19)) (pp_var (i := 16))) (ppw_and1 (wt_cmp (o2_ne ct.u64) (w_bi on_len G.n_len (ppa_cons (pp_var (i := 11)) ppa_nil)) (w_op o2_mul (pp_var (i := 2)) (pp_var (i := 2)))))))) (ppw_or1 (PW.pt (ppw_and (PW.pt (ppw_or (wt_cmp (o2_ne ct.u64) (pp_var (i := 19)) (pp_var (i := 16))) (ppw_or1 (ppt_not (ppt_val (pp_var (i := 17))))))) (ppw_and1 (wt_cmp o2_gt (w_bi on_len G.n_len (ppa_cons (pp_var (i := 11)) ppa_nil)) (w_op o2_mul (w_op o2_mul (pp_var (i := 2)) (pp_var (i := 4))) (w_bi (on_max2 ct.calm) G.n_max (ppa_cons pp_int (ppa_cons (w_op o2_sub (pp_var (i := 3)) pp_int) ppa_nil))))))))))) (ppss_one (pps_ret pp_bl)) ppss_nil))))))
  (ppss_cons (pps_set (i := 21) rfl (pp_tup (ppa_cons (pp_tup (ppa_cons pp_int ppa_nil)) (ppa_cons (pp_tup (ppa_cons pp_int ppa_nil)) ppa_nil))) ct.nd)
  (ppss_cons (pps_if (wt_cmp (o2_ne ct.u64) (pp_val (pp_lc (own := [("other", 25)]) (ts := [25]) (by rfl) (tgok_name (by decide)) ct.calm ct.nd (ppi_seq (pp_val (pp_lst (ppa_cons (pp_tup (ppa_cons (pp_tup (ppa_cons pp_int ppa_nil)) (ppa_cons (pp_tup (ppa_cons pp_int ppa_nil)) ppa_nil))) (ppa_cons (pp_tup (ppa_cons (pp_tup (ppa_cons pp_int ppa_nil)) (ppa_cons (pp_tup (ppa_cons pp_int ppa_nil)) ppa_nil))) ppa_nil))))) (fun s1 H1 C1 cl1 fp1 => (ppg_name (i := 25) [25] rfl (ct.blk s1 H1 _ _ fp1).nd)) (fun s1 H1 C1 cl1 fp1 => ppts_nil) (fun s1 H1 C1 cl1 fp1 => (w_call (ct.blk s1 H1 _ _ fp1) C_passing (by decide) (ppa_cons pp_int (ppa_cons (pp_var (i := 21)) (ppa_cons (pp_var (i := 25)) ppa_nil))) (alen_cons (alen_cons (alen_cons alen_nil))))))) (pp_val (pp_lst (ppa_cons (pp_tup (ppa_cons (pp_tup (ppa_cons pp_int (ppa_cons pp_int ppa_nil))) (ppa_cons (pp_tup (ppa_cons pp_int (ppa_cons pp_int ppa_nil))) (ppa_cons (pp_tup (ppa_cons pp_int (ppa_cons pp_int ppa_nil))) (ppa_cons (pp_tup (ppa_cons pp_int (ppa_cons pp_int ppa_nil))) (ppa_cons (pp_tup (ppa_cons pp_int (ppa_cons pp_int ppa_nil))) ppa_nil)))))) (ppa_cons (w_ty on_tup G.n_tuple (ppa_cons (w_call ct.toCt C__law_coins (by decide) (ppa_cons pp_int ppa_nil) (alen_cons alen_nil)) ppa_nil)) ppa_nil))))) (ppss_one (pps_ret pp_bl)) ppss_nil)
  (ppss_cons (pps_set (i := 22) rfl (pp_val (pp_lst (ppa_cons (pp_tup (ppa_cons pp_int (ppa_cons (pp_var (i := 5)) ppa_nil))) (ppa_cons (pp_tup (ppa_cons pp_int (ppa_cons (pp_var (i := 5)) ppa_nil))) (ppa_cons (pp_tup (ppa_cons (pp_var (i := 2)) (ppa_cons (pp_tup ppa_nil) ppa_nil))) (ppa_cons (pp_tup (ppa_cons (pp_var (i := 2)) (ppa_cons (w_op o2_mul (pp_var (i := 5)) pp_int) ppa_nil))) (ppa_cons (pp_tup (ppa_cons (pp_var (i := 2)) (ppa_cons (pp_tup (ppa_cons (pp_tup ppa_nil) ppa_nil)) ppa_nil))) (ppa_cons (pp_tup (ppa_cons (pp_var (i := 2)) (ppa_cons (pp_tup (ppa_cons (w_op o2_mul (pp_tup (ppa_cons pp_int ppa_nil)) pp_int) ppa_nil)) ppa_nil))) (ppa_cons (pp_tup (ppa_cons (pp_var (i := 2)) (ppa_cons (pp_tup (ppa_cons (w_op o2_mul (pp_tup (ppa_cons (pp_var (i := 2)) ppa_nil)) (pp_var (i := 3))) ppa_nil)) ppa_nil))) (ppa_cons (pp_tup (ppa_cons (pp_var (i := 2)) (ppa_cons (pp_tup (ppa_cons (pp_tup (ppa_cons pp_int ppa_nil)) (ppa_cons (pp_tup (ppa_cons pp_int (ppa_cons pp_int ppa_nil))) ppa_nil))) ppa_nil))) (ppa_cons (pp_tup (ppa_cons (pp_var (i := 2)) (ppa_cons (pp_tup (ppa_cons (pp_tup (ppa_cons (w_neg pp_int) ppa_nil)) ppa_nil)) ppa_nil))) ppa_nil))))))))))) ct.nd)
  (ppss_cons (pps_set (i := 15) rfl (w_call ct.toCt C__law_flat (by decide) (ppa_cons (pp_val (pp_lc (own := [("q", 26), ("bad", 27)]) (ts := [26, 27]) (by rfl) (tgok_tup (tgsok_cons (tgok_name (by decide)) (tgsok_cons (tgok_name (by decide)) tgsok_nil))) ct.calm ct.nd (ppi_seq (pp_var (i := 22))) (fun s1 H1 C1 cl1 fp1 => (ppg_tup (ct.blk s1 H1 _ _ fp1).calm (ppgs_cons (ppg_name (i := 26) [26, 27] rfl (ct.blk s1 H1 _ _ fp1).nd) (ppgs_cons (ppg_name (i := 27) [26, 27] rfl (ct.blk s1 H1 _ _ fp1).nd) ppgs_nil)))) (fun s1 H1 C1 cl1 fp1 => ppts_nil) (fun s1 H1 C1 cl1 fp1 => (pp_val (pp_lst (ppa_cons (w_call (ct.blk s1 H1 _ _ fp1) C__law_asked (by decide) (ppa_cons pp_int (ppa_cons (pp_var (i := 26)) (ppa_cons (pp_var (i := 27)) (ppa_cons pp_non (ppa_cons pp_int (ppa_cons pp_int ppa_nil)))))) (alen_cons (alen_cons (alen_cons (alen_cons (alen_cons (alen_cons alen_nil))))))) (ppa_cons (w_call (ct.blk s1 H1 _ _ fp1) C__law_asked (by decide) (ppa_cons pp_int (ppa_cons (pp_var (i := 26)) (ppa_cons (pp_var (i := 27)) (ppa_cons (pp_var (i := 27)) (ppa_cons pp_int (ppa_cons pp_int ppa_nil)))))) (alen_cons (alen_cons (alen_cons (alen_cons (alen_cons (alen_cons alen_nil))))))) (ppa_cons (w_call (ct.blk s1 H1 _ _ fp1) C__law_asked (by decide) (ppa_cons pp_int (ppa_cons (pp_var (i := 26)) (ppa_cons (pp_var (i := 27)) (ppa_cons (pp_var (i := 27)) (ppa_cons pp_non (ppa_cons pp_non ppa_nil)))))) (alen_cons (alen_cons (alen_cons (alen_cons (alen_cons (alen_cons alen_nil))))))) (ppa_cons (w_call (ct.blk s1 H1 _ _ fp1) C__law_asked (by decide) (ppa_cons pp_int (ppa_cons (pp_var (i := 26)) (ppa_cons (pp_var (i := 27)) (ppa_cons (pp_var (i := 27)) (ppa_cons pp_non (ppa_cons pp_non ppa_nil)))))) (alen_cons (alen_cons (alen_cons (alen_cons (alen_cons (alen_cons alen_nil))))))) ppa_nil))))))))) ppa_nil) (alen_cons alen_nil)) ct.nd)
  (ppss_cons (pps_set (i := 15) rfl (pp_val (w_opn o2n_cat (pp_var (i := 15)) (w_call ct.toCt C__law_flat (by decide) (ppa_cons (pp_val (pp_lc (own := [("q", 26), ("bad", 27)]) (ts := [26, 27]) (by rfl) (tgok_tup (tgsok_cons (tgok_name (by decide)) (tgsok_cons (tgok_name (by decide)) tgsok_nil))) ct.calm ct.nd (ppi_seq (pp_var (i := 22))) (fun s1 H1 C1 cl1 fp1 => (ppg_tup (ct.blk s1 H1 _ _ fp1).calm (ppgs_cons (ppg_name (i := 26) [26, 27] rfl (ct.blk s1 H1 _ _ fp1).nd) (ppgs_cons (ppg_name (i := 27) [26, 27] rfl (ct.blk s1 H1 _ _ fp1).nd) ppgs_nil)))) (fun s1 H1 C1 cl1 fp1 => ppts_nil) (fun s1 H1 C1 cl1 fp1 => (pp_val (pp_lst (ppa_cons (w_call (ct.blk s1 H1 _ _ fp1) C__law_asked (by decide) (ppa_cons pp_int (ppa_cons (pp_var (i := 26)) (ppa_cons (pp_var (i := 27)) (ppa_cons (pp_var (i := 27)) (ppa_cons (pp_tup ppa_nil) (ppa_cons (pp_tup (ppa_cons pp_int (ppa_cons pp_int ppa_nil))) ppa_nil)))))) (alen_cons (alen_cons (alen_cons (alen_cons (alen_cons (alen_cons alen_nil))))))) (ppa_cons (w_call (ct.blk s1 H1 _ _ fp1) C__law_asked (by decide) (ppa_cons pp_int (ppa_cons (pp_var (i := 26)) (ppa_cons (pp_var (i := 27)) (ppa_cons (pp_var (i := 27)) (ppa_cons (pp_tup ppa_nil) (ppa_cons pp_non ppa_nil)))))) (alen_cons (alen_cons (alen_cons (alen_cons (alen_cons (alen_cons alen_nil))))))) ppa_nil))))))) ppa_nil) (alen_cons alen_nil)))) ct.nd)
  (ppss_cons (pps_set (i := 15) rfl (pp_val (w_opn o2n_cat (pp_var (i := 15)) (pp_val (pp_lc (own := [("bad", 27)]) (ts := [27]) (by rfl) (tgok_name (by decide)) ct.calm ct.nd (ppi_seq (pp_val (pp_lst (ppa_cons (pp_tup ppa_nil) (ppa_cons (w_op o2_mul (pp_tup (ppa_cons pp_int ppa_nil)) pp_int) (ppa_cons (pp_tup (ppa_cons (pp_var (i := 2)) ppa_nil)) ppa_nil)))))) (fun s1 H1 C1 cl1 fp1 => (ppg_name (i := 27) [27] rfl (ct.blk s1 H1 _ _ fp1).nd)) (fun s1 H1 C1 cl1 fp1 => ppts_nil) (fun s1 H1 C1 cl1 fp1 => (w_call (ct.blk s1 H1 _ _ fp1) C__law_asked (by decide) (ppa_cons pp_int (ppa_cons (pp_var (i := 2)) (ppa_cons (pp_var (i := 27)) (ppa_cons pp_non (ppa_cons pp_int (ppa_cons pp_non ppa_nil)))))) (alen_cons (alen_cons (alen_cons (alen_cons (alen_cons (alen_cons alen_nil)))))))))))) ct.nd)
  (ppss_cons (pps_set (i := 15) rfl (pp_val (w_opn o2n_cat (pp_var (i := 15)) (w_call ct.toCt C__law_flat (by decide) (ppa_cons (pp_val (pp_lc (own := [("coin", 32)]) (ts := [32]) (by rfl) (tgok_name (by decide)) ct.calm ct.nd (ppi_seq (pp_val (pp_lst (ppa_cons (w_neg pp_int) (ppa_cons (pp_var (i := 2)) ppa_nil))))) (fun s1 H1 C1 cl1 fp1 => (ppg_name (i := 32) [32] rfl (ct.blk s1 H1 _ _ fp1).nd)) (fun s1 H1 C1 cl1 fp1 => ppts_nil) (fun s1 H1 C1 cl1 fp1 => (pp_val (pp_lst (ppa_cons (w_call (ct.blk s1 H1 _ _ fp1) C__law_asked (by decide) (ppa_cons pp_int (ppa_cons (pp_var (i := 2)) (ppa_cons (w_ix (pp_var (i := 5)) pp_int) (ppa_cons pp_non (ppa_cons (pp_var (i := 32)) (ppa_cons pp_non ppa_nil)))))) (alen_cons (alen_cons (alen_cons (alen_cons (alen_cons (alen_cons alen_nil))))))) (ppa_cons (w_call (ct.blk s1 H1 _ _ fp1) C__law_asked (by decide) (ppa_cons pp_int (ppa_cons (pp_var (i := 2)) (ppa_cons (pp_var (i := 5)) (ppa_cons pp_non (ppa_cons (pp_var (i := 32)) (ppa_cons pp_int ppa_nil)))))) (alen_cons (alen_cons (alen_cons (alen_cons (alen_cons (alen_cons alen_nil))))))) (ppa_cons (w_call (ct.blk s1 H1 _ _ fp1) C__law_asked (by decide) (ppa_cons pp_int (ppa_cons (pp_var (i := 2)) (ppa_cons (pp_var (i := 5)) (ppa_cons pp_non (ppa_cons pp_int (ppa_cons (pp_var (i := 32)) ppa_nil)))))) (alen_cons (alen_cons (alen_cons (alen_cons (alen_cons (alen_cons alen_nil))))))) ppa_nil)))))))) ppa_nil) (alen_cons alen_nil)))) ct.nd)
  (ppss_cons (pps_set (i := 15) rfl (pp_val (w_opn o2n_cat (pp_var (i := 15)) (pp_val (pp_lst (ppa_cons (w_call ct.toCt C__law_asked (by decide) (ppa_cons pp_int (ppa_cons (pp_var (i := 2)) (ppa_cons (pp_var (i := 5)) (ppa_cons (w_op o2_add (pp_var (i := 5)) (pp_var (i := 5))) (ppa_cons pp_int (ppa_cons pp_int ppa_nil)))))) (alen_cons (alen_cons (alen_cons (alen_cons (alen_cons (alen_cons alen_nil))))))) (ppa_cons (w_call ct.toCt C__law_asked (by decide) (ppa_cons pp_int (ppa_cons (pp_var (i := 2)) (ppa_cons (pp_var (i := 5)) (ppa_cons (w_op o2_add (pp_var (i := 5)) (pp_var (i := 5))) (ppa_cons pp_non (ppa_cons pp_non ppa_nil)))))) (alen_cons (alen_cons (alen_cons (alen_cons (alen_cons (alen_cons alen_nil))))))) (ppa_cons (w_call ct.toCt C__law_asked (by decide) (ppa_cons pp_int (ppa_cons (pp_var (i := 2)) (ppa_cons (pp_var (i := 5)) (ppa_cons (w_op o2_add (pp_var (i := 14)) (w_slT (pp_var (i := 14)) ppo_none (ppo_some pp_int))) (ppa_cons pp_non (ppa_cons pp_non ppa_nil)))))) (alen_cons (alen_cons (alen_cons (alen_cons (alen_cons (alen_cons alen_nil))))))) ppa_nil))))))) ct.nd)
  (ppss_cons (pps_set (i := 15) rfl (pp_val (w_opn o2n_cat (pp_val (w_opn o2n_cat (pp_var (i := 15)) (pp_val (pp_lc (own := [("bad", 27)]) (ts := [27]) (by rfl) (tgok_name (by decide)) ct.calm ct.nd (ppi_seq (pp_val (pp_lst (ppa_cons (w_op o2_add (pp_var (i := 16)) (pp_tup (ppa_cons pp_int ppa_nil))) (ppa_cons (w_op o2_mul (pp_tup (ppa_cons pp_int ppa_nil)) (w_bi on_len G.n_len (ppa_cons (pp_var (i := 14)) ppa_nil))) (ppa_cons (w_op o2_mul (pp_tup (ppa_cons (w_neg pp_int) ppa_nil)) (w_bi on_len G.n_len (ppa_cons (pp_var (i := 14)) ppa_nil))) ppa_nil)))))) (fun s1 H1 C1 cl1 fp1 => (ppg_name (i := 27) [27] rfl (ct.blk s1 H1 _ _ fp1).nd)) (fun s1 H1 C1 cl1 fp1 => ppts_nil) (fun s1 H1 C1 cl1 fp1 => (w_call (ct.blk s1 H1 _ _ fp1) C__law_asked (by decide) (ppa_cons pp_int (ppa_cons (pp_var (i := 2)) (ppa_cons (pp_var (i := 5)) (ppa_cons (pp_var (i := 14)) (ppa_cons (pp_var (i := 27)) (ppa_cons pp_non ppa_nil)))))) (alen_cons (alen_cons (alen_cons (alen_cons (alen_cons (alen_cons alen_nil)))))))))))) (pp_val (pp_lst (ppa_cons (w_call ct.toCt C__law_asked (by decide) (ppa_cons pp_int (ppa_cons (pp_var (i := 2)) (ppa_cons (pp_var (i := 5)) (ppa_cons (pp_var (i := 14)) (ppa_cons (pp_var (i := 16)) (ppa_cons (pp_tup (ppa_cons (pp_var (i := 2)) (ppa_cons pp_int ppa_nil))) ppa_nil)))))) (alen_cons (alen_cons (alen_cons (alen_cons (alen_cons (alen_cons alen_nil))))))) ppa_nil))))) ct.nd)
  (ppss_cons (pps_set (i := 15) rfl (pp_val (w_opn o2n_cat (pp_var (i := 15)) (pp_val (pp_lc (own := [("q", 26), ("n", 28), ("w", 29)]) (ts := [26, 28, 29]) (by rfl) (tgok_tup (tgsok_cons (tgok_name (by decide)) (tgsok_cons (tgok_name (by decide)) (tgsok_cons (tgok_name (by decide)) tgsok_nil)))) ct.calm ct.nd (ppi_seq (pp_val (pp_lst (ppa_cons (pp_tup (ppa_cons pp_int (ppa_cons pp_int (ppa_cons pp_int ppa_nil)))) (ppa_cons (pp_tup (ppa_cons (pp_var (i := 2)) (ppa_cons pp_int (ppa_cons pp_int ppa_nil)))) (ppa_cons (pp_tup (ppa_cons (pp_var (i := 2)) (ppa_cons pp_int (ppa_cons pp_int ppa_nil)))) (ppa_cons (pp_tup (ppa_cons (pp_var (i := 2)) (ppa_cons pp_int (ppa_cons pp_int ppa_nil)))) (ppa_cons (pp_tup (ppa_cons (pp_var (i := 2)) (ppa_cons pp_int (ppa_cons pp_int ppa_nil)))) ppa_nil)))))))) (fun s1 H1 C1 cl1 fp1 => (ppg_tup (ct.blk s1 H1 _ _ fp1).calm (ppgs_cons (ppg_name (i := 26) [26, 28, 29] rfl (ct.blk s1 H1 _ _ fp1).nd) (ppgs_cons (ppg_name (i := 28) [26, 28, 29] rfl (ct.blk s1 H1 _ _ fp1).nd) (ppgs_cons (ppg_name (i := 29) [26, 28, 29] rfl (ct.blk s1 H1 _ _ fp1).nd) ppgs_nil))))) (fun s1 H1 C1 cl1 fp1 => ppts_nil) (fun s1 H1 C1 cl1 fp1 => (w_call (ct.blk s1 H1 _ _ fp1) C__law_asked (by decide) (ppa_cons pp_int (ppa_cons (pp_var (i := 26)) (ppa_cons (pp_var (i := 28)) (ppa_cons (pp_var (i := 29)) (ppa_cons pp_non (ppa_cons pp_non ppa_nil)))))) (alen_cons (alen_cons (alen_cons (alen_cons (alen_cons (alen_cons alen_nil)))))))))))) ct.nd)
  (ppss_one (pps_ret (w_cmp (o2_eq ct.u64) (pp_var (i := 15)) (pp_val (w_opn o2n_rep (pp_val (pp_lst (ppa_cons pp_str ppa_nil))) pp_int))))))))))))))))))))))))))))))
abbrev t__law_kind : Stmt := top 45
def d__law_kind (a : Addr) (c : String) : Sls → OutS := (seqS (setS 1 (asVal (dispL (aCons (cst (.str "program")) (aCons (cst (.str "gates")) (aCons (cst (.str "poly")) (aCons (cst (.str "talk")) (aCons (cst (.str "paper")) (aCons (cst (.str "number")) (aCons (cst (.str "none")) (aCons (cst (.str "large")) (aCons (cst (.str "malformed")) aNil))))))))))))
  (seqS (setS 2 (asVal (dispL (aCons (isV 0 a ("NotProgram" == c || "NotProgram" == "ShowError")) (aCons (isV 0 a ("NotGates" == c || "NotGates" == "ShowError")) (aCons (isV 0 a ("NotPoly" == c || "NotPoly" == "ShowError")) (aCons (isV 0 a ("NotTalk" == c || "NotTalk" == "ShowError")) aNil)))))))
  (seqS (setS 2 (asVal (bin2n catD (var 2) (asVal (dispL (aCons (isV 0 a ("NotPaper" == c || "NotPaper" == "ShowError")) (aCons (isV 0 a ("BadNumber" == c || "BadNumber" == "ShowError")) (aCons (isV 0 a ("NoAnswer" == c || "NoAnswer" == "ShowError")) aNil))))))))
  (seqS (setS 2 (asVal (bin2n catD (var 2) (asVal (dispL (aCons (isV 0 a ("TooLarge" == c || "TooLarge" == "ShowError")) (aCons (isV 0 a ("Malformed" == c || "Malformed" == "ShowError")) aNil)))))))
  (retS (ifE (andT (asB (bin2 eqD (meth "list" cntD (var 2) (aCons (cst (.bool true)) aNil)) (cst (.int 1)))) (asT (isV 0 a ("ShowError" == c || "ShowError" == "ShowError")))) (bin2 addD (cst (.str "!")) (bin2 ixD (var 1) (meth "list" idxD (var 2) (aCons (cst (.bool true)) aNil)))) (cst (.str "!other"))))))))
theorem sc__law_kind : FnScope ["error", "names", "found"] ["error"] (defScope t__law_kind) := ⟨rfl, rfl, rfl, by decide +kernel, rfl, by decide +kernel, by decide +kernel⟩
theorem ev_BadNumber (a : Addr) : kOf (d__law_kind a "BadNumber" (envA 3 [objD a])) = some (.str "!number") := by
  have q1 : cntD (.list [.bool false, .bool false, .bool false, .bool false, .bool false, .bool true, .bool false, .bool false, .bool false]) [.bool true] = some (.int 1) := by rfl
  have q2 : eqD (.int 1) (.int 1) = some (.bool true) := by rfl
  have q3 : idxD (.list [.bool false, .bool false, .bool false, .bool false, .bool false, .bool true, .bool false, .bool false, .bool false]) [.bool true] = some (.int 5) := by rfl
  have q4 : ixD (.list [.str "program", .str "gates", .str "poly", .str "talk", .str "paper", .str "number", .str "none", .str "large", .str "malformed"]) (.int 5) = some (.str "number") := by rfl
  have q5 : addD (.str "!") (.str "number") = some (.str "!number") := by rfl
  simp [d__law_kind, seqS, setS, asVal, dispL, aCons, aNil, cst, Out.bind, Out.toS, frzO, frzL, frz, envA, isV, sizeLine_eq, List.set, bin2n, catD, var, rd, Sl.data, Out.of, retS, ifE, andT, asB, asT, bin2, meth, tyD, List.replicate, q1, q2, q3, q4, q5, truD, kOf]
theorem ev_NoAnswer (a : Addr) : kOf (d__law_kind a "NoAnswer" (envA 3 [objD a])) = some (.str "!none") := by
  have q1 : cntD (.list [.bool false, .bool false, .bool false, .bool false, .bool false, .bool false, .bool true, .bool false, .bool false]) [.bool true] = some (.int 1) := by rfl
  have q2 : eqD (.int 1) (.int 1) = some (.bool true) := by rfl
  have q3 : idxD (.list [.bool false, .bool false, .bool false, .bool false, .bool false, .bool false, .bool true, .bool false, .bool false]) [.bool true] = some (.int 6) := by rfl
  have q4 : ixD (.list [.str "program", .str "gates", .str "poly", .str "talk", .str "paper", .str "number", .str "none", .str "large", .str "malformed"]) (.int 6) = some (.str "none") := by rfl
  have q5 : addD (.str "!") (.str "none") = some (.str "!none") := by rfl
  simp [d__law_kind, seqS, setS, asVal, dispL, aCons, aNil, cst, Out.bind, Out.toS, frzO, frzL, frz, envA, isV, sizeLine_eq, List.set, bin2n, catD, var, rd, Sl.data, Out.of, retS, ifE, andT, asB, asT, bin2, meth, tyD, List.replicate, q1, q2, q3, q4, q5, truD, kOf]
theorem k__law_kind {fd : FuncData} (G : Gl K mg) (F : Fun K "_law_kind" "_law_kind" t__law_kind f fd) : FnK P w K mg base 1 f fd "error" kindOf := by
  refine kind_P (g := d__law_kind) F sc__law_kind (fun c D h1 h2 => (G.kfacts c D h1 h2).1) (fun cdv A outer s H p c D ct hcall h1 h2 => ?_) fun a c z hz => ?_
  · have kf := (G.kfacts c D h1 h2).2
    obtain ⟨C_BadNumber, q_BadNumber⟩ := kf "BadNumber" (by decide)
    obtain ⟨C_Malformed, q_Malformed⟩ := kf "Malformed" (by decide)
    obtain ⟨C_NoAnswer, q_NoAnswer⟩ := kf "NoAnswer" (by decide)
    obtain ⟨C_NotGates, q_NotGates⟩ := kf "NotGates" (by decide)
    obtain ⟨C_NotPaper, q_NotPaper⟩ := kf "NotPaper" (by decide)
    obtain ⟨C_NotPoly, q_NotPoly⟩ := kf "NotPoly" (by decide)
    obtain ⟨C_NotProgram, q_NotProgram⟩ := kf "NotProgram" (by decide)
    obtain ⟨C_NotTalk, q_NotTalk⟩ := kf "NotTalk" (by decide)
    obtain ⟨C_ShowError, q_ShowError⟩ := kf "ShowError" (by decide)
    obtain ⟨C_TooLarge, q_TooLarge⟩ := kf "TooLarge" (by decide)
    exact (ppss_cons (pps_set (i := 1) rfl (pp_val (pp_lst (ppa_cons pp_str (ppa_cons pp_str (ppa_cons pp_str (ppa_cons pp_str (ppa_cons pp_str (ppa_cons pp_str (ppa_cons pp_str (ppa_cons pp_str (ppa_cons pp_str ppa_nil))))))))))) ct.nd)
  (ppss_cons (pps_set (i := 2) rfl (pp_val (pp_lst (ppa_cons (w_isi (i := 0) hcall G.n_isinstance q_NotProgram.1 q_NotProgram.2) (ppa_cons (w_isi (i := 0) hcall G.n_isinstance q_NotGates.1 q_NotGates.2) (ppa_cons (w_isi (i := 0) hcall G.n_isinstance q_NotPoly.1 q_NotPoly.2) (ppa_cons (w_isi (i := 0) hcall G.n_isinstance q_NotTalk.1 q_NotTalk.2) ppa_nil)))))) ct.nd)
  (ppss_cons (pps_set (i := 2) rfl (pp_val (w_opn o2n_cat (pp_var (i := 2)) (pp_val (pp_lst (ppa_cons (w_isi (i := 0) hcall G.n_isinstance q_NotPaper.1 q_NotPaper.2) (ppa_cons (w_isi (i := 0) hcall G.n_isinstance q_BadNumber.1 q_BadNumber.2) (ppa_cons (w_isi (i := 0) hcall G.n_isinstance q_NoAnswer.1 q_NoAnswer.2) ppa_nil))))))) ct.nd)
  (ppss_cons (pps_set (i := 2) rfl (pp_val (w_opn o2n_cat (pp_var (i := 2)) (pp_val (pp_lst (ppa_cons (w_isi (i := 0) hcall G.n_isinstance q_TooLarge.1 q_TooLarge.2) (ppa_cons (w_isi (i := 0) hcall G.n_isinstance q_Malformed.1 q_Malformed.2) ppa_nil)))))) ct.nd)
  (ppss_one (pps_ret (pp_if (PW.pt (ppw_and (wt_cmp (o2_eq ct.u64) (wh_count ct (pp_var (i := 2)) (ppa_cons pp_bl ppa_nil)) pp_int) (ppw_and1 (ppt_val (w_isi (i := 0) hcall G.n_isinstance q_ShowError.1 q_ShowError.2))))) (w_op o2_add pp_str (w_ix (pp_var (i := 1)) (wh_index ct (pp_var (i := 2)) (ppa_cons pp_bl ppa_nil)))) pp_str)))))))
  · unfold kindOf at hz
    by_cases h : c = "BadNumber"
    · rw [if_pos h] at hz; subst h; cases hz; exact kOf_of (ev_BadNumber a)
    rw [if_neg h] at hz
    by_cases h : c = "NoAnswer"
    · rw [if_pos h] at hz; subst h; cases hz; exact kOf_of (ev_NoAnswer a)
    rw [if_neg h] at hz
    cases hz
end
end PP.B52
set_option maxRecDepth 100000
namespace PP.B52
open PySem PySem.Spec PyProof.Rows L2 PP PP.SZ
def T (ns : List Int) : PyData := .tuple (ns.map .int)
def TT (rs : List (List Int)) : PyData := .tuple (rs.map T)
theorem mixI_foldr (p a : Int) : ∀ ns : List Int, mixI p a ns = ns.foldr (fun n f => (f * a + n) % p) 0
  | [] => rfl
  | n :: ns => by rw [mixI, mixI_foldr p a ns, List.foldr_cons]
theorem mixed_loop {p a : Int} {r : PyData} (hp : 0 < p) (hp2 : p < 2 ^ 60) : ∀ (ns : List Int) (f : Int) (s4 : Sl), 0 ≤ f → f < p → ∃ s4', forD (tgN 4) d_mixed_b0 (ns.map .int) [.val (.int p), .val r, .val (.int a), .val (.int f), s4] = .nx [.val (.int p), .val r, .val (.int a), .val (.int (ns.foldl (fun f n => (f * a + n) % p) f)), s4']
  | [], f, s4, _, _ => ⟨s4, rfl⟩
  | n :: ns, f, s4, h0, h1 => by
    obtain ⟨s4', ih⟩ := mixed_loop (r := r) (a := a) hp hp2 ns ((f * a + n) % p) (.val (.int n)) (Int.emod_nonneg _ (by omega)) (Int.emod_lt_of_pos _ hp)
    refine ⟨s4', ?_⟩
    have hm : mulD (.int f) (.int a) = some (.int (f * a)) := mulD_l (by omega) (by omega)
    have hq : modD (.int (f * a + n)) (.int p) = some (.int ((f * a + n) % p)) := modD_int hp
    rw [List.map_cons, forD_cons (e1 := [.val (.int p), .val r, .val (.int a), .val (.int f), .val (.int n)]) (e2 := [.val (.int p), .val r, .val (.int a), .val (.int ((f * a + n) % p)), .val (.int n)]) rfl (by simp [d_mixed_b0, var, Out.bind, hm, hq]), ih, List.foldl_cons]
theorem s_mixed_eq {p a : Int} (hp : 0 < p) (hp2 : p < 2 ^ 60) (ns : List Int) : s_mixed [.int p, T ns, .int a] = .ok (.int (mixI p a ns)) := by
  obtain ⟨s4', h⟩ := mixed_loop (r := T ns) (a := a) hp hp2 ns.reverse 0 .no (by omega) hp
  rw [List.foldl_reverse, ← mixI_foldr, List.map_reverse] at h
  have e0 : envA 5 [.int p, T ns, .int a] = [.val (.int p), .val (T ns), .val (.int a), .no, .no] := rfl
  have e1 : revTD (T ns) = some (.tuple (ns.map .int).reverse) := rfl
  unfold s_mixed runP d_mixed
  rw [e0]
  simp [var, Out.bind, e1, h]
theorem lmixed_loop {p a : Int} {r : PyData} (hp : 0 < p) (hp2 : p < 2 ^ 60) : ∀ (ns : List Int) (f w : Int) (s5 : Sl), 0 ≤ w → w < p → ∃ s5' w', forD (tgN 5) d__law_mixed_b0 (ns.map .int) [.val (.int p), .val r, .val (.int a), .val (.int f), .val (.int w), s5] = .nx [.val (.int p), .val r, .val (.int a), .val (.int (lmixI p a f w ns)), .val (.int w'), s5']
  | [], f, w, s5, _, _ => ⟨s5, w, rfl⟩
  | n :: ns, f, w, s5, h0, h1 => by
    obtain ⟨s5', w', ih⟩ := lmixed_loop (r := r) (a := a) hp hp2 ns ((f + n * w) % p) (w * a % p) (.val (.int n)) (Int.emod_nonneg _ (by omega)) (Int.emod_lt_of_pos _ hp)
    refine ⟨s5', w', ?_⟩
    have hm : mulD (.int n) (.int w) = some (.int (n * w)) := mulD_r (by omega) (by omega)
    have hm2 : mulD (.int w) (.int a) = some (.int (w * a)) := mulD_l (by omega) (by omega)
    have hq : ∀ x : Int, modD (.int x) (.int p) = some (.int (x % p)) := fun x => modD_int hp
    rw [List.map_cons, forD_cons (e1 := [.val (.int p), .val r, .val (.int a), .val (.int f), .val (.int w), .val (.int n)]) (e2 := [.val (.int p), .val r, .val (.int a), .val (.int ((f + n * w) % p)), .val (.int (w * a % p)), .val (.int n)]) rfl (by simp [d__law_mixed_b0, parS, avSv, avNil, frzAV, setAll, var, Out.bind, hm, hm2, hq]), ih, lmixI]
theorem s__law_mixed_eq {p a : Int} (hp : 1 < p) (hp2 : p < 2 ^ 60) (ns : List Int) : s__law_mixed [.int p, T ns, .int a] = .ok (.int (lmixI p a 0 1 ns)) := by
  obtain ⟨s5', w', h⟩ := lmixed_loop (r := T ns) (a := a) (by omega) hp2 ns 0 1 .no (by omega) (by omega)
  have e0 : envA 6 [.int p, T ns, .int a] = [.val (.int p), .val (T ns), .val (.int a), .no, .no, .no] := rfl
  have e1 : seqD (T ns) = some (ns.map .int) := rfl
  unfold s__law_mixed runP d__law_mixed
  rw [e0]
  simp [asgS, tgT, tgsCons, tgsNil, tgN, szl, var, Out.bind, e1, h]
theorem hall_loop {p a b : Int} {r : PyData} (hp : 1 < p) (hp2 : p < 2 ^ 60) : ∀ (rs : List (List Int)) (f : Int) (s5 : Sl), 0 ≤ f → f < p → ∃ s5', forD (tgN 5) d_hall_told_b0 (rs.map T) [.val (.int p), .val r, .val (.int a), .val (.int b), .val (.int f), s5] = .nx [.val (.int p), .val r, .val (.int a), .val (.int b), .val (.int (hallI p a b f rs)), s5']
  | [], f, s5, _, _ => ⟨s5, rfl⟩
  | n :: ns, f, s5, h0, h1 => by
    obtain ⟨s5', ih⟩ := hall_loop (r := r) (a := a) (b := b) hp hp2 ns (f * (b - mixI p a n) % p) (.val (T n)) (Int.emod_nonneg _ (by omega)) (Int.emod_lt_of_pos _ (by omega))
    refine ⟨s5', ?_⟩
    have hx := s_mixed_eq (a := a) (show 0 < p by omega) hp2 n
    have hm : ∀ x : Int, mulD (.int f) (.int x) = some (.int (f * x)) := fun x => mulD_l (by omega) (by omega)
    have hq : ∀ x : Int, modD (.int x) (.int p) = some (.int (x % p)) := fun x => modD_int (by omega)
    rw [List.map_cons, forD_cons (e1 := [.val (.int p), .val r, .val (.int a), .val (.int b), .val (.int f), .val (T n)]) (e2 := [.val (.int p), .val r, .val (.int a), .val (.int b), .val (.int (f * (b - mixI p a n) % p)), .val (T n)]) rfl (by simp [d_hall_told_b0, var, Out.bind, hm, hq, hx]), ih, hallI]
theorem seqD_map (rs : List (List Int)) : seqD (TT rs) = some (rs.map T) := rfl
theorem s_hall_told_eq {p a b : Int} (hp : 1 < p) (hp2 : p < 2 ^ 60) (rs : List (List Int)) {R : PyData} (hR : seqD R = some (rs.map T)) : s_hall_told [.int p, R, .int a, .int b] = .ok (.int (hallI p a b 1 rs)) := by
  obtain ⟨s5', h⟩ := hall_loop (r := R) (a := a) (b := b) hp hp2 rs 1 .no (by omega) (by omega)
  have e0 : envA 6 [.int p, R, .int a, .int b] = [.val (.int p), .val R, .val (.int a), .val (.int b), .no, .no] := rfl
  unfold s_hall_told runP d_hall_told
  rw [e0]
  simp [var, Out.bind, hR, h]
theorem lhall_loop {p a b : Int} {r : PyData} (hp : 1 < p) (hp2 : p < 2 ^ 60) : ∀ (rs : List (List Int)) (f : Int) (s5 : Sl), 0 ≤ f → f < p → ∃ s5', forD (tgN 5) d__law_hall_b0 (rs.map T) [.val (.int p), .val r, .val (.int a), .val (.int b), .val (.int f), s5] = .nx [.val (.int p), .val r, .val (.int a), .val (.int b), .val (.int (hallI p a b f rs)), s5']
  | [], f, s5, _, _ => ⟨s5, rfl⟩
  | n :: ns, f, s5, h0, h1 => by
    obtain ⟨s5', ih⟩ := lhall_loop (r := r) (a := a) (b := b) hp hp2 ns (f * (b - mixI p a n) % p) (.val (T n)) (Int.emod_nonneg _ (by omega)) (Int.emod_lt_of_pos _ (by omega))
    refine ⟨s5', ?_⟩
    have hx : s__law_mixed [.int p, T n, .int a] = .ok (.int (mixI p a n)) := by
      rw [s__law_mixed_eq hp hp2]
      have e : p = ((p.toNat : Nat) : Int) := by omega
      haveI : NeZero p.toNat := ⟨by omega⟩
      rw [e, lmixI_eq (p := p.toNat)]
    have hm : ∀ x : Int, mulD (.int f) (.int x) = some (.int (f * x)) := fun x => mulD_l (by omega) (by omega)
    have hq : ∀ x : Int, modD (.int x) (.int p) = some (.int (x % p)) := fun x => modD_int (by omega)
    rw [List.map_cons, forD_cons (e1 := [.val (.int p), .val r, .val (.int a), .val (.int b), .val (.int f), .val (T n)]) (e2 := [.val (.int p), .val r, .val (.int a), .val (.int b), .val (.int (f * (b - mixI p a n) % p)), .val (T n)]) rfl (by simp [d__law_hall_b0, var, Out.bind, hm, hq, hx]), ih, hallI]
theorem s__law_hall_eq {p a b : Int} (hp : 1 < p) (hp2 : p < 2 ^ 60) (rs : List (List Int)) {R : PyData} (hR : seqD R = some (rs.map T)) : s__law_hall [.int p, R, .int a, .int b] = .ok (.int (hallI p a b 1 rs)) := by
  obtain ⟨s5', h⟩ := lhall_loop (r := R) (a := a) (b := b) hp hp2 rs 1 .no (by omega) (by omega)
  have e0 : envA 6 [.int p, R, .int a, .int b] = [.val (.int p), .val R, .val (.int a), .val (.int b), .no, .no] := rfl
  unfold s__law_hall runP d__law_hall
  rw [e0]
  simp [var, Out.bind, hR, h]
theorem truIs_bool (bs : List Bool) : truIs (bs.map .bool) = some bs := by
  induction bs with
  | nil => rfl
  | cons b bs ih =>
    rw [List.map_cons]
    show ((some b).bind fun b' => (truIs (bs.map .bool)).map (b' :: ·)) = _
    rw [ih]
    rfl
def inR (p : Int) : PyData → PyData
  | .int n => .bool (decide (0 ≤ n ∧ n < p))
  | _ => .none
theorem s_are_numbers_eq {p k : Int} {N : PyData} {ns : List Int} (hN : N = .list (ns.map .int) ∨ N = .tuple (ns.map .int)) (hl : ns.length ≤ 1000) : s_are_numbers [.int p, N, .int k] = .ok (.bool (decide ((ns.length : Int) = k) && ns.all fun n => decide (0 ≤ n ∧ n < p))) := by
  have e0 : envA 4 [.int p, N, .int k] = [.val (.int p), .val N, .val (.int k), .no] := rfl
  have hs : seqD N = some (ns.map .int) := by rcases hN with rfl | rfl <;> rfl
  have hL : lenD N = some (.int ns.length) := by rcases hN with rfl | rfl <;> simp
  have hc : compN [3] (itSeq (var 1)) (tgN 3) yesT (chain leD ltD (cst (.int 0)) (var 3) (var 0)) [.val (.int p), .val N, .val (.int k), .no] = .ok ((ns.map PyData.int).map (inR p)) [.val (.int p), .val N, .val (.int k), .no] := by
    refine compN_map (by simp [var, Out.bind, hs]) (by simp) rfl (by simp [szl]; omega) fun d hd => ?_
    obtain ⟨n, _, rfl⟩ := List.mem_map.mp hd
    by_cases c : 0 ≤ n
    · simp [var, Out.bind, c, inR]
    · simp [var, Out.bind, c, inR]
  have ht : truIs ((ns.map PyData.int).map (inR p)) = some (ns.map fun n => decide (0 ≤ n ∧ n < p)) := by
    rw [List.map_map]
    have := truIs_bool (ns.map fun n => decide (0 ≤ n ∧ n < p))
    rw [List.map_map] at this
    exact this
  have hall : (ns.map fun n => decide (0 ≤ n ∧ n < p)).all id = ns.all fun n => decide (0 ≤ n ∧ n < p) := by rw [List.all_map]; rfl
  have hA : allD (.list ((ns.map PyData.int).map (inR p))) = some (.bool (ns.all fun n => decide (0 ≤ n ∧ n < p))) := by
    show (truIs _).map _ = _
    rw [ht, Option.map_some, hall]
  unfold s_are_numbers runP d_are_numbers
  rw [e0]
  by_cases c : (ns.length : Int) = k
  · simp [-List.map_map, var, Out.bind, hL, c, hc, hA]
  · simp [var, Out.bind, hL, c]
theorem isp3 : s_is_prime [.int 3] = .ok (.bool true) := by kernel_rfl
theorem isp4 : s_is_prime [.int 4] = .ok (.bool false) := by kernel_rfl
theorem isp5 : s_is_prime [.int 5] = .ok (.bool true) := by kernel_rfl
theorem isp7 : s_is_prime [.int 7] = .ok (.bool true) := by kernel_rfl
theorem isp11 : s_is_prime [.int 11] = .ok (.bool true) := by kernel_rfl
def P4 (p : Int) : Prop := p = 3 ∨ p = 5 ∨ p = 7 ∨ p = 11
theorem P4.isp {p : Int} (h : P4 p) : s_is_prime [.int p] = .ok (.bool true) := by
  rcases h with rfl | rfl | rfl | rfl
  · exact isp3
  · exact isp5
  · exact isp7
  · exact isp11
theorem P4.lt {p : Int} (h : P4 p) : 1 < p ∧ p < 2 ^ 60 ∧ 3 ≤ p ∧ p ≤ 89 := by
  rcases h with rfl | rfl | rfl | rfl <;> omega
def okN (p k : Int) (ns : List Int) : Bool := decide ((ns.length : Int) = k) && ns.all fun n => decide (0 ≤ n ∧ n < p)
def rowsOk (p w : Int) (rs : List (List Int)) : Bool := decide (1 ≤ w ∧ w ≤ 6) && rs.all (okN p w)
def badN : Exn := ⟨"BadNumber", none⟩
def unT : PyData → List Int
  | .tuple xs => (intsD xs).getD []
  | _ => []
theorem unT_T (r : List Int) : unT (T r) = r := by
  show (intsD (r.map .int)).getD [] = r
  rw [intsD_map]
  rfl
theorem s_check_rows_eq {p : Int} (hp : P4 p) {w : Int} {rs : List (List Int)} (hl : rs.length ≤ 1000) (hr : ∀ r ∈ rs, r.length ≤ 1000) : s_check_rows [.int p, TT rs, .int w] = if 1 ≤ rs.length ∧ rs.length ≤ 12 then (if rowsOk p (if w = 0 then (rs.headD []).length else w) rs then .ok .none else .err badN) else .err badN := by
  obtain ⟨p1, p2, p3, p4⟩ := hp.lt
  have e0 : envA 5 [.int p, TT rs, .int w] = [.val (.int p), .val (TT rs), .val (.int w), .no, .no] := rfl
  have hL : lenD (TT rs) = some (.int rs.length) := by
    show some (PyData.int ((rs.map T).length : Nat)) = _
    rw [List.length_map]
  have hs : seqD (TT rs) = some (rs.map T) := rfl
  unfold s_check_rows runP
  rw [e0]
  by_cases c : 1 ≤ rs.length ∧ rs.length ≤ 12
  · rw [if_pos c]
    obtain ⟨r0, rs', rfl⟩ : ∃ r0 rs', rs = r0 :: rs' := by
      cases rs with
      | nil => exact absurd c.1 (by simp)
      | cons r0 rs' => exact ⟨r0, rs', rfl⟩
    have c1 : (1 : Int) ≤ (rs'.length : Int) + 1 := by omega
    have c2 : (rs'.length : Int) + 1 ≤ 12 := by simp at c; omega
    have hx : ixD (TT (r0 :: rs')) (.int 0) = some (T r0) := ixD_nat (xs := (r0 :: rs').map T) (i := 0) (by simp)
    have hl0 : lenD (T r0) = some (.int r0.length) := by
      show some (PyData.int ((r0.map PyData.int).length : Nat)) = _
      rw [List.length_map]
    have key : ∀ z : Int, (compN [4] (itSeq (var 1)) (tgN 4) yesT (callP s_are_numbers (aCons (var 0) (aCons (var 4) (aCons (var 3) aNil)))) [.val (.int p), .val (TT (r0 :: rs')), .val (.int w), .val (.int z), .no]) = .ok (((r0 :: rs').map T).map fun d => .bool (okN p z (unT d))) [.val (.int p), .val (TT (r0 :: rs')), .val (.int w), .val (.int z), .no] := by
      intro z
      refine compN_map (by simp [var, Out.bind, hs]) (by simp) rfl (by simp [szl]; simp at hl; omega) fun d hd => ?_
      obtain ⟨n, hn, rfl⟩ := List.mem_map.mp hd
      have := s_are_numbers_eq (p := p) (k := z) (N := T n) (.inr rfl) (hr n hn)
      simp [var, Out.bind, this, unT_T, okN]
    have hA : ∀ z : Int, allD (.list (((r0 :: rs').map T).map fun d => .bool (okN p z (unT d)))) = some (.bool ((r0 :: rs').all (okN p z))) := by
      intro z
      show (truIs _).map _ = _
      have e : ((r0 :: rs').map T).map (fun d => PyData.bool (okN p z (unT d))) = ((r0 :: rs').map (okN p z)).map .bool := by
        rw [List.map_map, List.map_map]
        apply List.map_congr_left
        intro r _
        show PyData.bool (okN p z (unT (T r))) = _
        rw [unT_T]
        rfl
      rw [e, truIs_bool, Option.map_some, List.all_map]
      rfl
    have tail : ∀ z : Int, ifS (orT (notT (asB (chain leD leD (cst (.int 1)) (var 3) (cst (.int 6))))) (notT (asT (argsN (arg1 allD) (aCons (asVal (compN [4] (itSeq (var 1)) (tgN 4) yesT (callP s_are_numbers (aCons (var 0) (aCons (var 4) (aCons (var 3) aNil)))))) aNil))))) (raiseS "BadNumber") nxS [.val (.int p), .val (TT (r0 :: rs')), .val (.int w), .val (.int z), .no] = if rowsOk p z (r0 :: rs') then .nx [.val (.int p), .val (TT (r0 :: rs')), .val (.int w), .val (.int z), .no] else .err badN [.val (.int p), .val (TT (r0 :: rs')), .val (.int w), .val (.int z), .no] := by
      intro z
      have kz := key z
      have az := hA z
      unfold rowsOk
      generalize (r0 :: rs').all (okN p z) = B at az ⊢
      generalize (((r0 :: rs').map T).map fun d => PyData.bool (okN p z (unT d))) = L at kz az
      by_cases d1 : 1 ≤ z
      · by_cases d2 : z ≤ 6
        · cases B <;> simp [asB, var, Out.bind, d1, d2, kz, az, badN]
        · simp [asB, var, Out.bind, d1, d2, badN]
      · simp [asB, var, Out.bind, d1, badN]
    have fin : ∀ z : Int, z = (if w = 0 then (r0.length : Int) else w) → d_check_rows [.val (.int p), .val (TT (r0 :: rs')), .val (.int w), .no, .no] = if rowsOk p z (r0 :: rs') then .nx [.val (.int p), .val (TT (r0 :: rs')), .val (.int w), .val (.int z), .no] else .err badN [.val (.int p), .val (TT (r0 :: rs')), .val (.int w), .val (.int z), .no] := by
      intro z hz
      refine seqS_of (e1 := [.val (.int p), .val (TT (r0 :: rs')), .val (.int w), .no, .no]) ?_ (seqS_of (e1 := [.val (.int p), .val (TT (r0 :: rs')), .val (.int w), .no, .no]) ?_ (seqS_of (e1 := [.val (.int p), .val (TT (r0 :: rs')), .val (.int w), .val (.int z), .no]) ?_ (tail z)))
      · simp [asB, var, Out.bind, p3, p4, hp.isp]
      · simp [asB, var, Out.bind, hL, c1, c2]
      · by_cases cw : w = 0
        · rw [if_pos cw] at hz
          subst cw hz
          simp [var, Out.bind, hx, hl0]
        · rw [if_neg cw] at hz
          subst hz
          simp [var, Out.bind, cw]
    rw [fin _ rfl]
    show _ = if rowsOk p (if w = 0 then (r0.length : Int) else w) (r0 :: rs') = true then _ else _
    generalize (if w = 0 then (r0.length : Int) else w) = z
    cases rowsOk p z (r0 :: rs') <;> rfl
  · rw [if_neg c]
    have f2 : d_check_rows [.val (.int p), .val (TT rs), .val (.int w), .no, .no] = .err badN [.val (.int p), .val (TT rs), .val (.int w), .no, .no] := by
      refine seqS_of (e1 := [.val (.int p), .val (TT rs), .val (.int w), .no, .no]) (by simp [asB, var, Out.bind, p3, p4, hp.isp]) ?_
      by_cases q1 : (1 : Int) ≤ rs.length
      · have q2 : ¬ (rs.length : Int) ≤ 12 := by omega
        simp [asB, var, Out.bind, hL, q1, q2, badN]
      · simp [asB, var, Out.bind, hL, q1, badN]
    rw [f2]
end PP.B52
set_option maxRecDepth 100000
namespace PP.B52
open PySem PySem.Spec PyProof.Rows L2 PP PP.SZ
def Good (p w : Int) (rs : List (List Int)) : Prop := 1 ≤ rs.length ∧ rs.length ≤ 12 ∧ 1 ≤ w ∧ w ≤ 6 ∧ ∀ r ∈ rs, (r.length : Int) = w ∧ ∀ x ∈ r, 0 ≤ x ∧ x < p
theorem Good.ok {p w : Int} {rs : List (List Int)} (h : Good p w rs) : rowsOk p w rs = true := by
  obtain ⟨_, _, h3, h4, h5⟩ := h
  unfold rowsOk
  rw [Bool.and_eq_true, List.all_eq_true]
  refine ⟨decide_eq_true ⟨h3, h4⟩, fun r hr => ?_⟩
  obtain ⟨q1, q2⟩ := h5 r hr
  unfold okN
  rw [Bool.and_eq_true, List.all_eq_true]
  exact ⟨decide_eq_true q1, fun x hx => decide_eq_true (q2 x hx)⟩
theorem Good.head {p w : Int} {rs : List (List Int)} (h : Good p w rs) : ((rs.headD []).length : Int) = w := by
  obtain ⟨h1, _, _, _, h5⟩ := h
  cases rs with
  | nil => simp at h1
  | cons r rs => exact (h5 r List.mem_cons_self).1
theorem Good.small {p w : Int} {rs : List (List Int)} (h : Good p w rs) : rs.length ≤ 1000 ∧ ∀ r ∈ rs, r.length ≤ 1000 := by
  obtain ⟨_, h2, _, h4, h5⟩ := h
  exact ⟨by omega, fun r hr => by have := (h5 r hr).1; omega⟩
theorem check_rows_0 {p w : Int} (hp : P4 p) {rs : List (List Int)} (h : Good p w rs) : s_check_rows [.int p, TT rs, .int 0] = .ok .none := by
  rw [s_check_rows_eq hp h.small.1 h.small.2, if_pos ⟨h.1, h.2.1⟩, if_pos rfl, h.head, h.ok]
  rfl
theorem check_rows_w {p w : Int} (hp : P4 p) {rs : List (List Int)} (h : Good p w rs) : s_check_rows [.int p, TT rs, .int w] = .ok .none := by
  have : w ≠ 0 := by have := h.2.2.1; omega
  rw [s_check_rows_eq hp h.small.1 h.small.2, if_pos ⟨h.1, h.2.1⟩, if_neg this, h.ok]
  rfl
theorem check_coins_ok {p : Int} {cs : List Int} (hl : cs.length ≤ 1000) (h : ∀ c ∈ cs, 0 ≤ c ∧ c < p) : s_check_coins [.int p, T cs] = .ok .none := by
  have e0 : envA 2 [.int p, T cs] = [.val (.int p), .val (T cs)] := rfl
  have hL : lenD (T cs) = some (.int cs.length) := by
    show some (PyData.int ((cs.map PyData.int).length : Nat)) = _
    rw [List.length_map]
  have ha := s_are_numbers_eq (p := p) (k := cs.length) (N := T cs) (.inr rfl) hl
  have : (cs.all fun n => decide (0 ≤ n ∧ n < p)) = true := by rw [List.all_eq_true]; exact fun x hx => decide_eq_true (h x hx)
  rw [this] at ha
  unfold s_check_coins runP d_check_coins
  rw [e0]
  simp [var, Out.bind, hL, ha]
theorem check_coins_bad {p : Int} {cs : List Int} (hl : cs.length ≤ 1000) (h : ¬ ∀ c ∈ cs, 0 ≤ c ∧ c < p) : s_check_coins [.int p, T cs] = .err badN := by
  have e0 : envA 2 [.int p, T cs] = [.val (.int p), .val (T cs)] := rfl
  have hL : lenD (T cs) = some (.int cs.length) := by
    show some (PyData.int ((cs.map PyData.int).length : Nat)) = _
    rw [List.length_map]
  have ha := s_are_numbers_eq (p := p) (k := cs.length) (N := T cs) (.inr rfl) hl
  have : (cs.all fun n => decide (0 ≤ n ∧ n < p)) = false := by
    rw [Bool.eq_false_iff]
    intro q
    rw [List.all_eq_true] at q
    exact h fun x hx => of_decide_eq_true (q x hx)
  rw [this] at ha
  unfold s_check_coins runP d_check_coins
  rw [e0]
  simp [var, Out.bind, hL, ha, badN]
theorem lenTT (rs : List (List Int)) : lenD (TT rs) = some (.int rs.length) := by
  show some (PyData.int ((rs.map T).length : Nat)) = _
  rw [List.length_map]
theorem lenT (r : List Int) : lenD (T r) = some (.int r.length) := by
  show some (PyData.int ((r.map PyData.int).length : Nat)) = _
  rw [List.length_map]
theorem ixTT0 {rs : List (List Int)} (h : 1 ≤ rs.length) : ixD (TT rs) (.int 0) = some (T (rs.headD [])) := by
  cases rs with
  | nil => simp at h
  | cons r rs => exact ixD_nat (xs := (r :: rs).map T) (i := 0) (by simp)
theorem check_two_ok {p w : Int} (hp : P4 p) {rs ss : List (List Int)} (h : Good p w rs) (h' : Good p w ss) (hl : rs.length = ss.length) : s_check_two [.int p, TT rs, TT ss] = .ok .none := by
  have e0 : envA 3 [.int p, TT rs, TT ss] = [.val (.int p), .val (TT rs), .val (TT ss)] := rfl
  have c1 := check_rows_0 hp h
  have c2 := check_rows_w hp h'
  have hx := ixTT0 h.1
  have hh : lenD (T (rs.headD [])) = some (.int w) := by rw [lenT, h.head]
  generalize rs.headD [] = r0 at hx hh
  unfold s_check_two runP d_check_two
  rw [e0]
  simp [asB, var, Out.bind, c1, c2, hx, hh, lenTT, hl]
theorem fingerprint_ok {p w a : Int} (hp : P4 p) {r : List Int} (h : Good p w [r]) (ha : 0 ≤ a ∧ a < p) : s_fingerprint [.int p, T r, .int a] = .ok (.int (mixI p a r)) := by
  have e0 : envA 3 [.int p, T r, .int a] = [.val (.int p), .val (T r), .val (.int a)] := rfl
  have c1 : s_check_rows [.int p, .tuple [T r], .int 0] = .ok .none := by
    rw [show PyData.tuple [T r] = TT [r] from rfl]
    exact check_rows_0 hp h
  have c2 : s_check_coins [.int p, .tuple [.int a]] = .ok .none := by
    rw [show PyData.tuple [.int a] = T [a] from rfl]
    exact check_coins_ok (cs := [a]) (by simp) (by simpa using ha)
  have c3 := s_mixed_eq (p := p) (a := a) (by have := hp.lt; omega) hp.lt.2.1 r
  unfold s_fingerprint runP d_fingerprint
  rw [e0]
  simp [asB, var, Out.bind, c1, c2, c3, szl]
theorem hall_ok {p w a b : Int} (hp : P4 p) {rs : List (List Int)} (h : Good p w rs) (ha : 0 ≤ a ∧ a < p) (hb : 0 ≤ b ∧ b < p) : s_hall [.int p, TT rs, .int a, .int b] = .ok (.int (hallI p a b 1 rs)) := by
  have e0 : envA 4 [.int p, TT rs, .int a, .int b] = [.val (.int p), .val (TT rs), .val (.int a), .val (.int b)] := rfl
  have c1 := check_rows_0 hp h
  have c2 : s_check_coins [.int p, .tuple [.int a, .int b]] = .ok .none := by
    rw [show PyData.tuple [.int a, .int b] = T [a, b] from rfl]
    exact check_coins_ok (cs := [a, b]) (by simp) (by simpa using ⟨ha, hb⟩)
  have c3 := s_hall_told_eq (p := p) (a := a) (b := b) hp.lt.1 hp.lt.2.1 rs (R := TT rs) rfl
  unfold s_hall runP d_hall
  rw [e0]
  simp [asB, var, Out.bind, c1, c2, c3, szl]
theorem same_hall_ok {p w a b : Int} (hp : P4 p) {rs ss : List (List Int)} (h : Good p w rs) (h' : Good p w ss) (hl : rs.length = ss.length) (ha : 0 ≤ a ∧ a < p) (hb : 0 ≤ b ∧ b < p) : s_same_hall [.int p, TT rs, TT ss, .int a, .int b] = .ok (.bool (decide (hallI p a b 1 rs = hallI p a b 1 ss))) := by
  have e0 : envA 5 [.int p, TT rs, TT ss, .int a, .int b] = [.val (.int p), .val (TT rs), .val (TT ss), .val (.int a), .val (.int b)] := rfl
  have c1 := check_two_ok hp h h' hl
  have c2 : s_check_coins [.int p, .tuple [.int a, .int b]] = .ok .none := by
    rw [show PyData.tuple [.int a, .int b] = T [a, b] from rfl]
    exact check_coins_ok (cs := [a, b]) (by simp) (by simpa using ⟨ha, hb⟩)
  have c3 := s_hall_told_eq (p := p) (a := a) (b := b) hp.lt.1 hp.lt.2.1 rs (R := TT rs) rfl
  have c4 := s_hall_told_eq (p := p) (a := a) (b := b) hp.lt.1 hp.lt.2.1 ss (R := TT ss) rfl
  unfold s_same_hall runP d_same_hall
  rw [e0]
  simp [asB, var, Out.bind, c1, c2, c3, c4, szl]
end PP.B52
set_option maxRecDepth 100000
namespace PP.B52
open PySem PySem.Spec PyProof.Rows L2 PP PP.SZ
def coins (p : Nat) : List (Nat × Nat) := (List.range p).flatMap fun a => (List.range p).map fun b => (a, b)
def cD (c : Nat × Nat) : PyData := .tuple [.int (c.1 : Nat), .int (c.2 : Nat)]
theorem pairs3 : s_pairs_of [.int 3] = .ok (.list ((coins 3).map cD)) := by kernel_rfl
theorem pairs5 : s_pairs_of [.int 5] = .ok (.list ((coins 5).map cD)) := by kernel_rfl
theorem pairs7 : s_pairs_of [.int 7] = .ok (.list ((coins 7).map cD)) := by kernel_rfl
theorem pairs11 : s_pairs_of [.int 11] = .ok (.list ((coins 11).map cD)) := by kernel_rfl
theorem lcoins3 : s__law_coins [.int 3] = .ok (.list ((coins 3).map cD)) := by kernel_rfl
theorem lcoins5 : s__law_coins [.int 5] = .ok (.list ((coins 5).map cD)) := by kernel_rfl
theorem lcoins7 : s__law_coins [.int 7] = .ok (.list ((coins 7).map cD)) := by kernel_rfl
theorem lcoins11 : s__law_coins [.int 11] = .ok (.list ((coins 11).map cD)) := by kernel_rfl
theorem pairs_eq {p : Int} (hp : P4 p) : s_pairs_of [.int p] = .ok (.list ((coins p.toNat).map cD)) := by
  rcases hp with rfl | rfl | rfl | rfl
  · exact pairs3
  · exact pairs5
  · exact pairs7
  · exact pairs11
theorem lcoins_eq {p : Int} (hp : P4 p) : s__law_coins [.int p] = .ok (.list ((coins p.toNat).map cD)) := by
  rcases hp with rfl | rfl | rfl | rfl
  · exact lcoins3
  · exact lcoins5
  · exact lcoins7
  · exact lcoins11
theorem coins_len {p : Int} (hp : P4 p) : (coins p.toNat).length = p.toNat * p.toNat := by
  rcases hp with rfl | rfl | rfl | rfl <;> decide +kernel
def same (p : Int) (rs ss : List (List Int)) (c : Nat × Nat) : Bool := decide (hallI p (c.1 : Nat) (c.2 : Nat) 1 rs = hallI p (c.1 : Nat) (c.2 : Nat) 1 ss)
def due (p : Int) (rs ss : List (List Int)) : List (Nat × Nat) := (coins p.toNat).filter (same p rs ss)
def unC : PyData → Nat × Nat
  | .tuple [.int a, .int b] => (a.toNat, b.toNat)
  | _ => (0, 0)
theorem unC_cD (c : Nat × Nat) : unC (cD c) = c := rfl
theorem filter_cD (q : Nat × Nat → Bool) (l : List (Nat × Nat)) : (l.map cD).filter (fun d => q (unC d)) = (l.filter q).map cD := by
  rw [List.filter_map]
  rfl
theorem passing_ok {p w : Int} (hp : P4 p) {rs ss : List (List Int)} (h : Good p w rs) (h' : Good p w ss) (hl : rs.length = ss.length) : s_passing [.int p, TT rs, TT ss] = .ok (.tuple ((due p rs ss).map cD)) := by
  have e0 : envA 5 [.int p, TT rs, TT ss] = [.val (.int p), .val (TT rs), .val (TT ss), .no, .no] := rfl
  have c1 := check_two_ok hp h h' hl
  have cl := coins_len hp
  have hsz : (coins p.toNat).length ≤ sizeLine := by rw [cl, szl]; rcases hp with rfl | rfl | rfl | rfl <;> decide
  have c2 : compN [3, 4] (itSeq (callP (s_pairs_of) (aCons (var 0) aNil))) (tgT 2 (tgsCons (tgN 3) (tgsCons (tgN 4) tgsNil))) (asB (bin2 eqD (callP (s_hall_told) (aCons (var 0) (aCons (var 1) (aCons (var 3) (aCons (var 4) aNil))))) (callP (s_hall_told) (aCons (var 0) (aCons (var 2) (aCons (var 3) (aCons (var 4) aNil))))))) (dispT (aCons (var 3) (aCons (var 4) aNil))) [.val (.int p), .val (TT rs), .val (TT ss), .no, .no] = .ok ((due p rs ss).map cD) [.val (.int p), .val (TT rs), .val (TT ss), .no, .no] := by
    have := compN_g (vs := [3, 4]) (base := [.val (.int p), .val (TT rs), .val (TT ss), .no, .no]) (e := [.val (.int p), .val (TT rs), .val (TT ss), .no, .no]) (e1 := [.val (.int p), .val (TT rs), .val (TT ss), .no, .no]) (ds := (coins p.toNat).map cD) (it := itSeq (callP (s_pairs_of) (aCons (var 0) aNil))) (t := tgT 2 (tgsCons (tgN 3) (tgsCons (tgN 4) tgsNil))) (ts := asB (bin2 eqD (callP (s_hall_told) (aCons (var 0) (aCons (var 1) (aCons (var 3) (aCons (var 4) aNil))))) (callP (s_hall_told) (aCons (var 0) (aCons (var 2) (aCons (var 3) (aCons (var 4) aNil))))))) (el := dispT (aCons (var 3) (aCons (var 4) aNil)))
      (p := fun d => same p rs ss (unC d)) (g := id) (by simp [var, Out.bind, pairs_eq hp]) rfl rfl (by rw [List.length_map]; exact hsz) rfl ?_
    · rw [this, filter_cD (same p rs ss), List.map_id]
      rfl
    · intro d hd
      obtain ⟨c, _, rfl⟩ := List.mem_map.mp hd
      have c3 := s_hall_told_eq (p := p) (a := (c.1 : Nat)) (b := (c.2 : Nat)) hp.lt.1 hp.lt.2.1 rs (R := TT rs) rfl
      have c4 := s_hall_told_eq (p := p) (a := (c.1 : Nat)) (b := (c.2 : Nat)) hp.lt.1 hp.lt.2.1 ss (R := TT ss) rfl
      refine ⟨[.val (.int p), .val (TT rs), .val (TT ss), .val (.int (c.1 : Nat)), .val (.int (c.2 : Nat))], rfl, rfl, rfl, ?_, fun _ => ?_⟩
      · show _ = Out.ok (same p rs ss c) _
        simp [asB, var, Out.bind, c3, c4, same]
      · simp [var, Out.bind, szl, cD]
  unfold s_passing runP d_passing
  rw [e0, seqS_of (e1 := [.val (.int p), .val (TT rs), .val (TT ss), .no, .no]) (by simp [var, Out.bind, c1]) rfl]
  simp [c2, Out.bind]
end PP.B52
set_option maxRecDepth 100000
namespace PP.B52
open PySem PySem.Spec PyProof.Rows L2 PP PP.SZ
def mostI (p many w : Int) : Int := p * many * (if w - 1 > 1 then w - 1 else 1)
theorem most_passing_ok {p many w : Int} (hp : P4 p) (hm : 1 ≤ many ∧ many ≤ 12) (hw : 1 ≤ w ∧ w ≤ 6) : s_most_passing [.int p, .int many, .int w] = .ok (.int (mostI p many w)) := by
  have e0 : envA 3 [.int p, .int many, .int w] = [.val (.int p), .val (.int many), .val (.int w)] := rfl
  obtain ⟨p1, p2, p3, p4⟩ := hp.lt
  have u1 : mulD (.int p) (.int many) = some (.int (p * many)) := mulD_l (by omega) (by omega)
  have u2 : ∀ x : Int, mulD (.int (p * many)) (.int x) = some (.int (p * many * x)) := fun x => by
    rcases hp with rfl | rfl | rfl | rfl <;> exact mulD_l (by omega) (by omega)
  unfold s_most_passing runP d_most_passing
  rw [e0, seqS_of (e1 := [.val (.int p), .val (.int many), .val (.int w)]) (by simp [asB, var, Out.bind, p3, p4, hp.isp]) rfl]
  rw [seqS_of (e1 := [.val (.int p), .val (.int many), .val (.int w)]) (by simp [asB, var, Out.bind, hm, hw]) rfl]
  simp [var, Out.bind, u1, u2, mostI]
end PP.B52
set_option maxRecDepth 100000
namespace PP.B52
open PySem PySem.Spec PyProof.Rows L2 PP PP.SZ
theorem eqv_T (r s : List Int) : PyData.eqv (T r) (T s) = decide (r = s) := by
  show PyData.eqvAll (r.map .int) (s.map .int) = _
  induction r generalizing s with
  | nil => cases s <;> rfl
  | cons x r ih =>
    cases s with
    | nil => rfl
    | cons y s =>
      show (PyData.eqv (.int x) (.int y) && PyData.eqvAll (r.map .int) (s.map .int)) = _
      rw [ih s]
      have e : PyData.eqv (.int x) (.int y) = decide (x = y) := by simp only [PyData.eqv, beq_dec]
      rw [e, Bool.eq_iff_iff]
      simp
theorem nks_ints : ∀ r : List Int, nks (r.map .int) = some (r.map .num)
  | [] => rfl
  | x :: r => by
    show (nk (.int x)).bind (fun k => (nks (r.map .int)).map (k :: ·)) = _
    rw [nks_ints r]
    rfl
theorem nk_T (r : List Int) : nk (T r) = some (.tup (r.map .num)) := by
  show (nks (r.map .int)).map NestedKey.tup = _
  rw [nks_ints]
  rfl
theorem nums_inj : ∀ {r s : List Int}, r.map NestedKey.num = s.map .num → r = s
  | [], [], _ => rfl
  | [], _ :: _, h => by simp at h
  | _ :: _, [], h => by simp at h
  | x :: r, y :: s, h => by
    rw [List.map_cons, List.map_cons] at h
    injection h with h1 h2
    injection h1 with h1
    rw [h1, nums_inj h2]
theorem nk_inj {r s : List Int} (h : nk (T r) = nk (T s)) : r = s := by
  rw [nk_T, nk_T] at h
  injection h with h
  injection h with h
  exact nums_inj h
theorem keyOk_T {r : List Int} : keyOk (T r) = true := by
  have hd : ∀ r : List Int, NestedKey.depthAll (r.map .num) = 0 := by
    intro r
    induction r with
    | nil => rfl
    | cons x r ih => show max (NestedKey.depth (.num x)) (NestedKey.depthAll (r.map .num)) = 0; rw [ih]; rfl
  unfold keyOk
  rw [nk_T]
  show (decide (NestedKey.depthAll (r.map .num) + 1 ≤ 8) && true) = true
  rw [hd]
  rfl
def addK (acc : List (List Int)) (r : List Int) : List (List Int) := if r ∈ acc then acc else acc ++ [r]
def dd (rs : List (List Int)) : List (List Int) := rs.foldl addK []
theorem addKeyD_T (acc : List (List Int)) (r : List Int) : addKeyD (acc.map T) (T r) = (addK acc r).map T := by
  have e : (acc.map T).any (fun x => decide (nk x = nk (T r))) = decide (r ∈ acc) := by
    rw [Bool.eq_iff_iff, List.any_eq_true, decide_eq_true_iff]
    constructor
    · rintro ⟨x, hx, h⟩
      obtain ⟨s, hs, rfl⟩ := List.mem_map.mp hx
      have := nk_inj (of_decide_eq_true h)
      rw [← this]
      exact hs
    · intro h
      exact ⟨T r, List.mem_map.mpr ⟨r, h, rfl⟩, decide_eq_true rfl⟩
  unfold addKeyD addK
  rw [e]
  by_cases c : r ∈ acc
  · rw [if_pos (decide_eq_true c), if_pos c]
  · rw [if_neg (by simpa using c), if_neg c, List.map_append]
    rfl
theorem foldl_T : ∀ (rs acc : List (List Int)), (rs.map T).foldl addKeyD (acc.map T) = (rs.foldl addK acc).map T
  | [], acc => rfl
  | r :: rs, acc => by
    rw [List.map_cons, List.foldl_cons, addKeyD_T, foldl_T rs, List.foldl_cons]
theorem dd_mem_aux : ∀ (rs acc : List (List Int)) (x : List Int), x ∈ rs.foldl addK acc ↔ x ∈ acc ∨ x ∈ rs
  | [], acc, x => by simp
  | r :: rs, acc, x => by
    rw [List.foldl_cons, dd_mem_aux rs]
    unfold addK
    split
    · rename_i h
      rw [List.mem_cons]
      constructor
      · rintro (q | q)
        · exact .inl q
        · exact .inr (.inr q)
      · rintro (q | q | q)
        · exact .inl q
        · subst q; exact .inl h
        · exact .inr q
    · rw [List.mem_append, List.mem_cons, List.mem_cons]
      simp only [List.not_mem_nil, or_false]
      rw [or_assoc]
theorem dd_mem {rs : List (List Int)} {x : List Int} : x ∈ dd rs ↔ x ∈ rs := by
  unfold dd
  rw [dd_mem_aux]
  simp
theorem dd_nodup_aux : ∀ (rs acc : List (List Int)), acc.Nodup → (rs.foldl addK acc).Nodup
  | [], acc, h => h
  | r :: rs, acc, h => by
    rw [List.foldl_cons]
    apply dd_nodup_aux rs
    unfold addK
    split
    · exact h
    · rename_i q
      rw [List.nodup_append]
      refine ⟨h, by simp, ?_⟩
      intro a ha b hb
      rw [List.mem_singleton] at hb
      subst hb
      exact fun e => q (e ▸ ha)
theorem dd_nodup (rs : List (List Int)) : (dd rs).Nodup := dd_nodup_aux rs [] List.nodup_nil
theorem dd_len_aux : ∀ (rs acc : List (List Int)), (rs.foldl addK acc).length ≤ acc.length + rs.length
  | [], acc => Nat.le_refl _
  | r :: rs, acc => by
    rw [List.foldl_cons]
    refine Nat.le_trans (dd_len_aux rs _) ?_
    unfold addK
    rw [List.length_cons]
    split
    · omega
    · rw [List.length_append, List.length_singleton]; omega
theorem dd_len (rs : List (List Int)) : (dd rs).length ≤ rs.length := by
  have := dd_len_aux rs []
  simpa [dd] using this
theorem dd_of_nodup_aux : ∀ (rs acc : List (List Int)), (acc ++ rs).Nodup → rs.foldl addK acc = acc ++ rs
  | [], acc, _ => by simp
  | r :: rs, acc, h => by
    have hr : r ∉ acc := by
      rw [List.nodup_append] at h
      intro q
      exact h.2.2 r q r List.mem_cons_self rfl
    rw [List.foldl_cons]
    unfold addK
    rw [if_neg hr]
    have := dd_of_nodup_aux rs (acc ++ [r]) (by rw [List.append_assoc]; exact h)
    unfold addK at this
    rw [this, List.append_assoc]
    rfl
theorem dd_of_nodup {rs : List (List Int)} (h : rs.Nodup) : dd rs = rs := by
  have := dd_of_nodup_aux rs [] (by simpa using h)
  simpa [dd] using this
end PP.B52
set_option maxRecDepth 100000
namespace PP.B52
open PySem PySem.Spec PyProof.Rows L2 PP PP.SZ
def leI (r s : List Int) : Bool := decide (r ≤ s)
theorem leI_trans (x y z : List Int) (h1 : leI x y = true) (h2 : leI y z = true) : leI x z = true := decide_eq_true (List.le_trans (of_decide_eq_true h1) (of_decide_eq_true h2))
theorem leI_total (x y : List Int) : (leI x y || leI y x) = true := by
  unfold leI
  rw [Bool.or_eq_true, decide_eq_true_iff, decide_eq_true_iff]
  exact List.le_total x y
theorem leI_antisymm (x y : List Int) (h1 : leI x y = true) (h2 : leI y x = true) : x = y := List.le_antisymm (of_decide_eq_true h1) (of_decide_eq_true h2)
def srt (rs : List (List Int)) : List (List Int) := rs.mergeSort leI
theorem srt_perm (rs : List (List Int)) : (srt rs).Perm rs := List.mergeSort_perm rs _
theorem srt_eq {rs ss : List (List Int)} : srt rs = srt ss ↔ rs.Perm ss := by
  constructor
  · intro h
    exact (srt_perm rs).symm.trans (h ▸ srt_perm ss)
  · intro h
    exact PySem.W.Srt.the_of_perm leI leI_trans leI_total leI_antisymm ((srt_perm rs).trans h) (List.pairwise_mergeSort leI_trans leI_total rs)
theorem dataLe_T (r s : List Int) : PySem.W.dataLe false id (T r) (T s) = leI r s := by
  have h := congrFun (congrFun (PySem.W.dataLe_rows (fun r : List Int => r)) r) s
  exact h
theorem sort_T (rs : List (List Int)) : (rs.map T).mergeSort (PySem.W.dataLe false id) = (srt rs).map T :=
  (PySem.W.sort_maps T fun a _ b _ => (dataLe_T a b).symm).symm
theorem alike_ints : ∀ r s : List Int, PySem.W.alikeAll (r.map .int) (s.map .int) = true
  | [], _ => by rw [List.map_nil, PySem.W.alikeAll]
  | _ :: _, [] => rfl
  | x :: r, y :: s => by
    show (PySem.W.alike (.int x) (.int y) && PySem.W.alikeAll (r.map .int) (s.map .int)) = true
    rw [alike_ints r s]
    rfl
theorem nm_T {p : Int} {r : List Int} (hp : p ≤ 1000) (h : r.length ≤ 12) (hr : ∀ x ∈ r, 0 ≤ x ∧ x < p) : Nm 1 (12 * 21) (T r) := Nm.tup (fun x hx => by
  obtain ⟨n, hn, rfl⟩ := List.mem_map.mp hx
  exact Nm.int (hr n hn).1 (by have := (hr n hn).2; omega)) (by rw [List.length_map]; exact h)
theorem sortOk_T {p : Int} (hp : p ≤ 1000) {rs : List (List Int)} (hl : rs.length ≤ 1000) (h : ∀ r ∈ rs, r.length ≤ 12 ∧ r ≠ [] ∧ ∀ x ∈ r, 0 ≤ x ∧ x < p) : SortOk (rs.map T) := by
  refine ⟨fun d hd d' hd' => ?_, .inl fun d hd => ?_, fun d hd => ?_, by rw [List.length_map, szl]; omega⟩
  · obtain ⟨r, _, rfl⟩ := List.mem_map.mp hd
    obtain ⟨s, _, rfl⟩ := List.mem_map.mp hd'
    exact alike_ints r s
  · obtain ⟨r, hr, rfl⟩ := List.mem_map.mp hd
    cases r with
    | nil => exact absurd rfl (h _ hr).2.1
    | cons x r => exact ⟨_, _, rfl⟩
  · obtain ⟨r, hr, rfl⟩ := List.mem_map.mp hd
    exact (nm_T hp (h r hr).1 (h r hr).2.2).shaped (by omega)
open Classical in
theorem sortD_TT {p : Int} (hp : p ≤ 1000) {rs : List (List Int)} (hl : rs.length ≤ 1000) (h : ∀ r ∈ rs, r.length ≤ 12 ∧ r ≠ [] ∧ ∀ x ∈ r, 0 ≤ x ∧ x < p) : sortD (TT rs) = some ((srt rs).map T) := by
  show (if SortOk (rs.map T) then _ else _) = _
  rw [if_pos (sortOk_T hp hl h), sort_T]
end PP.B52
set_option maxRecDepth 100000
namespace PP.B52
open PySem PySem.Spec PyProof.Rows L2 PP PP.SZ
section
variable {i : Nat} {it : Sls → Out (List PyData)} {ts : Sls → Out Bool} {kx vx : Sls → Out SV} {e e1 : Sls} {g : PyData → PyData} {gv : PyData → SV}
theorem dcGo_cons (d : PyData) (ds : List PyData) (e : Sls) : dcGo [i] (tgN i) yesT kx vx (d :: ds) e = (kx (e.set i (.val d))).noErr.bind fun x e3 => (frzO x e3).noErr.bind fun y e4 => (vx e4).noErr.bind fun _ e5 =>
        if keyOk (rd e4 y) && noOwn [i] e5 then (dcGo [i] (tgN i) yesT kx vx ds (wipeE e5 [i])).bind fun r e7 => .ok (rd e4 y :: r) e7 else .stuck := rfl
theorem dcGo_1 : ∀ {ds : List PyData}, (∀ d ∈ ds, kx (e.set i (.val d)) = .ok (.val (g d)) (e.set i (.val d)) ∧ vx (e.set i (.val d)) = .ok (gv d) (e.set i (.val d)) ∧ keyOk (g d) = true) → dcGo [i] (tgN i) yesT kx vx ds (e.set i .no) = .ok (ds.map g) (e.set i .no)
  | [], _ => rfl
  | d :: ds, h => by
    obtain ⟨h1, h2, h3⟩ := h d List.mem_cons_self
    have ih := dcGo_1 (ds := ds) fun d' hd => h d' (List.mem_cons_of_mem _ hd)
    rw [dcGo_cons, List.set_set, h1]
    show ((vx (e.set i (.val d))).noErr.bind _) = _
    rw [h2]
    show (if (keyOk (g d) && noOwn [i] (e.set i (.val d))) = true then _ else _) = _
    rw [h3, noOwn_1 (isOwn_set fun _ => by simp), if_pos (show (true && true) = true from rfl), wipeE_1, List.set_set, ih]
    rfl
theorem compD_1 {ds : List PyData} (hit : it e = .ok ds e1) (hi : i < e1.length) (ho : isOwn i e1 = false) (hl : ds.length ≤ sizeLine) (h : ∀ d ∈ ds, kx (e1.set i (.val d)) = .ok (.val (g d)) (e1.set i (.val d)) ∧ vx (e1.set i (.val d)) = .ok (gv d) (e1.set i (.val d)) ∧ keyOk (g d) = true) :
    compD [i] it (tgN i) yesT kx vx e = .ok (.val (.int ((ds.map g).foldl addKeyD []).length)) e1 := by
  unfold compD
  rw [hit]
  show (if (noOwn [i] e1 && decide (ds.length ≤ sizeLine)) = true then _ else _) = _
  rw [noOwn_1 ho, decide_eq_true hl, if_pos (show (true && true) = true from rfl), wipeE_1, dcGo_1 h]
  show Out.ok _ (backE e1 (e1.set i .no) [i]) = _
  rw [backE_1, set_back _ hi]
end
theorem tupD_T (r : List Int) : tupD (T r) = some (T r) := rfl
theorem check_table_eq {p w : Int} (hp : P4 p) {rs ts : List (List Int)} (h : Good p w rs) (h' : Good p w ts) : s_check_table [.int p, TT rs, TT ts] = if (dd ts).length = ts.length then .ok .none else .err badN := by
  have e0 : envA 4 [.int p, TT rs, TT ts] = [.val (.int p), .val (TT rs), .val (TT ts), .no] := rfl
  have c1 := check_rows_0 hp h
  have c2 := check_rows_w hp h'
  have hx := ixTT0 h.1
  have hh : lenD (T (rs.headD [])) = some (.int w) := by rw [lenT, h.head]
  generalize rs.headD [] = r0 at hx hh
  have hs : seqD (TT ts) = some (ts.map T) := rfl
  have hc : compD [3] (itSeq (var 2)) (tgN 3) yesT (argsN (arg1 tupD) (aCons (var 3) aNil)) (cst (.bool true)) [.val (.int p), .val (TT rs), .val (TT ts), .no] = .ok (.val (.int (dd ts).length)) [.val (.int p), .val (TT rs), .val (TT ts), .no] := by
    have := compD_1 (i := 3) (it := itSeq (var 2)) (kx := argsN (arg1 tupD) (aCons (var 3) aNil)) (vx := cst (.bool true)) (e := [.val (.int p), .val (TT rs), .val (TT ts), .no]) (e1 := [.val (.int p), .val (TT rs), .val (TT ts), .no]) (g := id) (gv := fun _ => .val (.bool true)) (ds := ts.map T) (by simp [var, Out.bind, hs]) (by simp) rfl (by rw [List.length_map, szl]; have := h'.small.1; omega) (fun d hd => by
      obtain ⟨r, hr, rfl⟩ := List.mem_map.mp hd
      exact ⟨by simp [var, Out.bind, tupD_T], rfl, keyOk_T⟩)
    rw [this, List.map_id]
    have e := foldl_T ts []
    rw [List.map_nil] at e
    rw [e, List.length_map]
    rfl
  have key : d_check_table [.val (.int p), .val (TT rs), .val (TT ts), .no] = if (dd ts).length = ts.length then .nx [.val (.int p), .val (TT rs), .val (TT ts), .no] else .err badN [.val (.int p), .val (TT rs), .val (TT ts), .no] := by
    refine seqS_of (e1 := [.val (.int p), .val (TT rs), .val (TT ts), .no]) (by simp [var, Out.bind, c1]) (seqS_of (e1 := [.val (.int p), .val (TT rs), .val (TT ts), .no]) (by simp [var, Out.bind, c2, hx, hh]) ?_)
    by_cases q : (dd ts).length = ts.length
    · simp [asB, var, Out.bind, hc, lenTT, q]
    · have q' : ¬ ((dd ts).length : Int) = ts.length := by omega
      simp [asB, var, Out.bind, hc, lenTT, q, q', badN]
  unfold s_check_table runP
  rw [e0, key]
  by_cases q : (dd ts).length = ts.length
  · rw [if_pos q, if_pos q]
  · rw [if_neg q, if_neg q]
theorem check_table_ok {p w : Int} (hp : P4 p) {rs ts : List (List Int)} (h : Good p w rs) (h' : Good p w ts) (hn : ts.Nodup) : s_check_table [.int p, TT rs, TT ts] = .ok .none := by
  rw [check_table_eq hp h h', dd_of_nodup hn, if_pos rfl]
theorem check_counts_ok {p w : Int} (hp : P4 p) {rs ts : List (List Int)} (h : Good p w rs) (h' : Good p w ts) (hn : ts.Nodup) {cs : List Int} (hc : cs.length = ts.length) (hr : ∀ c ∈ cs, 0 ≤ c ∧ c ≤ 12) : s_check_counts [.int p, TT rs, TT ts, T cs] = .ok .none := by
  have e0 : envA 5 [.int p, TT rs, TT ts, T cs] = [.val (.int p), .val (TT rs), .val (TT ts), .val (T cs), .no] := rfl
  have c1 := check_table_ok hp h h' hn
  have hs : seqD (T cs) = some (cs.map .int) := rfl
  have hl := h'.small.1
  have hcc : compN [4] (itSeq (var 3)) (tgN 4) yesT (chain leD leD (cst (.int 0)) (var 4) (cst (.int 12))) [.val (.int p), .val (TT rs), .val (TT ts), .val (T cs), .no] = .ok ((cs.map PyData.int).map fun _ => .bool true) [.val (.int p), .val (TT rs), .val (TT ts), .val (T cs), .no] := by
    refine compN_map (by simp [var, Out.bind, hs]) (by simp) rfl (by rw [List.length_map, szl]; omega) fun d hd => ?_
    obtain ⟨n, hn, rfl⟩ := List.mem_map.mp hd
    have := hr n hn
    simp [var, Out.bind, this]
  have hA : allD (.list ((cs.map PyData.int).map fun _ => .bool true)) = some (.bool true) := by
    have e : ((cs.map PyData.int).map fun _ => PyData.bool true) = (cs.map fun _ => true).map .bool := by rw [List.map_map, List.map_map]; rfl
    show (truIs _).map _ = _
    rw [e, truIs_bool, Option.map_some, List.all_map]
    congr 2
    rw [List.all_eq_true]
    exact fun _ _ => rfl
  generalize ((cs.map PyData.int).map fun _ => PyData.bool true) = L at hcc hA
  unfold s_check_counts runP d_check_counts
  rw [e0]
  simp [asB, var, Out.bind, c1, lenT, lenTT, hc, hcc, hA]
end PP.B52
set_option maxRecDepth 100000
namespace PP.B52
open PySem PySem.Spec PyProof.Rows L2 PP PP.SZ
theorem Good.nm {p w : Int} (hp : P4 p) {rs : List (List Int)} (h : Good p w rs) : ∀ x ∈ rs.map T, Nm 1 (12 * 21) x := by
  intro x hx
  obtain ⟨r, hr, rfl⟩ := List.mem_map.mp hx
  have q := h.2.2.2.2 r hr
  have q2 := h.2.2.2.1
  exact nm_T (p := p) (by have := hp.lt; omega) (by omega) q.2
theorem Good.nmL {p w : Int} (hp : P4 p) {rs : List (List Int)} (h : Good p w rs) : Nm 2 4000 (.list (rs.map T)) := (Nm.list (N := 12) (h.nm hp) (by rw [List.length_map]; exact h.2.1)).mono (by omega) (by omega)
theorem Good.nmT {p w : Int} (hp : P4 p) {rs : List (List Int)} (h : Good p w rs) : Nm 2 4000 (TT rs) := (Nm.tup (N := 12) (h.nm hp) (by rw [List.length_map]; exact h.2.1)).mono (by omega) (by omega)
theorem any_T (rs : List (List Int)) (r : List Int) : ((rs.map T).any fun z => PyData.eqv z (T r)) = decide (r ∈ rs) := by
  rw [Bool.eq_iff_iff, List.any_eq_true, decide_eq_true_iff]
  constructor
  · rintro ⟨x, hx, h⟩
    obtain ⟨s, hs, rfl⟩ := List.mem_map.mp hx
    rw [eqv_T] at h
    have := of_decide_eq_true h
    exact this ▸ hs
  · intro h
    exact ⟨T r, List.mem_map.mpr ⟨r, h, rfl⟩, by rw [eqv_T]; exact decide_eq_true rfl⟩
theorem inD_L {p w : Int} (hp : P4 p) {ts : List (List Int)} (h : Good p w ts) {r : List Int} (hr : Nm 1 (12 * 21) (T r)) : inD (T r) (.list (ts.map T)) = some (.bool (decide (r ∈ ts))) := by
  show (if SeqAt.shaped (T r) = true ∧ SeqAt.shaped (.list (ts.map T)) = true then some (PyData.bool ((ts.map T).any fun z => PyData.eqv z (T r))) else none) = _
  rw [if_pos ⟨hr.shaped (by omega), (h.nmL hp).shaped (by omega)⟩, any_T]
theorem inD_T {p w : Int} (hp : P4 p) {ts : List (List Int)} (h : Good p w ts) {r : List Int} (hr : Nm 1 (12 * 21) (T r)) : inD (T r) (TT ts) = some (.bool (decide (r ∈ ts))) := by
  show (if SeqAt.shaped (T r) = true ∧ SeqAt.shaped (TT ts) = true then some (PyData.bool ((ts.map T).any fun z => PyData.eqv z (T r))) else none) = _
  rw [if_pos ⟨hr.shaped (by omega), (h.nmT hp).shaped (by omega)⟩, any_T]
theorem cntD_T {p w : Int} (hp : P4 p) {rs : List (List Int)} (h : Good p w rs) {r : List Int} (hr : Nm 1 (12 * 21) (T r)) : cntD (.list (rs.map T)) [T r] = some (.int (rs.count r : Nat)) := by
  show (if SeqAt.shaped (.list (rs.map T)) = true ∧ SeqAt.shaped (T r) = true then some (PyData.int ((rs.map T).countP fun z => PyData.eqv z (T r))) else none) = _
  rw [if_pos ⟨(h.nmL hp).shaped (by omega), hr.shaped (by omega)⟩, List.countP_map]
  congr 3
  apply List.countP_congr
  intro s _
  show PyData.eqv (T s) (T r) = true ↔ _
  rw [eqv_T]
  simp
def cntsI (rs ts : List (List Int)) : List Int := ts.map fun t => ((rs.count t : Nat) : Int)
def badA : Exn := ⟨"NoAnswer", none⟩
theorem counts_in_eq {p w : Int} (hp : P4 p) {rs ts : List (List Int)} (h : Good p w rs) (h' : Good p w ts) (hn : ts.Nodup) : s_counts_in [.int p, TT rs, TT ts] = if (∀ r ∈ rs, r ∈ ts) then .ok (T (cntsI rs ts)) else .err badA := by
  have e0 : envA 6 [.int p, TT rs, TT ts] = [.val (.int p), .val (TT rs), .val (TT ts), .no, .no, .no] := rfl
  have c1 := check_table_ok hp h h' hn
  have hsr : seqD (TT rs) = some (rs.map T) := rfl
  have hst : seqD (TT ts) = some (ts.map T) := rfl
  have zr : (rs.map T).length ≤ sizeLine := by rw [List.length_map, szl]; have := h.small.1; omega
  have zt : (ts.map T).length ≤ sizeLine := by rw [List.length_map, szl]; have := h'.small.1; omega
  let E0 : Sls := [.val (.int p), .val (TT rs), .val (TT ts), .no, .no, .no]
  let E1 : Sls := [.val (.int p), .val (TT rs), .val (TT ts), .val (.list (ts.map T)), .no, .no]
  have k1 : compN [4] (itSeq (var 2)) (tgN 4) yesT (argsN (arg1 tupD) (aCons (var 4) aNil)) E0 = .ok ((ts.map T).map id) E0 :=
    compN_map (by simp [E0, var, Out.bind, hst]) (by simp [E0]) rfl zt fun d hd => by
      obtain ⟨r, hr, rfl⟩ := List.mem_map.mp hd
      simp [E0, var, Out.bind, tupD_T]
  rw [List.map_id] at k1
  have k2 : compN [4] (itSeq (var 1)) (tgN 4) yesT (bin2 inD (argsN (arg1 tupD) (aCons (var 4) aNil)) (var 3)) E1 = .ok ((rs.map T).map fun d => .bool (decide (unT d ∈ ts))) E1 :=
    compN_map (by simp [E1, var, Out.bind, hsr]) (by simp [E1]) rfl zr fun d hd => by
      have hd' := h.nm hp d hd
      obtain ⟨r, hr, rfl⟩ := List.mem_map.mp hd
      simp [E1, var, Out.bind, tupD_T, inD_L hp h' hd', unT_T]
  have k3 : ∀ d : PyData, compN [4] (itSeq (var 1)) (tgN 4) yesT (argsN (arg1 tupD) (aCons (var 4) aNil)) (E1.set 5 (.val d)) = .ok ((rs.map T).map id) (E1.set 5 (.val d)) := fun d =>
    compN_map (by simp [E1, var, Out.bind, hsr]) (by simp [E1]) rfl zr fun d' hd => by
      obtain ⟨r, hr, rfl⟩ := List.mem_map.mp hd
      simp [E1, var, Out.bind, tupD_T]
  have k4 : compN [5] (itSeq (var 3)) (tgN 5) yesT (meth "list" cntD (asVal (compN [4] (itSeq (var 1)) (tgN 4) yesT (argsN (arg1 tupD) (aCons (var 4) aNil)))) (aCons (var 5) aNil)) E1 = .ok ((ts.map T).map fun d => .int (rs.count (unT d) : Nat)) E1 :=
    compN_map (by simp [E1, var, Out.bind]) (by simp [E1]) rfl zt fun d hd => by
      have hd' := h'.nm hp d hd
      have q3 := k3 d
      rw [List.map_id] at q3
      obtain ⟨r, hr, rfl⟩ := List.mem_map.mp hd
      have q4 := cntD_T hp h hd'
      generalize rs.map T = L at q3 q4
      simp [E1] at q3
      simp [E1, var, Out.bind, q3, tyD, q4, unT_T]
  have hA : allD (.list ((rs.map T).map fun d => .bool (decide (unT d ∈ ts)))) = some (.bool (decide (∀ r ∈ rs, r ∈ ts))) := by
    have e : ((rs.map T).map fun d => PyData.bool (decide (unT d ∈ ts))) = (rs.map fun r => decide (r ∈ ts)).map .bool := by
      rw [List.map_map, List.map_map]
      apply List.map_congr_left
      intro r _
      show PyData.bool (decide (unT (T r) ∈ ts)) = PyData.bool (decide (r ∈ ts))
      rw [unT_T]
    show (truIs _).map _ = _
    rw [e, truIs_bool, Option.map_some, List.all_map]
    congr 2
    rw [Bool.eq_iff_iff, List.all_eq_true, decide_eq_true_iff]
    exact ⟨fun q r hr => of_decide_eq_true (q r hr), fun q r hr => decide_eq_true (q r hr)⟩
  have hT : ((ts.map T).map fun d => PyData.int (rs.count (unT d) : Nat)) = (cntsI rs ts).map .int := by
    unfold cntsI
    rw [List.map_map, List.map_map]
    apply List.map_congr_left
    intro t _
    show PyData.int (rs.count (unT (T t)) : Nat) = _
    rw [unT_T]
    rfl
  rw [hT] at k4
  generalize ((rs.map T).map fun d => PyData.bool (decide (unT d ∈ ts))) = L2 at k2 hA
  have s1 : dropS (callP (s_check_table) (aCons (var 0) (aCons (var 1) (aCons (var 2) aNil)))) E0 = .nx E0 := by simp [E0, var, Out.bind, c1]
  have s2 : setS 3 (asVal (compN [4] (itSeq (var 2)) (tgN 4) yesT (argsN (arg1 tupD) (aCons (var 4) aNil)))) E0 = .nx E1 := by
    rw [setS_ap, asVal_ap, k1]
    rfl
  unfold s_counts_in runP
  rw [e0]
  by_cases q : ∀ r ∈ rs, r ∈ ts
  · rw [if_pos q]
    rw [decide_eq_true q] at hA
    have s3 : ifS (notT (asT (argsN (arg1 allD) (aCons (asVal (compN [4] (itSeq (var 1)) (tgN 4) yesT (bin2 inD (argsN (arg1 tupD) (aCons (var 4) aNil)) (var 3)))) aNil)))) (raiseS "NoAnswer") nxS E1 = .nx E1 := by
      simp [k2, hA]
    have s4 : retS (argsN (arg1 tupD) (aCons (asVal (compN [5] (itSeq (var 3)) (tgN 5) yesT (meth "list" cntD (asVal (compN [4] (itSeq (var 1)) (tgN 4) yesT (argsN (arg1 tupD) (aCons (var 4) aNil)))) (aCons (var 5) aNil)))) aNil)) E1 = .rt (T (cntsI rs ts)) E1 := by
      rw [retS_ap, argsN_ap, aCons_ap, asVal_ap, k4]
      rfl
    rw [show d_counts_in [.val (.int p), .val (TT rs), .val (TT ts), .no, .no, .no] = .rt (T (cntsI rs ts)) E1 from seqS_of s1 (seqS_of s2 (seqS_of s3 s4))]
  · rw [if_neg q]
    rw [decide_eq_false q] at hA
    have s3 : ifS (notT (asT (argsN (arg1 allD) (aCons (asVal (compN [4] (itSeq (var 1)) (tgN 4) yesT (bin2 inD (argsN (arg1 tupD) (aCons (var 4) aNil)) (var 3)))) aNil)))) (raiseS "NoAnswer") nxS E1 = .err badA E1 := by
      simp [k2, hA, badA]
    rw [show d_counts_in [.val (.int p), .val (TT rs), .val (TT ts), .no, .no, .no] = .err badA E1 from seqS_of s1 (seqS_of s2 (by rw [seqS_ap, s3]))]
end PP.B52
set_option maxRecDepth 100000
namespace PP.B52
open PySem PySem.Spec PyProof.Rows L2 PP PP.SZ
def repP : PyData → List PyData
  | .tuple [t, .int c] => List.replicate c.toNat t
  | _ => []
theorem zip_lst : ∀ (ts : List (List Int)) (cs : List Int), ((pairsD (ts.map T) (cs.map .int)).map repP).flatten = (lst ts cs).map T
  | [], _ => rfl
  | _ :: _, [] => rfl
  | t :: ts, c :: cs => by
    show (List.replicate c.toNat (T t) ++ ((pairsD (ts.map T) (cs.map .int)).map repP).flatten) = ((List.replicate c.toNat t ++ lst ts cs).map T)
    rw [zip_lst ts cs, List.map_append, List.map_replicate]
theorem pairs_mem : ∀ {ts : List (List Int)} {cs : List Int} {d : PyData}, d ∈ pairsD (ts.map T) (cs.map .int) → ∃ t c, d = .tuple [T t, .int c] ∧ t ∈ ts ∧ c ∈ cs
  | [], _, d, h => by simp [pairsD] at h
  | _ :: _, [], d, h => by simp [pairsD] at h
  | t :: ts, c :: cs, d, h => by
    have h' : d ∈ PyData.tuple [T t, .int c] :: pairsD (ts.map T) (cs.map .int) := h
    rcases List.mem_cons.mp h' with rfl | h'
    · exact ⟨t, c, rfl, List.mem_cons_self, List.mem_cons_self⟩
    · obtain ⟨t', c', q1, q2, q3⟩ := pairs_mem h'
      exact ⟨t', c', q1, List.mem_cons_of_mem _ q2, List.mem_cons_of_mem _ q3⟩
theorem sumD_T (cs : List Int) : sumD (T cs) = some (.int cs.sum) := by
  show (Option.map _ (intsD (cs.map .int))) = _
  rw [intsD_map]
  rfl
theorem same_ints (n : Nat) (t : PyData) : (intsFrom 0 n).map (fun _ => t) = List.replicate n t := by
  rw [List.map_const', intsFrom_len]
def shownI (p : Int) (rs ts : List (List Int)) (cs : List Int) (c : Nat × Nat) : Bool := decide (cs.sum = rs.length) && same p rs (lst ts cs) c
theorem shown_told_eq {p w : Int} (hp : P4 p) {rs ts : List (List Int)} (h : Good p w rs) (h' : Good p w ts) {cs : List Int} (hr : ∀ c ∈ cs, 0 ≤ c ∧ c ≤ 12) (c : Nat × Nat) : s_shown_told [.int p, TT rs, TT ts, T cs, cD c] = .ok (.bool (shownI p rs ts cs c)) := by
  have e0 : envA 9 [.int p, TT rs, TT ts, T cs, cD c] = [.val (.int p), .val (TT rs), .val (TT ts), .val (T cs), .val (cD c), .no, .no, .no, .no] := rfl
  have c3 := s_hall_told_eq (p := p) (a := (c.1 : Nat)) (b := (c.2 : Nat)) hp.lt.1 hp.lt.2.1 rs (R := TT rs) rfl
  have c4 := s_hall_told_eq (p := p) (a := (c.1 : Nat)) (b := (c.2 : Nat)) hp.lt.1 hp.lt.2.1 (lst ts cs) (R := .list ((lst ts cs).map T)) rfl
  have hsz : ((lst ts cs).map T).length ≤ sizeLine := by
    rw [List.length_map, szl]
    have := lst_le (ts := ts) (cs := cs) fun c h => (hr c h).2
    have := h'.2.1
    omega
  have k1 : compN2 [6, 7, 8] [8] (itFrz zipD (aCons (var 2) (aCons (var 3) aNil))) (tgT 2 (tgsCons (tgN 6) (tgsCons (tgN 7) tgsNil))) yesT (itArgs rng1D (aCons (var 7) aNil)) (tgN 8) yesT (var 6) [.val (.int p), .val (TT rs), .val (TT ts), .val (T cs), .val (cD c), .no, .no, .no, .no] = .ok ((lst ts cs).map T) [.val (.int p), .val (TT rs), .val (TT ts), .val (T cs), .val (cD c), .no, .no, .no, .no] := by
    have := compN2_g (vs := [6, 7, 8]) (vs1 := [8]) (it := itFrz zipD (aCons (var 2) (aCons (var 3) aNil))) (t := tgT 2 (tgsCons (tgN 6) (tgsCons (tgN 7) tgsNil))) (it1 := itArgs rng1D (aCons (var 7) aNil)) (t1 := tgN 8) (el := var 6)
      (e := [.val (.int p), .val (TT rs), .val (TT ts), .val (T cs), .val (cD c), .no, .no, .no, .no]) (e1 := [.val (.int p), .val (TT rs), .val (TT ts), .val (T cs), .val (cD c), .no, .no, .no, .no]) (base := [.val (.int p), .val (TT rs), .val (TT ts), .val (T cs), .val (cD c), .no, .no, .no, .no])
      (f := repP) (ds := pairsD (ts.map T) (cs.map .int)) rfl rfl rfl (by rw [zip_lst]; exact hsz) rfl fun d hd => by
        obtain ⟨t, n, rfl, _, hn⟩ := pairs_mem hd
        have hn := hr n hn
        refine ⟨[.val (.int p), .val (TT rs), .val (TT ts), .val (T cs), .val (cD c), .no, .val (T t), .val (.int n), .no], intsFrom 0 n.toNat, [.val (.int p), .val (TT rs), .val (TT ts), .val (T cs), .val (cD c), .no, .val (T t), .val (.int n), .no], rfl, itArgs_of (xs := [.val (.int n)]) rfl (rng1_int hn.1 (by omega)), rfl, ?_, rfl, rfl⟩
        have q := lcIn_g (vs := [8]) (t := tgN 8) (el := var 6) (base := [.val (.int p), .val (TT rs), .val (TT ts), .val (T cs), .val (cD c), .no, .val (T t), .val (.int n), .no]) (g := fun _ => T t) (ds := intsFrom 0 n.toNat) fun d _ => ⟨_, rfl, rfl, rfl, rfl⟩
        rw [same_ints] at q
        exact q
    rw [zip_lst] at this
    exact this
  have i0 : ixD (cD c) (.int 0) = some (.int (c.1 : Nat)) := rfl
  have i1 : ixD (cD c) (.int 1) = some (.int (c.2 : Nat)) := rfl
  unfold s_shown_told runP
  rw [e0]
  by_cases q : cs.sum = rs.length
  · have s1 : ifS (asB (bin2 neD (argsN (arg1 sumD) (aCons (var 3) aNil)) (argsN (arg1 lenD) (aCons (var 1) aNil)))) (retS (cst (.bool false))) nxS [.val (.int p), .val (TT rs), .val (TT ts), .val (T cs), .val (cD c), .no, .no, .no, .no] = .nx [.val (.int p), .val (TT rs), .val (TT ts), .val (T cs), .val (cD c), .no, .no, .no, .no] := by
      simp [asB, var, Out.bind, sumD_T, lenTT, q]
    generalize (lst ts cs).map T = L at k1 c4
    have s2 : setS 5 (asVal (compN2 [6, 7, 8] [8] (itFrz zipD (aCons (var 2) (aCons (var 3) aNil))) (tgT 2 (tgsCons (tgN 6) (tgsCons (tgN 7) tgsNil))) yesT (itArgs rng1D (aCons (var 7) aNil)) (tgN 8) yesT (var 6))) [.val (.int p), .val (TT rs), .val (TT ts), .val (T cs), .val (cD c), .no, .no, .no, .no] = .nx [.val (.int p), .val (TT rs), .val (TT ts), .val (T cs), .val (cD c), .val (.list L), .no, .no, .no] := by
      rw [setS_ap, asVal_ap, k1]
      rfl
    have s3 : retS (bin2 eqD (callP (s_hall_told) (aCons (var 0) (aCons (var 1) (aCons (bin2 ixD (var 4) (cst (.int 0))) (aCons (bin2 ixD (var 4) (cst (.int 1))) aNil))))) (callP (s_hall_told) (aCons (var 0) (aCons (var 5) (aCons (bin2 ixD (var 4) (cst (.int 0))) (aCons (bin2 ixD (var 4) (cst (.int 1))) aNil)))))) [.val (.int p), .val (TT rs), .val (TT ts), .val (T cs), .val (cD c), .val (.list L), .no, .no, .no] = .rt (.bool (shownI p rs ts cs c)) [.val (.int p), .val (TT rs), .val (TT ts), .val (T cs), .val (cD c), .val (.list L), .no, .no, .no] := by
      simp [var, Out.bind, i0, i1, c3, c4, shownI, same, q]
    rw [show d_shown_told [.val (.int p), .val (TT rs), .val (TT ts), .val (T cs), .val (cD c), .no, .no, .no, .no] = _ from seqS_of s1 (seqS_of s2 s3)]
  · have s1 : d_shown_told [.val (.int p), .val (TT rs), .val (TT ts), .val (T cs), .val (cD c), .no, .no, .no, .no] = .rt (.bool (shownI p rs ts cs c)) [.val (.int p), .val (TT rs), .val (TT ts), .val (T cs), .val (cD c), .no, .no, .no, .no] := by
      unfold d_shown_told
      simp [asB, var, Out.bind, sumD_T, lenTT, q, shownI]
    rw [s1]
theorem cD_in {p : Int} {a b : Int} (ha : 0 ≤ a ∧ a < p) (hb : 0 ≤ b ∧ b < p) : PyData.tuple [.int a, .int b] = cD (a.toNat, b.toNat) := by
  unfold cD
  rw [show ((a.toNat : Nat) : Int) = a by omega, show ((b.toNat : Nat) : Int) = b by omega]
theorem shown_by_ok {p w a b : Int} (hp : P4 p) {rs ts : List (List Int)} (h : Good p w rs) (h' : Good p w ts) (hn : ts.Nodup) {cs : List Int} (hc : cs.length = ts.length) (hr : ∀ c ∈ cs, 0 ≤ c ∧ c ≤ 12) (ha : 0 ≤ a ∧ a < p) (hb : 0 ≤ b ∧ b < p) : s_shown_by [.int p, TT rs, TT ts, T cs, .int a, .int b] = .ok (.bool (shownI p rs ts cs (a.toNat, b.toNat))) := by
  have e0 : envA 6 [.int p, TT rs, TT ts, T cs, .int a, .int b] = [.val (.int p), .val (TT rs), .val (TT ts), .val (T cs), .val (.int a), .val (.int b)] := rfl
  have c1 := check_counts_ok hp h h' hn hc hr
  have c2 : s_check_coins [.int p, .tuple [.int a, .int b]] = .ok .none := by
    rw [show PyData.tuple [.int a, .int b] = T [a, b] from rfl]
    exact check_coins_ok (cs := [a, b]) (by simp) (by simpa using ⟨ha, hb⟩)
  have c3 := shown_told_eq hp h h' hr (a.toNat, b.toNat)
  rw [← cD_in ha hb] at c3
  unfold s_shown_by runP d_shown_by
  rw [e0]
  simp [asB, var, Out.bind, c1, c2, c3, szl]
theorem passing_counts_ok {p w : Int} (hp : P4 p) {rs ts : List (List Int)} (h : Good p w rs) (h' : Good p w ts) (hn : ts.Nodup) {cs : List Int} (hc : cs.length = ts.length) (hr : ∀ c ∈ cs, 0 ≤ c ∧ c ≤ 12) : s_passing_counts [.int p, TT rs, TT ts, T cs] = .ok (.tuple (((coins p.toNat).filter (shownI p rs ts cs)).map cD)) := by
  have e0 : envA 5 [.int p, TT rs, TT ts, T cs] = [.val (.int p), .val (TT rs), .val (TT ts), .val (T cs), .no] := rfl
  have c1 := check_counts_ok hp h h' hn hc hr
  have hsz : ((coins p.toNat).map cD).length ≤ sizeLine := by rw [List.length_map, coins_len hp, szl]; rcases hp with rfl | rfl | rfl | rfl <;> decide
  have k1 : compN [4] (itSeq (callP (s_pairs_of) (aCons (var 0) aNil))) (tgN 4) (asT (callP (s_shown_told) (aCons (var 0) (aCons (var 1) (aCons (var 2) (aCons (var 3) (aCons (var 4) aNil))))))) (var 4) [.val (.int p), .val (TT rs), .val (TT ts), .val (T cs), .no] = .ok (((coins p.toNat).filter (shownI p rs ts cs)).map cD) [.val (.int p), .val (TT rs), .val (TT ts), .val (T cs), .no] := by
    have := compN_1 (i := 4) (it := itSeq (callP (s_pairs_of) (aCons (var 0) aNil))) (ts := asT (callP (s_shown_told) (aCons (var 0) (aCons (var 1) (aCons (var 2) (aCons (var 3) (aCons (var 4) aNil))))))) (el := var 4) (e := [.val (.int p), .val (TT rs), .val (TT ts), .val (T cs), .no]) (e1 := [.val (.int p), .val (TT rs), .val (TT ts), .val (T cs), .no]) (ds := (coins p.toNat).map cD) (p := fun d => shownI p rs ts cs (unC d)) (g := id) (by simp [var, Out.bind, pairs_eq hp]) (by simp) rfl hsz fun d hd => by
      obtain ⟨c, _, rfl⟩ := List.mem_map.mp hd
      have c3 := shown_told_eq hp h h' hr c
      generalize hX : cD c = X at c3
      refine ⟨?_, fun _ => ?_⟩
      · rw [← hX, unC_cD, hX]
        simp [var, Out.bind, c3]
      · simp [var]
    rw [this, filter_cD (shownI p rs ts cs), List.map_id]
  unfold s_passing_counts runP d_passing_counts
  rw [e0, seqS_of (e1 := [.val (.int p), .val (TT rs), .val (TT ts), .val (T cs), .no]) (by simp [var, Out.bind, c1]) rfl]
  simp [k1]
end PP.B52
set_option maxRecDepth 100000
namespace PP.B52
open PySem PySem.Spec PyProof.Rows L2 PP PP.SZ
section
variable {A1 A2 A3 A4 A5 B0 B1 d : PyData}
theorem envQ (w : Int) : envA 7 [.int w, A1, A2, A3, A4, A5] = [.val (.int w), .val A1, .val A2, .val A3, .val A4, .val A5, .no] := rfl
def num : PyData := .str "!number"
def non : PyData := .str "!none"
theorem ask0 (h : s_fingerprint [A1, A2, A4] = .ok d) : s__law_asked [.int 0, A1, A2, A3, A4, A5] = .ok d := by
  unfold s__law_asked runP d__law_asked
  rw [envQ]
  simp [tryK, asB, var, Out.bind, h]
theorem ask0_bad (h : s_fingerprint [A1, A2, A4] = .err badN) : s__law_asked [.int 0, A1, A2, A3, A4, A5] = .ok num := by
  unfold s__law_asked runP d__law_asked
  rw [envQ]
  simp [tryK, asB, var, Out.bind, h, badN, kindOf, num]
theorem ask1 (h : s_hall [A1, A2, A4, A5] = .ok d) : s__law_asked [.int 1, A1, A2, A3, A4, A5] = .ok d := by
  unfold s__law_asked runP d__law_asked
  rw [envQ]
  simp [tryK, asB, var, Out.bind, h]
theorem ask1_bad (h : s_hall [A1, A2, A4, A5] = .err badN) : s__law_asked [.int 1, A1, A2, A3, A4, A5] = .ok num := by
  unfold s__law_asked runP d__law_asked
  rw [envQ]
  simp [tryK, asB, var, Out.bind, h, badN, kindOf, num]
theorem ask2 (h : s_same_hall [A1, A2, A3, A4, A5] = .ok d) : s__law_asked [.int 2, A1, A2, A3, A4, A5] = .ok d := by
  unfold s__law_asked runP d__law_asked
  rw [envQ]
  simp [tryK, asB, var, Out.bind, h]
theorem ask2_bad (h : s_same_hall [A1, A2, A3, A4, A5] = .err badN) : s__law_asked [.int 2, A1, A2, A3, A4, A5] = .ok num := by
  unfold s__law_asked runP d__law_asked
  rw [envQ]
  simp [tryK, asB, var, Out.bind, h, badN, kindOf, num]
theorem ask3 (h : s_passing [A1, A2, A3] = .ok d) : s__law_asked [.int 3, A1, A2, A3, A4, A5] = .ok d := by
  unfold s__law_asked runP d__law_asked
  rw [envQ]
  simp [tryK, asB, var, Out.bind, h]
theorem ask3_bad (h : s_passing [A1, A2, A3] = .err badN) : s__law_asked [.int 3, A1, A2, A3, A4, A5] = .ok num := by
  unfold s__law_asked runP d__law_asked
  rw [envQ]
  simp [tryK, asB, var, Out.bind, h, badN, kindOf, num]
theorem ask4 (h : s_counts_in [A1, A2, A3] = .ok d) : s__law_asked [.int 4, A1, A2, A3, A4, A5] = .ok d := by
  unfold s__law_asked runP d__law_asked
  rw [envQ]
  simp [tryK, asB, var, Out.bind, h]
theorem ask4_bad (h : s_counts_in [A1, A2, A3] = .err badN) : s__law_asked [.int 4, A1, A2, A3, A4, A5] = .ok num := by
  unfold s__law_asked runP d__law_asked
  rw [envQ]
  simp [tryK, asB, var, Out.bind, h, badN, kindOf, num]
theorem ask4_non (h : s_counts_in [A1, A2, A3] = .err badA) : s__law_asked [.int 4, A1, A2, A3, A4, A5] = .ok non := by
  unfold s__law_asked runP d__law_asked
  rw [envQ]
  simp [tryK, asB, var, Out.bind, h, badA, kindOf, non]
theorem ask5 (h : s_most_passing [A1, A2, A3] = .ok d) : s__law_asked [.int 5, A1, A2, A3, A4, A5] = .ok d := by
  unfold s__law_asked runP d__law_asked
  rw [envQ]
  simp [tryK, asB, var, Out.bind, h]
theorem ask5_bad (h : s_most_passing [A1, A2, A3] = .err badN) : s__law_asked [.int 5, A1, A2, A3, A4, A5] = .ok num := by
  unfold s__law_asked runP d__law_asked
  rw [envQ]
  simp [tryK, asB, var, Out.bind, h, badN, kindOf, num]
theorem ask6 (h : s_shown_by [A1, A2, A3, A4, B0, B1] = .ok d) : s__law_asked [.int 6, A1, A2, A3, A4, .tuple [B0, B1]] = .ok d := by
  have i0 : ixD (.tuple [B0, B1]) (.int 0) = some B0 := rfl
  have i1 : ixD (.tuple [B0, B1]) (.int 1) = some B1 := rfl
  unfold s__law_asked runP d__law_asked
  rw [envQ]
  simp [tryK, asB, var, Out.bind, h, i0, i1]
theorem ask6_bad (h : s_shown_by [A1, A2, A3, A4, B0, B1] = .err badN) : s__law_asked [.int 6, A1, A2, A3, A4, .tuple [B0, B1]] = .ok num := by
  have i0 : ixD (.tuple [B0, B1]) (.int 0) = some B0 := rfl
  have i1 : ixD (.tuple [B0, B1]) (.int 1) = some B1 := rfl
  unfold s__law_asked runP d__law_asked
  rw [envQ]
  simp [tryK, asB, var, Out.bind, h, i0, i1, badN, kindOf, num]
theorem ask7 (h : s_passing_counts [A1, A2, A3, A4] = .ok d) : s__law_asked [.int 7, A1, A2, A3, A4, A5] = .ok d := by
  unfold s__law_asked runP d__law_asked
  rw [envQ]
  simp [tryK, asB, var, Out.bind, h]
theorem ask7_bad (h : s_passing_counts [A1, A2, A3, A4] = .err badN) : s__law_asked [.int 7, A1, A2, A3, A4, A5] = .ok num := by
  unfold s__law_asked runP d__law_asked
  rw [envQ]
  simp [tryK, asB, var, Out.bind, h, badN, kindOf, num]
end
end PP.B52
set_option maxRecDepth 100000
namespace PP.B52
open PySem PySem.Spec PyProof.Rows L2 PP PP.SZ
theorem next52 {N : Nat} {xs : List PyData} (h : DOk N xs) : ∃ (n : Int) (xs' : List PyData), s__law_next xs [] = .ok (.int n, xs') ∧ (0 ≤ n ∧ n < 1000) ∧ DOk N xs' := next_ok h
theorem paired_ints {p : Int} : ∀ {ds ys : List PyData}, Paired (fun _ y => ∃ n : Int, y = .int n ∧ 0 ≤ n ∧ n < p) ds ys → ∃ ns : List Int, ys = ns.map .int ∧ ns.length = ds.length ∧ ∀ n ∈ ns, 0 ≤ n ∧ n < p
  | _, _, .nil => ⟨[], rfl, rfl, by simp⟩
  | _, _, .cons ⟨n, hn, h0⟩ t => by
    obtain ⟨ns, h1, h2, h3⟩ := paired_ints t
    refine ⟨n :: ns, by rw [hn, h1]; rfl, by rw [List.length_cons, List.length_cons, h2], fun m hm => ?_⟩
    rcases List.mem_cons.mp hm with rfl | hm
    · exact h0
    · exact h3 m hm
theorem some_ok {N : Nat} {xs : List PyData} (h : DOk N xs) {p : Int} (hp : 0 < p) {n : Nat} (hn : n ≤ 1000) : ∃ (ns : List Int) (xs' : List PyData), s__law_some xs [.int p, .int n] = .ok (T ns, xs') ∧ ns.length = n ∧ (∀ x ∈ ns, 0 ≤ x ∧ x < p) ∧ DOk N xs' := by
  have e0 : envO 4 xs [.int p, .int n] = [.own xs, .val (.int p), .val (.int n), .no] := rfl
  have k : Kn [some (.own xs), some (.val (.int p)), some (.val (.int n)), some .no] [.own xs, .val (.int p), .val (.int n), .no] := Kn.all _
  obtain ⟨ys, xs', h1, h2, h3⟩ := k.cex (i := 3) (j := 0) (Inv := DOk N) (G := fun _ y => ∃ n : Int, y = .int n ∧ 0 ≤ n ∧ n < p) (it := itArgs rng1D (aCons (var 2) aNil)) (el := bin2 modD (argsN (arg1 intoD) (aCons (callO 0 (s__law_next) aNil) aNil)) (var 1)) (ds := intsFrom 0 n) rfl rfl (by decide) h
    (it_rngN rfl (by omega)) (by rw [intsFrom_len, szl]; omega) fun d hd xs1 e' hx1 k1 => by
      obtain ⟨m, xs2, a1, a2, a3⟩ := next52 hx1
      have v1 := (k1.set (i := 0) (.own xs2)).v (i := 1) (d := .int p) rfl
      have c1 := callO_of (fs := aNil) (k1.at (i := 0) rfl) rfl rfl a1
      refine ⟨.int (m % p), xs2, ?_, ⟨_, rfl, Int.emod_nonneg _ (by omega), Int.emod_lt_of_pos _ hp⟩, a3⟩
      generalize e'.set 0 (.own xs2) = e2 at v1 c1
      simp [c1, v1, modD_int hp]
  obtain ⟨ns, rfl, n2, n3⟩ := paired_ints h2
  rw [intsFrom_len] at n2
  refine ⟨ns, xs', ?_, n2, n3, h3⟩
  have b1 : d__law_some [.own xs, .val (.int p), .val (.int n), .no] = .rt (T ns) ([Sl.own xs, .val (.int p), .val (.int n), .no].set 0 (.own xs')) := by
    unfold d__law_some
    rw [retS_ap, argsN_ap, aCons_ap, asVal_ap, h1]
    simp only [bind_ok, aNil_ap, List.map_cons, List.map_nil, rd_val, arg1_ap, tupD_list, of_some, toS_ok, frzO_val]
    rfl
  rw [← e0] at b1
  exact runO_of b1 rfl
end PP.B52
set_option maxRecDepth 100000
namespace PP.B52
open PySem PySem.Spec PyProof.Rows L2 PP PP.SZ
theorem erase_map {α β : Type} (f : α → β) : ∀ (l : List α) (i : Nat), (l.map f).eraseIdx i = (l.eraseIdx i).map f
  | [], _ => rfl
  | a :: l, 0 => rfl
  | a :: l, i + 1 => by
    show f a :: (l.map f).eraseIdx i = f a :: (l.eraseIdx i).map f
    rw [erase_map f l i]
theorem popAt_T {rest : List (List Int)} {i : Nat} (h : i < rest.length) (h2 : i < 1000000) : popAtD (rest.map T) [.int i] = some (T rest[i], (rest.eraseIdx i).map T) := by
  have n0 : ¬ ((i : Nat) : Int) < 0 := by omega
  have e1 : seqIndex? (i : Int) (rest.map T).length = some i := by
    unfold seqIndex?
    rw [List.length_map, if_neg n0]
    dsimp only
    rw [if_pos (by rw [Bool.and_eq_true]; exact ⟨decide_eq_true (by omega), decide_eq_true (by omega)⟩), Int.toNat_natCast]
  unfold popAtD
  dsimp only
  rw [if_pos ⟨by omega, by omega⟩, e1, Option.bind_some, List.getElem?_map, List.getElem?_eq_getElem h]
  simp [erase_map]
theorem cons_erase {α : Type} : ∀ (l : List α) (i : Nat) (h : i < l.length), (l[i] :: l.eraseIdx i).Perm l
  | [], _, h => absurd h (by simp)
  | a :: l, 0, _ => .refl _
  | a :: l, i + 1, h => by
    have h' : i < l.length := by rw [List.length_cons] at h; omega
    show (l[i] :: a :: l.eraseIdx i).Perm (a :: l)
    exact (List.Perm.swap a l[i] _).trans ((cons_erase l i h').cons a)
theorem shuf_step {N : Nat} {R : PyData} {xs : List PyData} {rest found : List (List Int)} {t4 : Sl} (h : DOk N xs) (h1 : 0 < rest.length) (h2 : rest.length ≤ 1000) (h3 : found.length ≤ 1000) : ∃ (i : Nat) (hi : i < rest.length) (xs' : List PyData), d__law_shuffled_b0 [.own xs, .val R, .own (rest.map T), .own (found.map T), t4] = .nx [.own xs', .val R, .own ((rest.eraseIdx i).map T), .own ((found ++ [rest[i]]).map T), t4] ∧ DOk N xs' := by
  obtain ⟨m, xs2, a1, a2, a3⟩ := next52 h
  have c1 : callO 0 (s__law_next) aNil [.own xs, .val R, .own (rest.map T), .own (found.map T), t4] = .ok (.val (.int m)) [.own xs2, .val R, .own (rest.map T), .own (found.map T), t4] := callO_of rfl rfl rfl a1
  have m1 : modD (.int m) (.int rest.length) = some (.int (m % rest.length)) := modD_int (by omega)
  have l0 := Int.emod_nonneg m (b := rest.length) (by omega)
  have l1 := Int.emod_lt_of_pos m (b := rest.length) (by omega)
  have hi : (m % rest.length).toNat < rest.length := by omega
  have e1 : m % (rest.length : Int) = (((m % rest.length).toNat : Nat) : Int) := by omega
  have p1 := popAt_T hi (by omega)
  rw [← e1] at p1
  have q1 : ((found ++ [rest[(m % rest.length).toNat]]).map T) = found.map T ++ [T rest[(m % rest.length).toNat]] := by rw [List.map_append]; rfl
  have hlf : (found.map T).length < 16777216 := by rw [List.length_map]; omega
  have hlr : lenD (.list (rest.map T)) = some (.int rest.length) := by rw [lenD_list, List.length_map]
  refine ⟨_, hi, xs2, ?_, a3⟩
  rw [q1]
  generalize T rest[(m % rest.length).toNat] = t at p1
  generalize (rest.eraseIdx (m % rest.length).toNat).map T = RE at p1
  generalize rest.map T = RM at p1 c1 hlr
  generalize found.map T = FM at c1 hlf
  simp [d__law_shuffled_b0, mutF_ap, mutR_ap, isOwn, c1, var, Out.bind, rd, Sl.data, hlr, m1, mutL, p1, appD, szl, hlf]
theorem shuf_loop {N : Nat} {R : PyData} : ∀ (ds : List PyData) {xs : List PyData} {rest found : List (List Int)} {t4 : Sl}, DOk N xs → ds.length = rest.length → rest.length + found.length ≤ 1000 → ∃ xs' ss t4', forD (tgN 4) d__law_shuffled_b0 ds [.own xs, .val R, .own (rest.map T), .own (found.map T), t4] = .nx [.own xs', .val R, .own [], .own ((found ++ ss).map T), t4'] ∧ ss.Perm rest ∧ DOk N xs'
  | [], xs, rest, found, t4, h, hl, _ => by
    have : rest = [] := List.length_eq_zero_iff.mp hl.symm
    subst this
    exact ⟨xs, [], t4, by rw [List.append_nil]; rfl, .nil, h⟩
  | d :: ds, xs, rest, found, t4, h, hl, hb => by
    obtain ⟨i, hi, xs2, h1, h2⟩ := shuf_step (rest := rest) (R := R) (t4 := .val d) (found := found) h (by rw [List.length_cons] at hl; omega) (by omega) (by omega)
    have le := List.length_eraseIdx_of_lt hi
    obtain ⟨xs3, ss, t5, h3, h4, h5⟩ := shuf_loop (R := R) ds (xs := xs2) (rest := rest.eraseIdx i) (found := found ++ [rest[i]]) (t4 := .val d) h2 (by rw [List.length_cons] at hl; omega) (by rw [List.length_append, List.length_singleton]; omega)
    refine ⟨xs3, rest[i] :: ss, t5, ?_, (h4.cons _).trans (cons_erase rest i hi), h5⟩
    rw [forD_cons (e1 := [.own xs, .val R, .own (rest.map T), .own (found.map T), .val d]) rfl h1, h3, List.append_assoc]
    rfl
theorem shuffled_ok {N : Nat} {xs : List PyData} (h : DOk N xs) {rs : List (List Int)} (hl : rs.length ≤ 1000) : ∃ ss xs', s__law_shuffled xs [TT rs] = .ok (TT ss, xs') ∧ ss.Perm rs ∧ DOk N xs' := by
  have e0 : envO 5 xs [TT rs] = [.own xs, .val (TT rs), .no, .no, .no] := rfl
  obtain ⟨xs', ss, t4', h1, h2, h3⟩ := shuf_loop (R := TT rs) (intsFrom 0 rs.length) (xs := xs) (rest := rs) (found := []) (t4 := .no) h (intsFrom_len _ _) (by simpa using hl)
  refine ⟨ss, xs', ?_, h2, h3⟩
  have s1 : parS [2, 3] (avNw (argsNn (arg1 itemsD) (aCons (var 1) aNil)) (avNw (dispL aNil) avNil)) [.own xs, .val (TT rs), .no, .no, .no] = .nx [.own xs, .val (TT rs), .own (rs.map T), .own [], .no] := rfl
  have s2 : forS (itArgs rng1D (aCons (argsN (arg1 lenD) (aCons (var 1) aNil)) aNil)) (tgN 4) d__law_shuffled_b0 [.own xs, .val (TT rs), .own (rs.map T), .own [], .no] = .nx [.own xs', .val (TT rs), .own [], .own (ss.map T), t4'] := by
    refine forS_of (it_rngN (n := rs.length) ?_ (by omega)) h1
    simp [var, Out.bind, lenTT]
  have s3 : retS (argsN (arg1 tupD) (aCons (var 3) aNil)) [.own xs', .val (TT rs), .own [], .own (ss.map T), t4'] = .rt (TT ss) [.own xs', .val (TT rs), .own [], .own (ss.map T), t4'] := rfl
  have b1 : d__law_shuffled [.own xs, .val (TT rs), .no, .no, .no] = .rt (TT ss) [.own xs', .val (TT rs), .own [], .own (ss.map T), t4'] := seqS_of s1 (seqS_of s2 s3)
  rw [← e0] at b1
  exact runO_of b1 rfl
end PP.B52
set_option maxRecDepth 100000
namespace PP.B52
open PySem PySem.Spec PyProof.Rows L2 PP PP.SZ
section
variable {ks : List (Option Sl)} {e : Sls}
theorem s2_ok {ns : List Int} (k : Kn ks e) (h0 : ks[0]? = some (some (.val (.list (ns.map .int))))) (hl : ns.length ≤ 100) : ∃ xs, d_law_s2 e = .nx (e.set 1 (.own xs)) ∧ DOk 6000 xs := by
  obtain ⟨xs, h1, h2⟩ := draws_ok ns hl
  have h1' : s__law_draws [.list (ns.map .int)] = .ok xs := h1
  refine ⟨xs, ?_, h2⟩
  have v0 := k.v h0
  generalize PyData.list (ns.map .int) = S at v0 h1'
  simp [d_law_s2, v0, h1']
theorem s3_ok {xs : List PyData} (k : Kn ks e) (h1 : ks[1]? = some (some (.own xs))) (hx : DOk 6000 xs) : ∃ ys, d_law_s3 e = .nx (e.set 1 (.own ys)) ∧ DOk 7000 ys := by
  obtain ⟨zs, ys, a1, a2, _⟩ := more_ok (N := 6000) (by omega) hx (many := 150) (by omega)
  have a1' : s__law_more xs [.int 150] = .ok (zs, ys) := a1
  have c := callON_of (fs := aCons (cst (.int 150)) aNil) (k.at h1) rfl rfl a1'
  refine ⟨zs, ?_, a2.mono (by omega)⟩
  simp [d_law_s3, c]
theorem s4_ok {xs : List PyData} (k : Kn ks e) (h1 : ks[1]? = some (some (.own xs))) (hx : DOk 7000 xs) : ∃ (p w m : Int) (ys : List PyData), d_law_s4 e = .nx ((((e.set 1 (.own ys)).set 2 (.val (.int p))).set 3 (.val (.int w))).set 4 (.val (.int m))) ∧ P4 p ∧ (1 ≤ w ∧ w ≤ 3) ∧ (1 ≤ m ∧ m ≤ 4) ∧ DOk 7000 ys := by
  obtain ⟨d, x1, a1, a2, a3⟩ := pick_ok hx (ds := [.int 3, .int 5, .int 7, .int 11]) (by simp)
  have a1' : s__law_pick xs [.list [.int 3, .int 5, .int 7, .int 11]] = .ok (d, x1) := a1
  obtain ⟨n2, x2, b1, b2, b3⟩ := next52 a3
  obtain ⟨n3, x3, c1, c2, c3⟩ := next52 b3
  obtain ⟨p, rfl, hp⟩ : ∃ p, d = .int p ∧ P4 p := by
    simp at a2
    rcases a2 with rfl | rfl | rfl | rfl
    · exact ⟨3, rfl, .inl rfl⟩
    · exact ⟨5, rfl, .inr (.inl rfl)⟩
    · exact ⟨7, rfl, .inr (.inr (.inl rfl))⟩
    · exact ⟨11, rfl, .inr (.inr (.inr rfl))⟩
  have hlt := k.lt h1
  have e1 := callO_of (xs := [.val (.list [.int 3, .int 5, .int 7, .int 11])]) (fs := aCons (asVal (dispL (aCons (cst (.int 3)) (aCons (cst (.int 5)) (aCons (cst (.int 7)) (aCons (cst (.int 11)) aNil)))))) aNil) (k.at h1) (by simp [szl]) rfl a1'
  have e2 := callO_of (i := 1) (e := e.set 1 (.own x1)) (fs := aNil) (List.getElem?_set_self hlt) rfl rfl b1
  have e3 := callO_of (i := 1) (e := e.set 1 (.own x2)) (fs := aNil) (List.getElem?_set_self hlt) rfl rfl c1
  rw [List.set_set] at e2 e3
  have m3 : modD (.int n2) (.int 3) = some (.int (n2 % 3)) := modD_int (by omega)
  have m4 : modD (.int n3) (.int 4) = some (.int (n3 % 4)) := modD_int (by omega)
  refine ⟨p, 1 + n2 % 3, 1 + n3 % 4, x3, ?_, hp, by omega, by omega, c3⟩
  simp [d_law_s4, asgS, e1, e2, e3, m3, m4, szl, tgT, tgsCons, tgsNil]
end
end PP.B52
set_option maxRecDepth 100000
namespace PP.B52
open PySem PySem.Spec PyProof.Rows L2 PP PP.SZ
theorem some_okI {N : Nat} {xs : List PyData} (h : DOk N xs) {p w : Int} (hp : 0 < p) (h0 : 0 ≤ w) (hw : w ≤ 1000) : ∃ (ns : List Int) (xs' : List PyData), s__law_some xs [.int p, .int w] = .ok (T ns, xs') ∧ (ns.length : Int) = w ∧ (∀ x ∈ ns, 0 ≤ x ∧ x < p) ∧ DOk N xs' := by
  obtain ⟨ns, xs', h1, h2, h3⟩ := some_ok h hp (n := w.toNat) (by omega)
  rw [Int.toNat_of_nonneg h0] at h1
  exact ⟨ns, xs', h1, by omega, h3⟩
def RowOk (p w : Int) (r : List Int) : Prop := (r.length : Int) = w ∧ ∀ x ∈ r, 0 ≤ x ∧ x < p
theorem paired_rows {p w : Int} : ∀ {ds ys : List PyData}, Paired (fun _ y => ∃ r : List Int, y = T r ∧ RowOk p w r) ds ys → ∃ rs : List (List Int), ys = rs.map T ∧ rs.length = ds.length ∧ ∀ r ∈ rs, RowOk p w r
  | _, _, .nil => ⟨[], rfl, rfl, by simp⟩
  | _, _, .cons ⟨n, hn, h0⟩ t => by
    obtain ⟨ns, h1, h2, h3⟩ := paired_rows t
    refine ⟨n :: ns, by rw [hn, h1]; rfl, by rw [List.length_cons, List.length_cons, h2], fun m hm => ?_⟩
    rcases List.mem_cons.mp hm with rfl | hm
    · exact h0
    · exact h3 m hm
section
variable {ks : List (Option Sl)} {e : Sls} {xs : List PyData} {p w m : Int}
theorem rows_ok (k : Kn ks e) (h1 : ks[1]? = some (some (.own xs))) (hx : DOk 7000 xs) (h2 : ks[2]? = some (some (.val (.int p)))) (h3 : ks[3]? = some (some (.val (.int w)))) (h4 : ks[4]? = some (some (.val (.int m)))) (h23 : ks[23]? = some (some .no)) (hp : 0 < p) (hw : 0 ≤ w ∧ w ≤ 10) (hm : 0 ≤ m ∧ m ≤ 10) :
    ∃ (rs : List (List Int)) (xs' : List PyData), compN [23] (itArgs rng1D (aCons (var 4) aNil)) (tgN 23) yesT (callO 1 (s__law_some) (aCons (var 2) (aCons (var 3) aNil))) e = .ok (rs.map T) (e.set 1 (.own xs')) ∧ (rs.length : Int) = m ∧ (∀ r ∈ rs, RowOk p w r) ∧ DOk 7000 xs' := by
  obtain ⟨ys, xs', a1, a2, a3⟩ := k.cex (i := 23) (j := 1) (Inv := DOk 7000) (G := fun _ y => ∃ r : List Int, y = T r ∧ RowOk p w r) (it := itArgs rng1D (aCons (var 4) aNil)) (el := callO 1 (s__law_some) (aCons (var 2) (aCons (var 3) aNil))) (ds := intsFrom 0 m.toNat) h23 h1 (by decide) hx
    (it_rngI (args1_of (k.v h4)) hm.1 (by omega)) (by rw [intsFrom_len, szl]; omega) fun d hd xs1 e' hx1 k1 => by
      obtain ⟨ns, xs2, b1, b2, b3, b4⟩ := some_okI hx1 hp hw.1 (by omega)
      have v2 := k1.v (i := 2) (d := .int p) (by rw [List.getElem?_set_ne (by decide), List.getElem?_set_ne (by decide)]; exact h2)
      have v3 := k1.v (i := 3) (d := .int w) (by rw [List.getElem?_set_ne (by decide), List.getElem?_set_ne (by decide)]; exact h3)
      have v1 := k1.at (i := 1) (s := .own xs1) (by rw [List.getElem?_set_ne (by decide)]; exact List.getElem?_set_self (List.getElem?_eq_some_iff.mp h1).1)
      exact ⟨T ns, xs2, callO_of (xs := [.val (.int p), .val (.int w)]) v1 (by simp [v2, v3]) rfl b1, ⟨ns, rfl, b2, b3⟩, b4⟩
  obtain ⟨rs, rfl, q1, q2⟩ := paired_rows a2
  rw [intsFrom_len] at q1
  exact ⟨rs, xs', a1, by omega, q2, a3⟩
theorem s5_ok (k : Kn ks e) (h1 : ks[1]? = some (some (.own xs))) (hx : DOk 7000 xs) (h2 : ks[2]? = some (some (.val (.int p)))) (h3 : ks[3]? = some (some (.val (.int w)))) (h4 : ks[4]? = some (some (.val (.int m)))) (h23 : ks[23]? = some (some .no)) (hp : 0 < p) (hw : 0 ≤ w ∧ w ≤ 10) (hm : 0 ≤ m ∧ m ≤ 10) :
    ∃ (rs : List (List Int)) (xs' : List PyData), d_law_s5 e = .nx ((e.set 1 (.own xs')).set 5 (.val (TT rs))) ∧ (rs.length : Int) = m ∧ (∀ r ∈ rs, RowOk p w r) ∧ DOk 7000 xs' := by
  obtain ⟨rs, xs', a1, a2⟩ := rows_ok k h1 hx h2 h3 h4 h23 hp hw hm
  refine ⟨rs, xs', ?_, a2⟩
  unfold d_law_s5
  rw [setS_ap, argsN_ap, aCons_ap, asVal_ap, a1]
  rfl
theorem s9_ok (k : Kn ks e) (h1 : ks[1]? = some (some (.own xs))) (hx : DOk 7000 xs) (h2 : ks[2]? = some (some (.val (.int p)))) (h3 : ks[3]? = some (some (.val (.int w)))) (h4 : ks[4]? = some (some (.val (.int m)))) (h23 : ks[23]? = some (some .no)) (hp : 0 < p) (hw : 0 ≤ w ∧ w ≤ 10) (hm : 0 ≤ m ∧ m ≤ 10) :
    ∃ (rs : List (List Int)) (xs' : List PyData), d_law_s9 e = .nx ((e.set 1 (.own xs')).set 9 (.val (TT rs))) ∧ (rs.length : Int) = m ∧ (∀ r ∈ rs, RowOk p w r) ∧ DOk 7000 xs' := by
  obtain ⟨rs, xs', a1, a2⟩ := rows_ok k h1 hx h2 h3 h4 h23 hp hw hm
  refine ⟨rs, xs', ?_, a2⟩
  unfold d_law_s9
  rw [setS_ap, argsN_ap, aCons_ap, asVal_ap, a1]
  rfl
theorem s6_ok (k : Kn ks e) (h1 : ks[1]? = some (some (.own xs))) (hx : DOk 7000 xs) (h2 : ks[2]? = some (some (.val (.int p)))) (hp : 0 < p) :
    ∃ (a b : Int) (xs' : List PyData), d_law_s6 e = .nx (((e.set 1 (.own xs')).set 6 (.val (.int a))).set 7 (.val (.int b))) ∧ (0 ≤ a ∧ a < p) ∧ (0 ≤ b ∧ b < p) ∧ DOk 7000 xs' := by
  obtain ⟨ns, xs2, b1, b2, b3, b4⟩ := some_okI (w := 2) hx hp (by omega) (by omega)
  match ns, b2 with
  | [a, b], _ =>
    have c := callO_of (fs := aCons (var 2) (aCons (cst (.int 2)) aNil)) (xs := [.val (.int p), .val (.int 2)]) (k.at h1) (by simp [k.v h2]) rfl b1
    refine ⟨a, b, xs2, ?_, b3 a (by simp), b3 b (by simp), b4⟩
    simp [d_law_s6, asgS, c, T, tgT, tgsCons, tgsNil]
theorem lmixP {p : Int} (hp : P4 p) (a : Int) (ns : List Int) : lmixI p a 0 1 ns = mixI p a ns := by
  rcases hp with rfl | rfl | rfl | rfl
  · exact lmixI_eq (p := 3) a ns
  · exact lmixI_eq (p := 5) a ns
  · exact lmixI_eq (p := 7) a ns
  · exact lmixI_eq (p := 11) a ns
theorem Good.head1 {rs : List (List Int)} (h : Good p w rs) : Good p w [rs.headD []] := by
  obtain ⟨h1, h2, h3, h4, h5⟩ := h
  refine ⟨by simp, by simp, h3, h4, fun r hr => ?_⟩
  simp only [List.mem_singleton] at hr
  cases rs with
  | nil => simp at h1
  | cons s rs => exact hr ▸ h5 s List.mem_cons_self
theorem P4.pos {p : Int} (h : P4 p) : 0 < p := by have := h.lt; omega
theorem s7_ok (k : Kn ks e) {rs : List (List Int)} {a b : Int} (h2 : ks[2]? = some (some (.val (.int p)))) (h5 : ks[5]? = some (some (.val (TT rs)))) (h6 : ks[6]? = some (some (.val (.int a)))) (h7 : ks[7]? = some (some (.val (.int b)))) (hp : P4 p) (hr : Good p w rs) (ha : 0 ≤ a ∧ a < p) (hb : 0 ≤ b ∧ b < p) : d_law_s7 e = .nx e := by
  have q0 := ask0 (A3 := .none) (A5 := .none) (fingerprint_ok hp hr.head1 ha)
  have q1 := ask1 (A3 := .none) (hall_ok hp hr ha hb)
  have q2 := s__law_mixed_eq (a := a) hp.lt.1 hp.lt.2.1 (rs.headD [])
  rw [lmixP hp] at q2
  have q3 := s__law_hall_eq (a := a) (b := b) hp.lt.1 hp.lt.2.1 rs (R := TT rs) rfl
  have hx := ixTT0 hr.1
  have m1 := mixI_range hp.pos a (rs.headD [])
  have m2 := hallI_range hp.pos a b rs 1 (by have := hp.lt; omega)
  generalize mixI p a (rs.headD []) = M at q0 q2 m1
  generalize hallI p a b 1 rs = H at q1 q3 m2
  have nm : Nm 1 42 (.list [.int M, .int H]) := Nm.list (N := 2) (D := 0) (W := 20) (by
    intro x hx
    simp at hx
    have := hp.lt
    rcases hx with rfl | rfl
    · exact Nm.int m1.1 (by omega)
    · exact Nm.int m2.1 (by omega)) (by simp)
  have r1 := nm.repr (by omega) (by omega)
  have r2 := nm.same
  generalize PyData.shown (.list [.int M, .int H]) = S at r1 r2
  generalize T (rs.headD []) = R0 at q0 q2 hx
  generalize TT rs = R at q1 q3 hx h5
  simp [d_law_s7, asB, k.v h2, k.v h5, k.v h6, k.v h7, hx, q0, q1, q2, q3, szl, r1, r2]
theorem cut_last (rs : List (List Int)) : slTD (TT rs) none (some (-1)) = some (TT rs.dropLast) := by
  have : cutD (rs.map T) none (some (-1)) = (rs.dropLast).map T := by
    unfold cutD
    show ((rs.map T).drop 0).take ((if (-1 : Int) < 0 then (-1 + ((rs.map T).length : Int)).toNat else min (-1 : Int).toNat (rs.map T).length) - 0) = _
    rw [if_pos (by omega), List.drop_zero, List.length_map, List.dropLast_eq_take, List.map_take]
    congr 1
    omega
  show some (PyData.tuple (cutD (rs.map T) none (some (-1)))) = _
  rw [this]
  rfl
theorem addTT {rs ss : List (List Int)} (h : rs.length + ss.length ≤ 1000) : addD (TT rs) (TT ss) = some (TT (rs ++ ss)) := by
  have := addD_tup (xs := rs.map T) (ys := ss.map T) (by rw [List.length_map, List.length_map, szl]; omega)
  rw [← List.map_append] at this
  exact this
theorem s8_ok (k : Kn ks e) {rs : List (List Int)} (h1 : ks[1]? = some (some (.own xs))) (hx : DOk 7000 xs) (h2 : ks[2]? = some (some (.val (.int p)))) (h3 : ks[3]? = some (some (.val (.int w)))) (h5 : ks[5]? = some (some (.val (TT rs)))) (hp : 0 < p) (hw : 0 ≤ w ∧ w ≤ 10) (hl : 1 ≤ rs.length ∧ rs.length ≤ 100) (hr : ∀ r ∈ rs, RowOk p w r) :
    ∃ (ss : List (List Int)) (xs' : List PyData), d_law_s8 e = .nx ((e.set 1 (.own xs')).set 8 (.val (TT ss))) ∧ ss.length = rs.length ∧ (∀ r ∈ ss, RowOk p w r) ∧ DOk 7000 xs' := by
  obtain ⟨ns, xs2, b1, b2, b3, b4⟩ := some_okI hx hp hw.1 (by omega)
  have c := callO_of (fs := aCons (var 2) (aCons (var 3) aNil)) (xs := [.val (.int p), .val (.int w)]) (k.at h1) (by simp [k.v h2, k.v h3]) rfl b1
  have c1 := cut_last rs
  have c2 : addD (TT rs.dropLast) (.tuple [T ns]) = some (TT (rs.dropLast ++ [ns])) := addTT (ss := [ns]) (by rw [List.length_dropLast, List.length_singleton]; omega)
  refine ⟨rs.dropLast ++ [ns], xs2, ?_, by rw [List.length_append, List.length_dropLast, List.length_singleton]; omega, fun r h => ?_, b4⟩
  · generalize TT (rs.dropLast ++ [ns]) = R3 at c2
    generalize TT rs.dropLast = R2 at c1 c2
    generalize TT rs = R at c1 h5
    generalize T ns = R4 at c c2
    simp [d_law_s8, k.v h5, c1, c, szl, c2]
  · rcases List.mem_append.mp h with h | h
    · exact hr r (List.dropLast_subset _ h)
    · simp only [List.mem_singleton] at h
      exact h ▸ ⟨b2, b3⟩
end
end PP.B52
set_option maxRecDepth 100000
namespace PP.B52
open PySem PySem.Spec PyProof.Rows L2 PP PP.SZ
theorem coins_mem {p : Int} (hp : P4 p) {a b : Nat} : (a, b) ∈ coins p.toNat ↔ a < p.toNat ∧ b < p.toNat := coinsN_mem
theorem due_few {p w : Int} (hp : P4 p) (hw : 1 ≤ w ∧ w ≤ 3) {rs ss : List (List Int)} (hl : rs.length = ss.length) (hr : ∀ r ∈ rs, RowOk p w r) (hs : ∀ r ∈ ss, RowOk p w r) (hne : ¬ rs.Perm ss) : ((due p rs ss).length : Int) ≤ mostI p rs.length w := by
  have hw2 : w.toNat ≤ 3 := by omega
  have hm : (if w - 1 > 1 then w - 1 else 1) = ((max 1 (w.toNat - 1) : Nat) : Int) := by
    by_cases q : w - 1 > 1
    · rw [if_pos q]; omega
    · rw [if_neg q]; omega
  have f : ∀ l : List (List Int), (∀ r ∈ l, RowOk p w r) → ∀ r ∈ l, r.length = w.toNat ∧ ∀ x ∈ r, 0 ≤ x ∧ x < p := fun l h r q => ⟨by have := (h r q).1; omega, (h r q).2⟩
  have hr' := f rs hr
  have hs' := f ss hs
  unfold mostI
  rw [hm]
  have fin : ∀ P L A M : Nat, L ≤ P * (A * M) → ((L : Nat) : Int) ≤ (P : Int) * (A : Int) * (M : Int) := fun P L A M h => by
    have h2 := Int.ofNat_le.mpr h
    rw [Int.natCast_mul, Int.natCast_mul, ← Int.mul_assoc] at h2
    exact h2
  rcases hp with rfl | rfl | rfl | rfl
  · exact fin 3 _ _ _ (pairs_few (p := 3) (by decide) nzd3 hw2 hl hr' hs' hne)
  · exact fin 5 _ _ _ (pairs_few (p := 5) (by decide) nzd5 hw2 hl hr' hs' hne)
  · exact fin 7 _ _ _ (pairs_few (p := 7) (by decide) nzd7 hw2 hl hr' hs' hne)
  · exact fin 11 _ _ _ (pairs_few (p := 11) (by decide) nzd11 hw2 hl hr' hs' hne)
theorem due_all {p : Int} (hp : P4 p) {rs ss : List (List Int)} (h : rs.Perm ss) : due p rs ss = coins p.toNat := by
  rcases hp with rfl | rfl | rfl | rfl
  · exact pairs_all (p := 3) h
  · exact pairs_all (p := 5) h
  · exact pairs_all (p := 7) h
  · exact pairs_all (p := 11) h
theorem coins_lenI {p : Int} (hp : P4 p) : ((coins p.toNat).length : Int) = p * p := by
  rw [coins_len hp, Int.natCast_mul, Int.toNat_of_nonneg (by have := hp.lt; omega)]
theorem coins_le {p : Int} (hp : P4 p) : (coins p.toNat).length ≤ 121 := by
  rw [coins_len hp]
  rcases hp with rfl | rfl | rfl | rfl <;> decide
theorem cD_T (c : Nat × Nat) : cD c = T [(c.1 : Nat), (c.2 : Nat)] := rfl
theorem nm_cD {p : Int} (hp : P4 p) {c : Nat × Nat} (h : c ∈ coins p.toNat) : Nm 1 (12 * 21) (cD c) := by
  have h2 := (coins_mem hp).mp h
  have := hp.lt
  rw [cD_T]
  exact nm_T (p := p) (by omega) (by simp) (by
    intro x hx
    simp at hx
    rcases hx with rfl | rfl <;> omega)
theorem nm_due {p : Int} (hp : P4 p) {l : List (Nat × Nat)} (h : ∀ c ∈ l, c ∈ coins p.toNat) (hl : l.length ≤ 121) : Nm 2 40000 (.tuple (l.map cD)) :=
  (Nm.tup (N := 121) (D := 1) (W := 12 * 21) (fun x hx => by
    obtain ⟨c, hc, rfl⟩ := List.mem_map.mp hx
    exact nm_cD hp (h c hc)) (by rw [List.length_map]; exact hl)).mono (by omega) (by omega)
theorem any_cD (l : List (Nat × Nat)) (c : Nat × Nat) : ((l.map cD).any fun z => PyData.eqv z (cD c)) = decide (c ∈ l) := by
  have inj : ∀ c' : Nat × Nat, PyData.eqv (cD c') (cD c) = decide (c' = c) := fun c' => by
    rw [cD_T, cD_T, eqv_T, Bool.eq_iff_iff, decide_eq_true_iff, decide_eq_true_iff]
    constructor
    · intro q
      injection q with q1 q2
      injection q2 with q2 _
      exact Prod.ext (Int.ofNat.inj q1) (Int.ofNat.inj q2)
    · rintro rfl; rfl
  rw [Bool.eq_iff_iff, List.any_eq_true, decide_eq_true_iff]
  constructor
  · rintro ⟨x, hx, h⟩
    obtain ⟨s, hs, rfl⟩ := List.mem_map.mp hx
    rw [inj] at h
    have := of_decide_eq_true h
    exact this ▸ hs
  · intro h
    exact ⟨cD c, List.mem_map.mpr ⟨c, h, rfl⟩, by rw [inj]; exact decide_eq_true rfl⟩
theorem in_due {p : Int} (hp : P4 p) {l : List (Nat × Nat)} (h : ∀ c ∈ l, c ∈ coins p.toNat) (hl : l.length ≤ 121) {c : Nat × Nat} (hc : c ∈ coins p.toNat) : inD (cD c) (.tuple (l.map cD)) = some (.bool (decide (c ∈ l))) := by
  show (if SeqAt.shaped (cD c) = true ∧ SeqAt.shaped (.tuple (l.map cD)) = true then some (PyData.bool ((l.map cD).any fun z => PyData.eqv z (cD c))) else none) = _
  rw [if_pos ⟨(nm_cD hp hc).shaped (by omega), (nm_due hp h hl).shaped (by omega)⟩, any_cD]
theorem eqv_L (rs ss : List (List Int)) : PyData.eqv (.list (rs.map T)) (.list (ss.map T)) = decide (rs = ss) := by
  show PyData.eqvAll (rs.map T) (ss.map T) = _
  induction rs generalizing ss with
  | nil => cases ss <;> rfl
  | cons x r ih =>
    cases ss with
    | nil => rfl
    | cons y s =>
      show (PyData.eqv (T x) (T y) && PyData.eqvAll (r.map T) (s.map T)) = _
      rw [ih s, eqv_T, Bool.eq_iff_iff]
      simp
theorem eq_L {p w : Int} (hp : P4 p) {rs ss : List (List Int)} (h : Good p w rs) (h' : Good p w ss) : eqD (.list (rs.map T)) (.list (ss.map T)) = some (.bool (decide (rs = ss))) := by
  show (if SeqAt.shaped (.list (rs.map T)) = true ∧ SeqAt.shaped (.list (ss.map T)) = true then some (PyData.bool (PyData.eqv (.list (rs.map T)) (.list (ss.map T)))) else none) = _
  rw [if_pos ⟨(h.nmL hp).shaped (by omega), (h'.nmL hp).shaped (by omega)⟩, eqv_L]
theorem Good.perm {p w : Int} {rs ss : List (List Int)} (h : Good p w rs) (q : ss.Perm rs) : Good p w ss :=
  ⟨by rw [q.length_eq]; exact h.1, by rw [q.length_eq]; exact h.2.1, h.2.2.1, h.2.2.2.1, fun r hr => h.2.2.2.2 r (q.mem_iff.mp hr)⟩
theorem Good.sort {p w : Int} (hp : P4 p) {rs : List (List Int)} (h : Good p w rs) : sortD (TT rs) = some ((srt rs).map T) := by
  obtain ⟨h1, h2, h3, h4, h5⟩ := h
  have := hp.lt
  exact sortD_TT (p := p) (by omega) (by omega) fun r hr => ⟨by have := (h5 r hr).1; omega, by rintro rfl; have := (h5 _ hr).1; simp at this; omega, (h5 r hr).2⟩
theorem due_sub {p : Int} {rs ss : List (List Int)} : ∀ c ∈ due p rs ss, c ∈ coins p.toNat := fun c h => (List.mem_filter.mp h).1
theorem due_le {p : Int} (hp : P4 p) {rs ss : List (List Int)} : (due p rs ss).length ≤ 121 := Nat.le_trans (List.length_filter_le _ _) (coins_le hp)
theorem mem_due {p a b : Int} (hp : P4 p) {rs ss : List (List Int)} (ha : 0 ≤ a ∧ a < p) (hb : 0 ≤ b ∧ b < p) : decide ((a.toNat, b.toNat) ∈ due p rs ss) = decide (hallI p a b 1 rs = hallI p a b 1 ss) := by
  have hc : (a.toNat, b.toNat) ∈ coins p.toNat := (coins_mem hp).mpr (by omega)
  have ea : ((a.toNat : Nat) : Int) = a := by omega
  have eb : ((b.toNat : Nat) : Int) = b := by omega
  rw [Bool.eq_iff_iff, decide_eq_true_iff, decide_eq_true_iff]
  constructor
  · intro h
    have := of_decide_eq_true (List.mem_filter.mp h).2
    dsimp only at this
    rw [ea, eb] at this
    exact this
  · intro h
    refine List.mem_filter.mpr ⟨hc, decide_eq_true ?_⟩
    dsimp only
    rw [ea, eb]
    exact h
end PP.B52
set_option maxRecDepth 100000
namespace PP.B52
open PySem PySem.Spec PyProof.Rows L2 PP PP.SZ
section
variable {ks : List (Option Sl)} {e : Sls} {xs : List PyData} {p w a b : Int} {rs ss : List (List Int)}
theorem ix0 (c : Nat × Nat) : ixD (cD c) (.int 0) = some (.int (c.1 : Nat)) := rfl
theorem ix1 (c : Nat × Nat) : ixD (cD c) (.int 1) = some (.int (c.2 : Nat)) := rfl
theorem b0_1 (k : Kn ks e) (h2 : ks[2]? = some (some (.val (.int p)))) (h5 : ks[5]? = some (some (.val (TT rs)))) (h10 : ks[10]? = some (some (.val (TT ss)))) (h30 : ks[30]? = some (some .no)) (hp : P4 p) :
    setS 11 (argsN (arg1 tupD) (aCons (asVal (compN [30] (itSeq (callP (s__law_coins) (aCons (var 2) aNil))) (tgN 30) (asB (bin2 eqD (callP (s__law_hall) (aCons (var 2) (aCons (var 5) (aCons (bin2 ixD (var 30) (cst (.int 0))) (aCons (bin2 ixD (var 30) (cst (.int 1))) aNil))))) (callP (s__law_hall) (aCons (var 2) (aCons (var 10) (aCons (bin2 ixD (var 30) (cst (.int 0))) (aCons (bin2 ixD (var 30) (cst (.int 1))) aNil))))))) (var 30))) aNil)) e = .nx (e.set 11 (.val (.tuple ((due p rs ss).map cD)))) := by
  have hsz : ((coins p.toNat).map cD).length ≤ sizeLine := by rw [List.length_map, szl]; have := coins_le hp; omega
  have c0 := lcoins_eq hp
  have k1 := k.cfil (i := 30) (p := fun d => same p rs ss (unC d)) (it := itSeq (callP (s__law_coins) (aCons (var 2) aNil))) (ts := asB (bin2 eqD (callP (s__law_hall) (aCons (var 2) (aCons (var 5) (aCons (bin2 ixD (var 30) (cst (.int 0))) (aCons (bin2 ixD (var 30) (cst (.int 1))) aNil))))) (callP (s__law_hall) (aCons (var 2) (aCons (var 10) (aCons (bin2 ixD (var 30) (cst (.int 0))) (aCons (bin2 ixD (var 30) (cst (.int 1))) aNil))))))) (ds := (coins p.toNat).map cD) h30 (by
      generalize (coins p.toNat).map cD = L at c0
      simp [k.v h2, c0]) hsz fun d hd e' k' => by
      obtain ⟨c, _, rfl⟩ := List.mem_map.mp hd
      have v2 := k'.v (i := 2) (d := .int p) (by rw [List.getElem?_set_ne (by decide)]; exact h2)
      have v5 := k'.v (i := 5) (d := TT rs) (by rw [List.getElem?_set_ne (by decide)]; exact h5)
      have v10 := k'.v (i := 10) (d := TT ss) (by rw [List.getElem?_set_ne (by decide)]; exact h10)
      have v30 := k'.v (i := 30) (d := cD c) (List.getElem?_set_self (List.getElem?_eq_some_iff.mp h30).1)
      have c3 := s__law_hall_eq (p := p) (a := (c.1 : Nat)) (b := (c.2 : Nat)) hp.lt.1 hp.lt.2.1 rs (R := TT rs) rfl
      have c4 := s__law_hall_eq (p := p) (a := (c.1 : Nat)) (b := (c.2 : Nat)) hp.lt.1 hp.lt.2.1 ss (R := TT ss) rfl
      have i0 := ix0 c
      have i1 := ix1 c
      rw [unC_cD]
      generalize cD c = C at v30 i0 i1
      generalize TT rs = R at v5 c3
      generalize TT ss = S at v10 c4
      simp [asB, v2, v5, v10, v30, i0, i1, c3, c4, same]
  rw [filter_cD (same p rs ss)] at k1
  rw [setS_ap, argsN_ap, aCons_ap, asVal_ap, k1]
  rfl
theorem b0_2 (k : Kn ks e) (h2 : ks[2]? = some (some (.val (.int p)))) (h5 : ks[5]? = some (some (.val (TT rs)))) (h6 : ks[6]? = some (some (.val (.int a)))) (h7 : ks[7]? = some (some (.val (.int b)))) (h10 : ks[10]? = some (some (.val (TT ss)))) (h11 : ks[11]? = some (some (.val (.tuple ((due p rs ss).map cD)))))
    (hp : P4 p) (hr : Good p w rs) (hs : Good p w ss) (hl : rs.length = ss.length) (ha : 0 ≤ a ∧ a < p) (hb : 0 ≤ b ∧ b < p) :
    (ifS (asB (bin2 neD (argsN (arg1 reprD) (aCons (asVal (dispL (aCons (callP (s__law_asked) (aCons (cst (.int 3)) (aCons (var 2) (aCons (var 5) (aCons (var 10) (aCons (cst .none) (aCons (cst .none) aNil))))))) (aCons (callP (s__law_asked) (aCons (cst (.int 2)) (aCons (var 2) (aCons (var 5) (aCons (var 10) (aCons (var 6) (aCons (var 7) aNil))))))) aNil)))) aNil)) (argsN (arg1 reprD) (aCons (asVal (dispL (aCons (var 11) (aCons (bin2 inD (dispT (aCons (var 6) (aCons (var 7) aNil))) (var 11)) aNil)))) aNil)))) (retS (cst (.bool false))) nxS) e = .nx e := by
  have q0 := ask3 (A4 := .none) (A5 := .none) (passing_ok hp hr hs hl)
  have q1 := ask2 (same_hall_ok hp hr hs hl ha hb)
  have hc : (a.toNat, b.toNat) ∈ coins p.toNat := (coins_mem hp).mpr (by omega)
  have q2 := in_due hp (l := due p rs ss) due_sub (due_le hp) hc
  rw [mem_due hp ha hb, ← cD_in ha hb] at q2
  have nm : Nm 3 80002 (.list [.tuple ((due p rs ss).map cD), .bool (decide (hallI p a b 1 rs = hallI p a b 1 ss))]) := Nm.list (N := 2) (D := 2) (W := 40000) (by
    intro x hx
    simp at hx
    rcases hx with rfl | rfl
    · exact nm_due hp due_sub (due_le hp)
    · exact (Nm.bool _).mono (by omega) (by omega)) (by simp)
  have r1 := nm.repr (by omega) (by omega)
  have r2 := nm.same
  have v11 := k.v h11
  generalize PyData.bool (decide (hallI p a b 1 rs = hallI p a b 1 ss)) = B at q1 q2 r1 r2
  generalize PyData.tuple ((due p rs ss).map cD) = D at q0 q2 r1 r2 v11
  generalize PyData.shown (.list [D, B]) = S at r1 r2
  have v5 := k.v h5
  have v10 := k.v h10
  generalize TT rs = R at q0 q1 v5
  generalize TT ss = R' at q0 q1 v10
  simp [asB, k.v h2, v5, k.v h6, k.v h7, v10, v11, q0, q1, q2, szl, r1, r2]
theorem b0_3 (k : Kn ks e) {m : Int} (h2 : ks[2]? = some (some (.val (.int p)))) (h3 : ks[3]? = some (some (.val (.int w)))) (h4 : ks[4]? = some (some (.val (.int m)))) (h5 : ks[5]? = some (some (.val (TT rs)))) (h10 : ks[10]? = some (some (.val (TT ss))))
    (hp : P4 p) (hm : 0 ≤ m ∧ m ≤ 12) (hr : Good p w rs) (hs : Good p w ss) :
    parS [12, 13] (avSv (bin2 eqD (asVal (argsNn (arg1 sortD) (aCons (var 5) aNil))) (asVal (argsNn (arg1 sortD) (aCons (var 10) aNil)))) (avSv (bin2 mulD (bin2 mulD (var 2) (var 4)) (argsN (arg2 max2D) (aCons (cst (.int 1)) (aCons (bin2 subD (var 3) (cst (.int 1))) aNil)))) avNil)) e = .nx ((e.set 12 (.val (.bool (decide (rs.Perm ss))))).set 13 (.val (.int (mostI p m w)))) := by
  have q1 := hr.sort hp
  have q2 := hs.sort hp
  have q3 := eq_L hp (hr.perm (srt_perm rs)) (hs.perm (srt_perm ss))
  have q4 : decide (srt rs = srt ss) = decide (rs.Perm ss) := by rw [Bool.eq_iff_iff, decide_eq_true_iff, decide_eq_true_iff]; exact srt_eq
  rw [q4] at q3
  obtain ⟨p1, p2, p3, p4⟩ := hp.lt
  have u1 : mulD (.int p) (.int m) = some (.int (p * m)) := mulD_l (by omega) (by omega)
  have u2 : ∀ x : Int, mulD (.int (p * m)) (.int x) = some (.int (p * m * x)) := fun x => by
    rcases hp with rfl | rfl | rfl | rfl <;> exact mulD_l (by omega) (by omega)
  have v5 := k.v h5
  have v10 := k.v h10
  generalize TT rs = R at q1 v5
  generalize TT ss = R' at q2 v10
  generalize (srt rs).map T = L1 at q1 q3
  generalize (srt ss).map T = L2 at q2 q3
  simp [parS, avSv, avNil, k.v h2, k.v h3, k.v h4, v5, v10, q1, q2, q3, u1, u2, frzAV, setAll, mostI]
theorem b0_4 (k : Kn ks e) {m : Int} (h2 : ks[2]? = some (some (.val (.int p)))) (h3 : ks[3]? = some (some (.val (.int w)))) (h4 : ks[4]? = some (some (.val (.int m)))) (h11 : ks[11]? = some (some (.val (.tuple ((due p rs ss).map cD))))) (h12 : ks[12]? = some (some (.val (.bool (decide (rs.Perm ss)))))) (h13 : ks[13]? = some (some (.val (.int (mostI p m w)))))
    (hp : P4 p) (hm : (rs.length : Int) = m) (hw : 1 ≤ w ∧ w ≤ 3) (hr : Good p w rs) (hs : Good p w ss) (hl : rs.length = ss.length) :
    ifS (orT (andT (asT (var 12)) (asB (bin2 neD (argsN (arg1 lenD) (aCons (var 11) aNil)) (bin2 mulD (var 2) (var 2))))) (orT (andT (notT (asT (var 12))) (asB (bin2 gtD (argsN (arg1 lenD) (aCons (var 11) aNil)) (var 13)))) (asB (bin2 neD (callP (s__law_asked) (aCons (cst (.int 5)) (aCons (var 2) (aCons (var 4) (aCons (var 3) (aCons (cst .none) (aCons (cst .none) aNil))))))) (var 13))))) (retS (cst (.bool false))) nxS e = .nx e := by
  have q0 := ask5 (A4 := .none) (A5 := .none) (most_passing_ok hp (many := m) (w := w) (by have := hr.1; have := hr.2.1; omega) (by omega))
  obtain ⟨p1, p2, p3, p4⟩ := hp.lt
  have u1 : mulD (.int p) (.int p) = some (.int (p * p)) := mulD_l (by omega) (by omega)
  have v11 := k.v h11
  have hL : lenD (.tuple ((due p rs ss).map cD)) = some (.int (due p rs ss).length) := by rw [lenD_tup, List.length_map]
  generalize PyData.tuple ((due p rs ss).map cD) = D at v11 hL
  by_cases q : rs.Perm ss
  · have hn : ((due p rs ss).length : Int) = p * p := by rw [due_all hp q, coins_lenI hp]
    have v12 := k.v h12
    rw [decide_eq_true q] at v12
    rw [hn] at hL
    simp [asB, k.v h2, k.v h3, k.v h4, v11, v12, k.v h13, hL, u1, q0]
  · have hn := due_few hp hw hl hr.2.2.2.2 hs.2.2.2.2 q
    rw [hm] at hn
    have v12 := k.v h12
    rw [decide_eq_false q] at v12
    have hn2 : ¬ mostI p m w < ((due p rs ss).length : Int) := by omega
    simp [asB, k.v h2, k.v h3, k.v h4, v11, v12, k.v h13, hL, u1, q0, hn2, hn]
end
end PP.B52
set_option maxRecDepth 100000
namespace PP.B52
open PySem PySem.Spec PyProof.Rows L2 PP PP.SZ
def KA (D : List PyData) (p w m a b : Int) (rs cg dr : List (List Int)) : List (Option Sl) :=
  [none, some (.own D), some (.val (.int p)), some (.val (.int w)), some (.val (.int m)), some (.val (TT rs)), some (.val (.int a)), some (.val (.int b)), some (.val (TT cg)), some (.val (TT dr)), none, none, none, none, none, some .no, none, none, none, none, none, none, none,
    some .no, some .no, some .no, some .no, some .no, some .no, some .no, some .no, some .no, some .no]
structure Par (p w m a b : Int) (rs cg dr : List (List Int)) : Prop where
  hp : P4 p
  hw : 1 ≤ w ∧ w ≤ 3
  hm : 1 ≤ m ∧ m ≤ 4
  ha : 0 ≤ a ∧ a < p
  hb : 0 ≤ b ∧ b < p
  lr : (rs.length : Int) = m
  lc : (cg.length : Int) = m
  ld : (dr.length : Int) = m
  rr : ∀ r ∈ rs, RowOk p w r
  rc : ∀ r ∈ cg, RowOk p w r
  rd : ∀ r ∈ dr, RowOk p w r
def KG (v1 v2 v3 v4 v5 v6 v7 v8 v9 : Option Sl) : List (Option Sl) :=
  [none, v1, v2, v3, v4, v5, v6, v7, v8, v9, none, none, none, none, none, some .no, none, none, none, none, none, none, none,
    some .no, some .no, some .no, some .no, some .no, some .no, some .no, some .no, some .no, some .no]
theorem _root_.PP.Kn.g1 {v1 v2 v3 v4 v5 v6 v7 v8 v9 : Option Sl} {e : Sls} (k : Kn (KG v1 v2 v3 v4 v5 v6 v7 v8 v9) e) (s : Sl) : Kn (KG (some s) v2 v3 v4 v5 v6 v7 v8 v9) (e.set 1 s) := k.set (i := 1) s
theorem _root_.PP.Kn.g2 {v1 v2 v3 v4 v5 v6 v7 v8 v9 : Option Sl} {e : Sls} (k : Kn (KG v1 v2 v3 v4 v5 v6 v7 v8 v9) e) (s : Sl) : Kn (KG v1 (some s) v3 v4 v5 v6 v7 v8 v9) (e.set 2 s) := k.set (i := 2) s
theorem _root_.PP.Kn.g3 {v1 v2 v3 v4 v5 v6 v7 v8 v9 : Option Sl} {e : Sls} (k : Kn (KG v1 v2 v3 v4 v5 v6 v7 v8 v9) e) (s : Sl) : Kn (KG v1 v2 (some s) v4 v5 v6 v7 v8 v9) (e.set 3 s) := k.set (i := 3) s
theorem _root_.PP.Kn.g4 {v1 v2 v3 v4 v5 v6 v7 v8 v9 : Option Sl} {e : Sls} (k : Kn (KG v1 v2 v3 v4 v5 v6 v7 v8 v9) e) (s : Sl) : Kn (KG v1 v2 v3 (some s) v5 v6 v7 v8 v9) (e.set 4 s) := k.set (i := 4) s
theorem _root_.PP.Kn.g5 {v1 v2 v3 v4 v5 v6 v7 v8 v9 : Option Sl} {e : Sls} (k : Kn (KG v1 v2 v3 v4 v5 v6 v7 v8 v9) e) (s : Sl) : Kn (KG v1 v2 v3 v4 (some s) v6 v7 v8 v9) (e.set 5 s) := k.set (i := 5) s
theorem _root_.PP.Kn.g6 {v1 v2 v3 v4 v5 v6 v7 v8 v9 : Option Sl} {e : Sls} (k : Kn (KG v1 v2 v3 v4 v5 v6 v7 v8 v9) e) (s : Sl) : Kn (KG v1 v2 v3 v4 v5 (some s) v7 v8 v9) (e.set 6 s) := k.set (i := 6) s
theorem _root_.PP.Kn.g7 {v1 v2 v3 v4 v5 v6 v7 v8 v9 : Option Sl} {e : Sls} (k : Kn (KG v1 v2 v3 v4 v5 v6 v7 v8 v9) e) (s : Sl) : Kn (KG v1 v2 v3 v4 v5 v6 (some s) v8 v9) (e.set 7 s) := k.set (i := 7) s
theorem _root_.PP.Kn.g8 {v1 v2 v3 v4 v5 v6 v7 v8 v9 : Option Sl} {e : Sls} (k : Kn (KG v1 v2 v3 v4 v5 v6 v7 v8 v9) e) (s : Sl) : Kn (KG v1 v2 v3 v4 v5 v6 v7 (some s) v9) (e.set 8 s) := k.set (i := 8) s
theorem _root_.PP.Kn.g9 {v1 v2 v3 v4 v5 v6 v7 v8 v9 : Option Sl} {e : Sls} (k : Kn (KG v1 v2 v3 v4 v5 v6 v7 v8 v9) e) (s : Sl) : Kn (KG v1 v2 v3 v4 v5 v6 v7 v8 (some s)) (e.set 9 s) := k.set (i := 9) s
theorem kg0 (S : PyData) : Kn (KG (some .no) (some .no) (some .no) (some .no) (some .no) (some .no) (some .no) (some .no) (some .no)) (envA 33 [S]) := by
  have k : Kn [some (.val S), some .no, some .no, some .no, some .no, some .no, some .no, some .no, some .no, some .no, some .no, some .no, some .no, some .no, some .no, some .no, some .no, some .no, some .no, some .no, some .no, some .no, some .no, some .no, some .no, some .no, some .no, some .no, some .no, some .no, some .no, some .no, some .no] (envA 33 [S]) := Kn.all _
  exact ((((((((((((k.forget 0).forget 10).forget 11).forget 12).forget 13).forget 14).forget 16).forget 17).forget 18).forget 19).forget 20).forget 21).forget 22
theorem good_of {p w m : Int} {rs : List (List Int)} (hw : 1 ≤ w ∧ w ≤ 3) (hm : 1 ≤ m ∧ m ≤ 12) (hl : (rs.length : Int) = m) (h : ∀ r ∈ rs, RowOk p w r) : Good p w rs := ⟨by omega, by omega, hw.1, by omega, h⟩
theorem phase1 {ns : List Int} (hl : ns.length ≤ 63) : ∃ (D : List PyData) (p w m a b : Int) (rs cg dr : List (List Int)) (e : Sls), Par p w m a b rs cg dr ∧ Kn (KA D p w m a b rs cg dr) e ∧ DOk 7000 D ∧
    ∀ g, seqS d_law_s2 (seqS d_law_s3 (seqS d_law_s4 (seqS d_law_s5 (seqS d_law_s6 (seqS d_law_s7 (seqS d_law_s8 (seqS d_law_s9 g))))))) (envA 33 [.list (ns.map .int)]) = g e := by
  obtain ⟨x1, a2, d2⟩ := s2_ok (Kn.all (envA 33 [.list (ns.map .int)])) (ns := ns) rfl (by omega)
  have k2 := (kg0 (.list (ns.map .int))).g1 (.own x1)
  generalize envA 33 [.list (ns.map .int)] = e0 at *
  obtain ⟨x2, a3, d3⟩ := s3_ok k2 (xs := x1) rfl d2
  have k3 := k2.g1 (.own x2)
  generalize e0.set 1 (.own x1) = e2 at *
  obtain ⟨p, w, m, x3, a4, hp, hw, hm, d4⟩ := s4_ok k3 (xs := x2) rfl d3
  have k4 := (((k3.g1 (.own x3)).g2 (.val (.int p))).g3 (.val (.int w))).g4 (.val (.int m))
  generalize e2.set 1 (.own x2) = e3 at *
  generalize ((((e3.set 1 (.own x3)).set 2 (.val (.int p))).set 3 (.val (.int w))).set 4 (.val (.int m))) = e4 at *
  obtain ⟨rs, x4, a5, lr, rr, d5⟩ := s5_ok k4 (xs := x3) (p := p) (w := w) (m := m) rfl d4 rfl rfl rfl rfl hp.pos (by omega) (by omega)
  have k5 := (k4.g1 (.own x4)).g5 (.val (TT rs))
  generalize (e4.set 1 (.own x4)).set 5 (.val (TT rs)) = e5 at *
  obtain ⟨a, b, x5, a6, ha, hb, d6⟩ := s6_ok k5 (xs := x4) (p := p) rfl d5 rfl hp.pos
  have k6 := ((k5.g1 (.own x5)).g6 (.val (.int a))).g7 (.val (.int b))
  generalize ((e5.set 1 (.own x5)).set 6 (.val (.int a))).set 7 (.val (.int b)) = e6 at *
  have gr := good_of hw (by omega) lr rr
  have a7 := s7_ok k6 (p := p) (w := w) (rs := rs) (a := a) (b := b) rfl rfl rfl rfl hp gr ha hb
  obtain ⟨cg, x6, a8, lc, rc, d8⟩ := s8_ok k6 (xs := x5) (p := p) (w := w) (rs := rs) rfl d6 rfl rfl rfl hp.pos (by omega) (by omega) rr
  have k8 := (k6.g1 (.own x6)).g8 (.val (TT cg))
  generalize (e6.set 1 (.own x6)).set 8 (.val (TT cg)) = e8 at *
  obtain ⟨dr, x7, a9, ld, rd, d9⟩ := s9_ok k8 (xs := x6) (p := p) (w := w) (m := m) rfl d8 rfl rfl rfl rfl hp.pos (by omega) (by omega)
  have k9 := (k8.g1 (.own x7)).g9 (.val (TT dr))
  generalize (e8.set 1 (.own x7)).set 9 (.val (TT dr)) = e9 at *
  exact ⟨x7, p, w, m, a, b, rs, cg, dr, e9, ⟨hp, hw, hm, ha, hb, lr, by omega, ld, rr, rc, rd⟩, k9, d9, fun g => seqS_of a2 (seqS_of a3 (seqS_of a4 (seqS_of a5 (seqS_of a6 (seqS_of a7 (seqS_of a8 (seqS_of a9 rfl)))))))⟩
section
variable {D : List PyData} {p w m a b : Int} {rs cg dr ss : List (List Int)} {e : Sls}
theorem b0_ok (P : Par p w m a b rs cg dr) (k : Kn ((KA D p w m a b rs cg dr).set 10 (some (.val (TT ss)))) e) (hs : Good p w ss) (hl : rs.length = ss.length) : ∃ e', d_law_b0 e = .nx e' ∧ Kn (KA D p w m a b rs cg dr) e' := by
  have gr := good_of P.hw (by have := P.hm; omega) P.lr P.rr
  have t1 := b0_1 k (p := p) (rs := rs) (ss := ss) rfl rfl rfl rfl P.hp
  have k1 := k.set (i := 11) (.val (.tuple ((due p rs ss).map cD)))
  have t2 := b0_2 k1 (p := p) (w := w) (a := a) (b := b) (rs := rs) (ss := ss) rfl rfl rfl rfl rfl rfl P.hp gr hs hl P.ha P.hb
  have t3 := b0_3 k1 (p := p) (w := w) (m := m) (rs := rs) (ss := ss) rfl rfl rfl rfl rfl P.hp (by have := P.hm; omega) gr hs
  have k3 := (k1.set (i := 12) (.val (.bool (decide (rs.Perm ss))))).set (i := 13) (.val (.int (mostI p m w)))
  have t4 := b0_4 k3 (p := p) (w := w) (m := m) (rs := rs) (ss := ss) rfl rfl rfl rfl rfl rfl P.hp P.lr P.hw gr hs hl
  exact ⟨_, seqS_of t1 (seqS_of t2 (seqS_of t3 t4)), (((k3.forget 10).forget 11).forget 12).forget 13⟩
theorem s10_ok (P : Par p w m a b rs cg dr) (k : Kn (KA D p w m a b rs cg dr) e) (hD : DOk 7000 D) : ∃ D' e', d_law_s10 e = .nx e' ∧ Kn (KA D' p w m a b rs cg dr) e' ∧ DOk 7000 D' := by
  have hm := P.hm
  have lr := P.lr
  have lc := P.lc
  have ld := P.ld
  have gr := good_of P.hw (by omega) P.lr P.rr
  have gc := good_of P.hw (by omega) P.lc P.rc
  have gd := good_of P.hw (by omega) P.ld P.rd
  obtain ⟨s1, x1, a1, a2, a3⟩ := shuffled_ok hD (rs := rs) (by omega)
  obtain ⟨s2, x2, b1, b2, b3⟩ := shuffled_ok a3 (rs := cg) (by omega)
  have v5 := k.v (i := 5) (d := TT rs) rfl
  have v8 := k.v (i := 8) (d := TT cg) rfl
  have c1 := callO_of (fs := aCons (var 5) aNil) (xs := [.val (TT rs)]) (k.at (i := 1) (s := .own D) rfl) (args1_of v5) rfl a1
  have k1 := k.set (i := 1) (.own x1)
  have v8' := k1.v (i := 8) (d := TT cg) rfl
  have v9' := k1.v (i := 9) (d := TT dr) rfl
  have c2 := callO_of (fs := aCons (var 8) aNil) (xs := [.val (TT cg)]) (k1.at (i := 1) (s := .own x1) rfl) (args1_of v8') rfl b1
  have k2 := k1.set (i := 1) (.own x2)
  have it : itSeq (asVal (dispL (aCons (callO 1 (s__law_shuffled) (aCons (var 5) aNil)) (aCons (var 8) (aCons (var 9) (aCons (callO 1 (s__law_shuffled) (aCons (var 8) aNil)) aNil)))))) e = .ok [TT s1, TT cg, TT dr, TT s2] ((e.set 1 (.own x1)).set 1 (.own x2)) := by
    generalize TT rs = R at *
    generalize TT cg = C at *
    generalize TT dr = R3 at *
    generalize TT s1 = R4 at *
    generalize TT s2 = R5 at *
    generalize (e.set 1 (.own x1)).set 1 (.own x2) = e2 at *
    generalize e.set 1 (.own x1) = e1 at *
    simp [c1, c2, v8', v9', szl]
  obtain ⟨e', f1, f2⟩ := forD_ex (t := tgN 10) (g := d_law_b0) (Inv := fun e' => Kn (KA x2 p w m a b rs cg dr) e') (ds := [TT s1, TT cg, TT dr, TT s2]) (e := (e.set 1 (.own x1)).set 1 (.own x2)) k2 fun d hd e' k' => by
    have k3 : ∀ ss, Kn ((KA x2 p w m a b rs cg dr).set 10 (some (.val (TT ss)))) (e'.set 10 (.val (TT ss))) := fun ss => k'.set _
    have fin : ∀ ss, Good p w ss → rs.length = ss.length → ∃ e1 e2, tgN 10 (TT ss) e' = some e1 ∧ d_law_b0 e1 = .nx e2 ∧ Kn (KA x2 p w m a b rs cg dr) e2 := fun ss h1 h2 => by
      obtain ⟨e2, h3, h4⟩ := b0_ok P (k3 ss) h1 h2
      exact ⟨_, e2, rfl, h3, h4⟩
    simp only [List.mem_cons, List.not_mem_nil, or_false] at hd
    rcases hd with rfl | rfl | rfl | rfl
    · exact fin s1 (gr.perm a2) a2.length_eq.symm
    · exact fin cg gc (by omega)
    · exact fin dr gd (by omega)
    · exact fin s2 (gc.perm b2) (by have := b2.length_eq; omega)
  exact ⟨x2, e', forS_of it f1, f2, b3⟩
end
end PP.B52
set_option maxRecDepth 100000
namespace PP.B52
open PySem PySem.Spec PyProof.Rows L2 PP PP.SZ
theorem cut_one {rs : List (List Int)} (h : 1 ≤ rs.length) : slTD (TT rs) (some 1) none = some (TT (rs.drop 1)) := by
  have : cutD (rs.map T) (some 1) none = (rs.drop 1).map T := by
    unfold cutD
    show ((rs.map T).drop (if (1 : Int) < 0 then (1 + ((rs.map T).length : Int)).toNat else min (1 : Int).toNat (rs.map T).length)).take ((rs.map T).length - (if (1 : Int) < 0 then (1 + ((rs.map T).length : Int)).toNat else min (1 : Int).toNat (rs.map T).length)) = _
    rw [if_neg (by omega), List.length_map, show min (1 : Int).toNat rs.length = 1 by omega, List.map_drop]
    exact List.take_of_length_le (by rw [List.length_drop, List.length_map]; omega)
  show some (PyData.tuple (cutD (rs.map T) (some 1) none)) = _
  rw [this]
  rfl
theorem pairsK_T : ∀ l : List (List Int), pairsK ((l.map T).map fun d => .tuple [d, .bool true]) = some (l.map fun r => (T r, .bool true))
  | [] => rfl
  | r :: l => by
    have h : ((nk (T r)).any (fun z => decide (z.depth ≤ 8)) && pairsK.isTup (T r)) = true := keyOk_T
    show (if ((nk (T r)).any (fun z => decide (z.depth ≤ 8)) && pairsK.isTup (T r)) = true then (pairsK ((l.map T).map fun d => .tuple [d, .bool true])).map ((T r, .bool true) :: ·) else none) = _
    rw [if_pos h, pairsK_T l]
    rfl
open Classical in
theorem sdD_T {p w : Int} (hp : P4 p) {l : List (List Int)} (h : Good p w (dd l)) : sdD (.list ((l.map T).map fun d => .tuple [d, .bool true])) = some ((srt (dd l)).map T) := by
  have hk : dkeys (l.map fun r => (T r, PyData.bool true)) = (dd l).map T := by
    unfold dkeys
    rw [List.map_map]
    exact foldl_T l []
  obtain ⟨h1, h2, h3, h4, h5⟩ := h
  have := hp.lt
  have so : SortOk ((dd l).map T) := sortOk_T (p := p) (by omega) (by omega) fun r hr => ⟨by have := (h5 r hr).1; omega, by rintro rfl; have := (h5 _ hr).1; simp at this; omega, (h5 r hr).2⟩
  show ((pairsK ((l.map T).map fun d => .tuple [d, .bool true])).bind fun kvs => if SortOk (dkeys kvs) then some ((dkeys kvs).mergeSort (PySem.W.dataLe false id)) else none) = _
  rw [pairsK_T, Option.bind_some, hk, if_pos so, sort_T]
def tabl (dr rs : List (List Int)) : List (List Int) := srt (dd (dr ++ rs.drop 1))
theorem tabl_mem {dr rs : List (List Int)} {x : List Int} : x ∈ tabl dr rs ↔ x ∈ dr ∨ x ∈ rs.drop 1 := by
  unfold tabl
  rw [(srt_perm _).mem_iff, dd_mem, List.mem_append]
theorem tabl_nodup (dr rs : List (List Int)) : (tabl dr rs).Nodup := (srt_perm _).nodup_iff.mpr (dd_nodup _)
theorem dd_good {p w m a b : Int} {rs cg dr : List (List Int)} (P : Par p w m a b rs cg dr) : Good p w (dd (dr ++ rs.drop 1)) ∧ (dd (dr ++ rs.drop 1)).length ≤ 7 := by
  have hm := P.hm
  have lr := P.lr
  have ld := P.ld
  have l1 := dd_len (dr ++ rs.drop 1)
  rw [List.length_append, List.length_drop] at l1
  refine ⟨⟨?_, by omega, P.hw.1, by have := P.hw; omega, fun r hr => ?_⟩, by omega⟩
  · have : 0 < (dd (dr ++ rs.drop 1)).length := by
      cases dr with
      | nil => simp at ld; omega
      | cons x dr => exact List.length_pos_of_mem (dd_mem.mpr (List.mem_append.mpr (.inl List.mem_cons_self)))
    exact this
  · rcases List.mem_append.mp (dd_mem.mp hr) with h | h
    · exact P.rd r h
    · exact P.rr r (List.mem_of_mem_drop h)
theorem tabl_good {p w m a b : Int} {rs cg dr : List (List Int)} (P : Par p w m a b rs cg dr) : Good p w (tabl dr rs) ∧ (tabl dr rs).length ≤ 7 :=
  ⟨(dd_good P).1.perm (srt_perm _), by rw [show (tabl dr rs).length = _ from (srt_perm _).length_eq]; exact (dd_good P).2⟩
def KT (D : List PyData) (p w m a b : Int) (rs : List (List Int)) (v14 v16 v17 v18 : Option Sl) : List (Option Sl) :=
  [none, some (.own D), some (.val (.int p)), some (.val (.int w)), some (.val (.int m)), some (.val (TT rs)), some (.val (.int a)), some (.val (.int b)), none, none, none, none, none, none, v14, some .no, v16, v17, v18, none, none, none, none,
    some .no, some .no, some .no, some .no, some .no, some .no, some .no, some .no, some .no, some .no]
section
variable {D : List PyData} {p w m a b : Int} {rs cg dr ts : List (List Int)} {e : Sls} {v14 v16 v17 v18 : Option Sl}
theorem _root_.PP.Kn.t14 (k : Kn (KT D p w m a b rs v14 v16 v17 v18) e) (s : Sl) : Kn (KT D p w m a b rs (some s) v16 v17 v18) (e.set 14 s) := k.set (i := 14) s
theorem _root_.PP.Kn.t16 (k : Kn (KT D p w m a b rs v14 v16 v17 v18) e) (s : Sl) : Kn (KT D p w m a b rs v14 (some s) v17 v18) (e.set 16 s) := k.set (i := 16) s
theorem _root_.PP.Kn.t17 (k : Kn (KT D p w m a b rs v14 v16 v17 v18) e) (s : Sl) : Kn (KT D p w m a b rs v14 v16 (some s) v18) (e.set 17 s) := k.set (i := 17) s
theorem _root_.PP.Kn.t18 (k : Kn (KT D p w m a b rs v14 v16 v17 v18) e) (s : Sl) : Kn (KT D p w m a b rs v14 v16 v17 (some s)) (e.set 18 s) := k.set (i := 18) s
theorem _root_.PP.Kn.t1 (k : Kn (KT D p w m a b rs v14 v16 v17 v18) e) (D' : List PyData) : Kn (KT D' p w m a b rs v14 v16 v17 v18) (e.set 1 (.own D')) := k.set (i := 1) (.own D')
theorem s11_ok (P : Par p w m a b rs cg dr) (k : Kn (KA D p w m a b rs cg dr) e) : d_law_s11 e = .nx (e.set 14 (.val (TT (tabl dr rs)))) := by
  have hm := P.hm
  have lr := P.lr
  have ld := P.ld
  have c1 := cut_one (rs := rs) (by omega)
  have c2 := addTT (rs := dr) (ss := rs.drop 1) (by rw [List.length_drop]; omega)
  have v5 := k.v (i := 5) (d := TT rs) rfl
  have v9 := k.v (i := 9) (d := TT dr) rfl
  have hit : itSeq (bin2 addD (var 9) (slc slTD (var 5) (part (cst (.int 1))) noPart)) e = .ok ((dr ++ rs.drop 1).map T) e := by
    have hs : seqD (TT (dr ++ rs.drop 1)) = some ((dr ++ rs.drop 1).map T) := rfl
    generalize (dr ++ rs.drop 1).map T = L at hs
    generalize TT (dr ++ rs.drop 1) = R3 at hs c2
    generalize TT (rs.drop 1) = R2 at c1 c2
    generalize TT rs = R at c1 v5
    generalize TT dr = R' at c2 v9
    simp [v5, v9, c1, c2, hs]
  have k1 := k.cmap (i := 24) (g := fun d => .tuple [d, .bool true]) (it := itSeq (bin2 addD (var 9) (slc slTD (var 5) (part (cst (.int 1))) noPart))) (el := dispT (aCons (var 24) (aCons (cst (.bool true)) aNil))) (ds := (dr ++ rs.drop 1).map T) rfl hit (by rw [List.length_map, List.length_append, List.length_drop, szl]; omega) fun d hd e' k' => by
    have v24 := k'.v (i := 24) (d := d) rfl
    simp [v24, szl]
  have q := sdD_T P.hp (dd_good P).1
  unfold d_law_s11
  rw [setS_ap, argsN_ap, aCons_ap, asVal_ap, un1n_ap, asVal_ap, k1]
  simp only [bind_ok, rd_val, q, of_some, aNil_ap, List.map_cons, List.map_nil, arg1_ap, tupD_list, toS_ok, frzO_val]
  rfl
theorem all_in (rs ts : List (List Int)) : allD (.list ((rs.map T).map fun d => .bool (decide (unT d ∈ ts)))) = some (.bool (decide (∀ r ∈ rs, r ∈ ts))) := by
  have e : ((rs.map T).map fun d => PyData.bool (decide (unT d ∈ ts))) = (rs.map fun r => decide (r ∈ ts)).map .bool := by
    rw [List.map_map, List.map_map]
    apply List.map_congr_left
    intro r _
    show PyData.bool (decide (unT (T r) ∈ ts)) = PyData.bool (decide (r ∈ ts))
    rw [unT_T]
  show (truIs _).map _ = _
  rw [e, truIs_bool, Option.map_some, List.all_map]
  congr 2
  rw [Bool.eq_iff_iff, List.all_eq_true, decide_eq_true_iff]
  exact ⟨fun q r hr => of_decide_eq_true (q r hr), fun q r hr => decide_eq_true (q r hr)⟩
theorem eq_T {r s : List Int} (hr : Nm 1 (12 * 21) (T r)) (hs : Nm 1 (12 * 21) (T s)) : eqD (T r) (T s) = some (.bool (decide (r = s))) := by
  show (if SeqAt.shaped (T r) = true ∧ SeqAt.shaped (T s) = true then some (PyData.bool (PyData.eqv (T r) (T s))) else none) = _
  rw [if_pos ⟨hr.shaped (by omega), hs.shaped (by omega)⟩, eqv_T]
theorem filt_T (rs : List (List Int)) (t : List Int) : ((rs.map T).filter fun d => decide (unT d = t)).length = rs.count t := by
  rw [List.filter_map, List.length_map, List.count_eq_countP, List.countP_eq_length_filter]
  congr 1
  apply List.filter_congr
  intro r _
  show decide (unT (T r) = t) = (r == t)
  rw [unT_T, Bool.eq_iff_iff, decide_eq_true_iff, beq_iff_eq]
theorem s12_ok (hp : P4 p) (hr : Good p w rs) (ht : Good p w ts) (k : Kn (KT D p w m a b rs (some (.val (TT ts))) v16 v17 v18) e) : d_law_s12 e = .nx (e.set 16 (.val (T (cntsI rs ts)))) := by
  have k1 := k.cmap (i := 15) (g := fun d => .int (rs.count (unT d) : Nat)) (it := itSeq (var 14)) (el := argsN (arg1 lenD) (aCons (asVal (compN [24] (itSeq (var 5)) (tgN 24) (asB (bin2 eqD (var 24) (var 15))) (var 24))) aNil)) (ds := ts.map T) rfl (by
      have v14 := k.v (i := 14) (d := TT ts) rfl
      have hs : seqD (TT ts) = some (ts.map T) := rfl
      generalize ts.map T = L at hs
      simp [v14, hs]) (by rw [List.length_map, szl]; have := ht.2.1; omega) fun d hd e' k' => by
    have hd' := ht.nm hp d hd
    obtain ⟨t, hts, rfl⟩ := List.mem_map.mp hd
    rw [unT_T]
    have v5 := k'.v (i := 5) (d := TT rs) rfl
    have k2 := k'.cfil (i := 24) (p := fun d => decide (unT d = t)) (it := itSeq (var 5)) (ts := asB (bin2 eqD (var 24) (var 15))) (ds := rs.map T) rfl (by
      have hs : seqD (TT rs) = some (rs.map T) := rfl
      generalize rs.map T = L at hs
      simp [v5, hs]) (by rw [List.length_map, szl]; have := hr.2.1; omega) fun d2 hd2 e2 k3 => by
      have hd2' := hr.nm hp d2 hd2
      obtain ⟨r, hrs, rfl⟩ := List.mem_map.mp hd2
      have v24 := k3.v (i := 24) (d := T r) rfl
      have v15 := k3.v (i := 15) (d := T t) rfl
      rw [unT_T]
      have q := eq_T hd2' hd'
      generalize T r = R at v24 q
      generalize T t = R' at v15 q
      simp [asB, v24, v15, q]
    have q := filt_T rs t
    generalize ((rs.map T).filter fun d => decide (unT d = t)) = L at k2 q
    rw [argsN_ap, aCons_ap, asVal_ap, k2]
    simp only [bind_ok, rd_val, of_some, aNil_ap, List.map_cons, List.map_nil, arg1_ap, lenD_list, q]
  have e : ((ts.map T).map fun d => PyData.int (rs.count (unT d) : Nat)) = (cntsI rs ts).map .int := by
    unfold cntsI
    rw [List.map_map, List.map_map]
    apply List.map_congr_left
    intro t _
    show PyData.int (rs.count (unT (T t)) : Nat) = _
    rw [unT_T]
    rfl
  rw [e] at k1
  unfold d_law_s12
  rw [setS_ap, argsN_ap, aCons_ap, asVal_ap, k1]
  rfl
theorem s13_ok (hp : P4 p) (hr : Good p w rs) (ht : Good p w ts) (k : Kn (KT D p w m a b rs (some (.val (TT ts))) v16 v17 v18) e) : d_law_s13 e = .nx (e.set 17 (.val (.bool (decide (∀ r ∈ rs, r ∈ ts))))) := by
  have k1 := k.cmap (i := 24) (g := fun d => .bool (decide (unT d ∈ ts))) (it := itSeq (var 5)) (el := bin2 inD (var 24) (var 14)) (ds := rs.map T) rfl (by
      have v5 := k.v (i := 5) (d := TT rs) rfl
      have hs : seqD (TT rs) = some (rs.map T) := rfl
      generalize rs.map T = L at hs
      simp [v5, hs]) (by rw [List.length_map, szl]; have := hr.2.1; omega) fun d hd e' k' => by
    have hd' := hr.nm hp d hd
    obtain ⟨r, hrs, rfl⟩ := List.mem_map.mp hd
    rw [unT_T]
    have q := inD_T hp ht hd'
    have v24 := k'.v (i := 24) (d := T r) rfl
    have v14 := k'.v (i := 14) (d := TT ts) rfl
    generalize T r = R at v24 q
    generalize TT ts = R' at v14 q
    simp [v24, v14, q]
  have q := all_in rs ts
  generalize ((rs.map T).map fun d => PyData.bool (decide (unT d ∈ ts))) = L at k1 q
  unfold d_law_s13
  rw [setS_ap, argsN_ap, aCons_ap, asVal_ap, k1]
  simp only [bind_ok, rd_val, q, of_some, aNil_ap, List.map_cons, List.map_nil, arg1_ap, toS_ok, frzO_val]
theorem cnts_range {rs ts : List (List Int)} (h : rs.length ≤ 12) : ∀ c ∈ cntsI rs ts, 0 ≤ c ∧ c ≤ 12 := by
  intro c hc
  obtain ⟨t, _, rfl⟩ := List.mem_map.mp hc
  have := List.count_le_length (a := t) (l := rs)
  omega
theorem cnts_len (rs ts : List (List Int)) : (cntsI rs ts).length = ts.length := List.length_map _
theorem non_rep : reprD non = some (.str non.shown) ∧ neD (.str non.shown) (.str non.shown) = some (.bool false) := by
  have nm : Nm 0 20 non := ⟨strOk_of "!none", by decide, by first | rfl | kernel_rfl, by first | rfl | kernel_rfl, by first | decide | (show (_ : Nat) ≤ _; decide +kernel), by first | kernel_rfl | (exact strOk_of _)⟩
  exact ⟨nm.repr (by omega) (by omega), nm.same⟩
theorem s14_ok (hp : P4 p) (hr : Good p w rs) (ht : Good p w ts) (hn : ts.Nodup) (k : Kn (KT D p w m a b rs (some (.val (TT ts))) (some (.val (T (cntsI rs ts)))) (some (.val (.bool (decide (∀ r ∈ rs, r ∈ ts))))) v18) e) : d_law_s14 e = .nx e := by
  have q := counts_in_eq hp hr ht hn
  have v2 := k.v (i := 2) (d := .int p) rfl
  have v5 := k.v (i := 5) (d := TT rs) rfl
  have v14 := k.v (i := 14) (d := TT ts) rfl
  have v16 := k.v (i := 16) (d := T (cntsI rs ts)) rfl
  have v17 := k.v (i := 17) (d := .bool (decide (∀ r ∈ rs, r ∈ ts))) rfl
  by_cases c : ∀ r ∈ rs, r ∈ ts
  · rw [if_pos c] at q
    rw [decide_eq_true c] at v17
    have q0 := ask4 (A4 := .none) (A5 := .none) q
    have nm : Nm 1 (12 * 21) (T (cntsI rs ts)) := nm_T (p := 1000) (by omega) (by rw [cnts_len]; exact ht.2.1) fun x hx => by have := cnts_range hr.2.1 x hx; omega
    have r1 := nm.repr (by omega) (by omega)
    have r2 := nm.same
    generalize T (cntsI rs ts) = C at *
    generalize PyData.shown C = S at r1 r2
    generalize TT rs = R at *
    generalize TT ts = R' at *
    simp [d_law_s14, asB, v2, v5, v14, v16, v17, q0, r1, r2]
  · rw [if_neg c] at q
    rw [decide_eq_false c] at v17
    have q0 := ask4_non (A4 := .none) (A5 := .none) q
    obtain ⟨r1, r2⟩ := non_rep
    have e1 : cst (.str "!none") = cst non := rfl
    generalize TT rs = R at *
    generalize TT ts = R' at *
    unfold d_law_s14
    rw [e1]
    generalize non = C at *
    generalize PyData.shown C = S at r1 r2
    simp [asB, v2, v5, v14, v16, v17, q0, r1, r2]
theorem s15_ok (ht : Good p w ts) (k : Kn (KT D p w m a b rs (some (.val (TT ts))) v16 v17 v18) e) (hD : DOk 7000 D) : ∃ (wr : List Int) (D' : List PyData), d_law_s15 e = .nx ((e.set 1 (.own D')).set 18 (.val (T wr))) ∧ wr.length = ts.length ∧ (∀ x ∈ wr, 0 ≤ x ∧ x < 3) ∧ DOk 7000 D' := by
  obtain ⟨ys, xs', h1, h2, h3⟩ := k.cex (i := 15) (j := 1) (xs := D) (Inv := DOk 7000) (G := fun _ y => ∃ n : Int, y = .int n ∧ 0 ≤ n ∧ n < 3) (it := itSeq (var 14)) (el := bin2 modD (argsN (arg1 intoD) (aCons (callO 1 (s__law_next) aNil) aNil)) (cst (.int 3))) (ds := ts.map T) rfl rfl (by decide) hD (by
      have v14 := k.v (i := 14) (d := TT ts) rfl
      have hs : seqD (TT ts) = some (ts.map T) := rfl
      generalize ts.map T = L at hs
      simp [v14, hs]) (by rw [List.length_map, szl]; have := ht.2.1; omega) fun d hd xs1 e' hx1 k1 => by
      obtain ⟨n, xs2, a1, a2, a3⟩ := next52 hx1
      have c1 := callO_of (fs := aNil) (k1.at (i := 1) rfl) rfl rfl a1
      refine ⟨.int (n % 3), xs2, ?_, ⟨_, rfl, Int.emod_nonneg _ (by omega), Int.emod_lt_of_pos _ (by omega)⟩, a3⟩
      generalize e'.set 1 (.own xs2) = e2 at c1
      simp [c1, modD_int (i := n) (j := 3) (by omega)]
  obtain ⟨ns, rfl, n2, n3⟩ := paired_ints h2
  rw [List.length_map] at n2
  refine ⟨ns, xs', ?_, n2, n3, h3⟩
  unfold d_law_s15
  rw [setS_ap, argsN_ap, aCons_ap, asVal_ap, h1]
  rfl
theorem phase2 (P : Par p w m a b rs cg dr) (k : Kn (KA D p w m a b rs cg dr) e) (hD : DOk 7000 D) : ∃ (D' : List PyData) (wr : List Int) (e' : Sls), wr.length = (tabl dr rs).length ∧ (∀ x ∈ wr, 0 ≤ x ∧ x < 3) ∧ DOk 7000 D' ∧
    Kn (KT D' p w m a b rs (some (.val (TT (tabl dr rs)))) (some (.val (T (cntsI rs (tabl dr rs))))) (some (.val (.bool (decide (∀ r ∈ rs, r ∈ tabl dr rs))))) (some (.val (T wr)))) e' ∧
    ∀ g, seqS d_law_s10 (seqS d_law_s11 (seqS d_law_s12 (seqS d_law_s13 (seqS d_law_s14 (seqS d_law_s15 g))))) e = g e' := by
  have gr := good_of P.hw (by have := P.hm; omega) P.lr P.rr
  have gt := (tabl_good P).1
  obtain ⟨D1, e1, a10, k10, d10⟩ := s10_ok P k hD
  have a11 := s11_ok P k10
  have kT : Kn (KT D1 p w m a b rs none none none none) e1 := (k10.forget 8).forget 9
  have k11 := kT.t14 (.val (TT (tabl dr rs)))
  have a12 := s12_ok P.hp gr gt k11
  have k12 := k11.t16 (.val (T (cntsI rs (tabl dr rs))))
  have a13 := s13_ok P.hp gr gt k12
  have k13 := k12.t17 (.val (.bool (decide (∀ r ∈ rs, r ∈ tabl dr rs))))
  have a14 := s14_ok P.hp gr gt (tabl_nodup dr rs) k13
  obtain ⟨wr, D2, a15, l15, r15, d15⟩ := s15_ok gt k13 d10
  have k15 := (k13.t1 D2).t18 (.val (T wr))
  exact ⟨D2, wr, _, l15, r15, d15, k15, fun g => seqS_of a10 (seqS_of a11 (seqS_of a12 (seqS_of a13 (seqS_of a14 (seqS_of a15 rfl)))))⟩
end
end PP.B52
set_option maxRecDepth 100000
namespace PP.B52
open PySem PySem.Spec PyProof.Rows L2 PP PP.SZ
theorem lst_range : ∀ (ts : List (List Int)) (cs : List Int), cs.length = ts.length → ((List.range ts.length).map fun i => List.replicate (cs.getD i 0).toNat (T (ts.getD i []))).flatten = (lst ts cs).map T
  | [], [], _ => rfl
  | t :: ts, c :: cs, h => by
    rw [List.length_cons, List.range_succ_eq_map, List.map_cons, List.map_map, List.flatten_cons]
    show List.replicate c.toNat (T t) ++ ((List.range ts.length).map fun i => List.replicate (cs.getD i 0).toNat (T (ts.getD i []))).flatten = (List.replicate c.toNat t ++ lst ts cs).map T
    rw [lst_range ts cs (by simpa using h), List.map_append, List.map_replicate]
theorem paired_lists {α : Type} (f : α → List PyData) : ∀ l : List α, Paired (fun r xs => itemsD r = some xs) (l.map fun x => .list (f x)) (l.map f)
  | [] => .nil
  | x :: l => .cons rfl (paired_lists f l)
def rowI (ts : List (List Int)) (cs : List Int) (i : Nat) : List PyData := List.replicate (cs.getD i 0).toNat (T (ts.getD i []))
def rowD (ts : List (List Int)) (cs : List Int) : PyData → PyData
  | .int i => .list (rowI ts cs i.toNat)
  | _ => .none
theorem rowD_map (ts : List (List Int)) (cs : List Int) (n : Nat) : (intsFrom 0 n).map (rowD ts cs) = (List.range n).map fun i => .list (rowI ts cs i) := by
  unfold intsFrom
  rw [List.map_map]
  apply List.map_congr_left
  intro i _
  show PyData.list (rowI ts cs (0 + (i : Int)).toNat) = _
  rw [show (0 + (i : Int)).toNat = i by omega]
theorem repL1 {d : PyData} {c : Int} (h0 : 0 ≤ c) (h : c ≤ 1000) : repLD (.list [d]) (.int c) = some (List.replicate c.toNat d) := by
  unfold repLD
  dsimp only
  rw [if_pos ⟨by omega, by omega, by rw [szl, List.length_singleton]; omega⟩, List.flatten_replicate_singleton]
theorem getD_at {α : Type} {l : List α} {i : Nat} (d : α) (h : i < l.length) : l.getD i d = l[i] := by
  rw [List.getD_eq_getElem?_getD, List.getElem?_eq_getElem h, Option.getD_some]
theorem ixTT {ts : List (List Int)} {i : Nat} (h : i < ts.length) : ixD (TT ts) (.int i) = some (T (ts.getD i [])) := by
  have := ixD_nat (xs := ts.map T) (i := i) (by rw [List.length_map]; exact h)
  rw [List.getElem_map] at this
  rw [getD_at _ h]
  exact this
theorem ixT {cs : List Int} {i : Nat} (h : i < cs.length) : ixD (T cs) (.int i) = some (.int (cs.getD i 0)) := by
  have := ixD_nat (xs := cs.map .int) (i := i) (by rw [List.length_map]; exact h)
  rw [List.getElem_map] at this
  rw [getD_at _ h]
  exact this
theorem flat52 {rows : List PyData} {xss : List (List PyData)} (h : Paired (fun r xs => itemsD r = some xs) rows xss) (hl : xss.flatten.length ≤ 16777216) : s__law_flat [.list rows] = .ok (.list xss.flatten) := flat_ok h hl
def dueC (p : Int) (rs ts : List (List Int)) (cs : List Int) : List (Nat × Nat) := (coins p.toNat).filter (shownI p rs ts cs)
theorem dueC_sub {p : Int} {rs ts : List (List Int)} {cs : List Int} : ∀ c ∈ dueC p rs ts cs, c ∈ coins p.toNat := fun c h => (List.mem_filter.mp h).1
theorem dueC_le {p : Int} (hp : P4 p) {rs ts : List (List Int)} {cs : List Int} : (dueC p rs ts cs).length ≤ 121 := Nat.le_trans (List.length_filter_le _ _) (coins_le hp)
structure Cnt (ts : List (List Int)) (cs : List Int) : Prop where
  len : cs.length = ts.length
  rg : ∀ c ∈ cs, 0 ≤ c ∧ c ≤ 12
theorem lst_rows {p w : Int} {ts : List (List Int)} {cs : List Int} (ht : Good p w ts) : ∀ r ∈ lst ts cs, RowOk p w r := fun r h => ht.2.2.2.2 r (lst_mem h)
theorem dueC_all {p w : Int} (hp : P4 p) {rs ts : List (List Int)} {cs : List Int} (hn : ts.Nodup) (hc : Cnt ts cs) (h1 : ∀ r ∈ rs, r ∈ ts) (h2 : cs = cntsI rs ts) : ((dueC p rs ts cs).length : Int) = p * p := by
  have q : rs.Perm (lst ts cs) := (lst_perm hn hc.len fun c h => (hc.rg c h).1).mpr ⟨h1, h2⟩
  have e : cs.sum = (rs.length : Int) := by rw [← lst_len hc.len fun c h => (hc.rg c h).1, q.length_eq]
  have : dueC p rs ts cs = due p rs (lst ts cs) := by
    unfold dueC due
    apply List.filter_congr
    intro c _
    unfold shownI
    rw [decide_eq_true e, Bool.true_and]
  rw [this, due_all hp q, coins_lenI hp]
theorem dueC_few {p w : Int} (hp : P4 p) (hw : 1 ≤ w ∧ w ≤ 3) {rs ts : List (List Int)} {cs : List Int} (hn : ts.Nodup) (hr : Good p w rs) (ht : Good p w ts) (hc : Cnt ts cs) (h : ¬ ((∀ r ∈ rs, r ∈ ts) ∧ cs = cntsI rs ts)) : ((dueC p rs ts cs).length : Int) ≤ mostI p rs.length w := by
  have q : ¬ rs.Perm (lst ts cs) := fun z => h ((lst_perm hn hc.len fun c h => (hc.rg c h).1).mp z)
  by_cases e : cs.sum = (rs.length : Int)
  · have : dueC p rs ts cs = due p rs (lst ts cs) := by
      unfold dueC due
      apply List.filter_congr
      intro c _
      unfold shownI
      rw [decide_eq_true e, Bool.true_and]
    rw [this]
    have l := lst_len hc.len fun c h => (hc.rg c h).1
    exact due_few hp hw (by omega) hr.2.2.2.2 (lst_rows ht) q
  · have : dueC p rs ts cs = [] := by
      unfold dueC
      rw [List.filter_eq_nil_iff]
      intro c _
      unfold shownI
      rw [decide_eq_false e]
      simp
    rw [this]
    have h1 : 0 ≤ (if w - 1 > 1 then w - 1 else 1) := by split <;> omega
    have h2 : 0 ≤ p * (rs.length : Int) := Int.mul_nonneg (by have := hp.lt; omega) (by omega)
    exact Int.mul_nonneg h2 h1
theorem nm_cs {ts : List (List Int)} {cs : List Int} (hc : Cnt ts cs) (hl : ts.length ≤ 12) : Nm 1 (12 * 21) (T cs) := nm_T (p := 1000) (by omega) (by rw [hc.len]; exact hl) fun x hx => by have := hc.rg x hx; omega
theorem ne_T {r s : List Int} (hr : Nm 1 (12 * 21) (T r)) (hs : Nm 1 (12 * 21) (T s)) : neD (T r) (T s) = some (.bool (!decide (r = s))) := by
  show (if SeqAt.shaped (T r) = true ∧ SeqAt.shaped (T s) = true then some (PyData.bool (!PyData.eqv (T r) (T s))) else none) = _
  rw [if_pos ⟨hr.shaped (by omega), hs.shaped (by omega)⟩, eqv_T]
section
variable {D : List PyData} {p w m a b : Int} {rs cg dr ts : List (List Int)} {cs wr : List Int} {ks : List (Option Sl)} {e : Sls}
theorem b1_1 (k : Kn ks e) (h14 : ks[14]? = some (some (.val (TT ts)))) (h19 : ks[19]? = some (some (.val (T cs)))) (h31 : ks[31]? = some (some .no)) (hl : ts.length ≤ 12) (hc : Cnt ts cs) :
    setS 20 (callP (s__law_flat) (aCons (asVal (compN [31] (itArgs rng1D (aCons (argsN (arg1 lenD) (aCons (var 14) aNil)) aNil)) (tgN 31) yesT (asVal (bin2n repLD (asVal (dispL (aCons (bin2 ixD (var 14) (var 31)) aNil))) (argsN (arg1 intoD) (aCons (bin2 ixD (var 19) (var 31)) aNil)))))) aNil)) e = .nx (e.set 20 (.val (.list ((lst ts cs).map T)))) := by
  have v14 := k.v h14
  have k1 := k.cmap (i := 31) (g := rowD ts cs) (it := itArgs rng1D (aCons (argsN (arg1 lenD) (aCons (var 14) aNil)) aNil)) (el := asVal (bin2n repLD (asVal (dispL (aCons (bin2 ixD (var 14) (var 31)) aNil))) (argsN (arg1 intoD) (aCons (bin2 ixD (var 19) (var 31)) aNil)))) (ds := intsFrom 0 ts.length) h31 (it_rngN (n := ts.length) (by simp [v14, lenTT]) (by omega)) (by rw [intsFrom_len, szl]; omega) fun d hd e' k' => by
    obtain ⟨i, hi, rfl⟩ : ∃ i : Nat, i < ts.length ∧ d = .int (0 + (i : Nat)) := by
      unfold intsFrom at hd
      obtain ⟨i, hi, rfl⟩ := List.mem_map.mp hd
      exact ⟨i, List.mem_range.mp hi, rfl⟩
    rw [show (0 + (i : Int)) = (i : Int) by omega] at k' ⊢
    have v14 := k'.v (i := 14) (d := TT ts) (by rw [List.getElem?_set_ne (by decide)]; exact h14)
    have v19 := k'.v (i := 19) (d := T cs) (by rw [List.getElem?_set_ne (by decide)]; exact h19)
    have v31 := k'.v (i := 31) (d := .int i) (List.getElem?_set_self (List.getElem?_eq_some_iff.mp h31).1)
    have i1 := ixTT hi
    have i2 := ixT (cs := cs) (i := i) (by rw [hc.len]; exact hi)
    have hcr : 0 ≤ cs.getD i 0 ∧ cs.getD i 0 ≤ 12 := by
      have hi' : i < cs.length := by rw [hc.len]; exact hi
      rw [getD_at _ hi']
      exact hc.rg _ (List.getElem_mem hi')
    have r1 := repL1 (d := T (ts.getD i [])) hcr.1 (by omega)
    show _ = Out.ok (SV.val (PyData.list (rowI ts cs ((i : Int)).toNat))) _
    rw [Int.toNat_natCast]
    unfold rowI
    generalize List.replicate (cs.getD i 0).toNat (T (ts.getD i [])) = L at r1
    generalize T (ts.getD i []) = R at r1 i1
    generalize TT ts = R2 at i1 v14
    generalize T cs = R3 at i2 v19
    generalize cs.getD i 0 = c at *
    simp [v14, v19, v31, i1, i2, szl, r1]
  rw [rowD_map] at k1
  have q := flat52 (paired_lists (rowI ts cs) (List.range ts.length)) (by
    show (((List.range ts.length).map fun i => List.replicate (cs.getD i 0).toNat (T (ts.getD i []))).flatten).length ≤ _
    rw [lst_range ts cs hc.len, List.length_map]
    have := lst_le (ts := ts) (cs := cs) fun c h => (hc.rg c h).2
    omega)
  rw [show ((List.range ts.length).map (rowI ts cs)).flatten = (lst ts cs).map T from lst_range ts cs hc.len] at q
  generalize ((List.range ts.length).map fun i => PyData.list (rowI ts cs i)) = L at k1 q
  generalize (lst ts cs).map T = L2 at q
  rw [setS_ap, callP_ap, aCons_ap, asVal_ap, k1]
  simp [q]
theorem b1_2 (k : Kn ks e) (h2 : ks[2]? = some (some (.val (.int p)))) (h4 : ks[4]? = some (some (.val (.int m)))) (h5 : ks[5]? = some (some (.val (TT rs)))) (h20 : ks[20]? = some (some (.val (.list ((lst ts cs).map T))))) (h30 : ks[30]? = some (some .no)) (hp : P4 p) (hm : (rs.length : Int) = m) (hc : Cnt ts cs) :
    setS 11 (argsN (arg1 tupD) (aCons (asVal (compN [30] (itSeq (callP (s__law_coins) (aCons (var 2) aNil))) (tgN 30) (andT (asB (bin2 eqD (argsN (arg1 lenD) (aCons (var 20) aNil)) (var 4))) (asB (bin2 eqD (callP (s__law_hall) (aCons (var 2) (aCons (var 5) (aCons (bin2 ixD (var 30) (cst (.int 0))) (aCons (bin2 ixD (var 30) (cst (.int 1))) aNil))))) (callP (s__law_hall) (aCons (var 2) (aCons (var 20) (aCons (bin2 ixD (var 30) (cst (.int 0))) (aCons (bin2 ixD (var 30) (cst (.int 1))) aNil)))))))) (var 30))) aNil)) e = .nx (e.set 11 (.val (.tuple ((dueC p rs ts cs).map cD)))) := by
  have hsz : ((coins p.toNat).map cD).length ≤ sizeLine := by rw [List.length_map, szl]; have := coins_le hp; omega
  have c0 := lcoins_eq hp
  have k1 := k.cfil (i := 30) (p := fun d => shownI p rs ts cs (unC d)) (it := itSeq (callP (s__law_coins) (aCons (var 2) aNil))) (ts := andT (asB (bin2 eqD (argsN (arg1 lenD) (aCons (var 20) aNil)) (var 4))) (asB (bin2 eqD (callP (s__law_hall) (aCons (var 2) (aCons (var 5) (aCons (bin2 ixD (var 30) (cst (.int 0))) (aCons (bin2 ixD (var 30) (cst (.int 1))) aNil))))) (callP (s__law_hall) (aCons (var 2) (aCons (var 20) (aCons (bin2 ixD (var 30) (cst (.int 0))) (aCons (bin2 ixD (var 30) (cst (.int 1))) aNil)))))))) (ds := (coins p.toNat).map cD) h30 (by
      generalize (coins p.toNat).map cD = L at c0
      simp [k.v h2, c0]) hsz fun d hd e' k' => by
      obtain ⟨c, _, rfl⟩ := List.mem_map.mp hd
      have v2 := k'.v (i := 2) (d := .int p) (by rw [List.getElem?_set_ne (by decide)]; exact h2)
      have v4 := k'.v (i := 4) (d := .int m) (by rw [List.getElem?_set_ne (by decide)]; exact h4)
      have v5 := k'.v (i := 5) (d := TT rs) (by rw [List.getElem?_set_ne (by decide)]; exact h5)
      have v20 := k'.v (i := 20) (d := .list ((lst ts cs).map T)) (by rw [List.getElem?_set_ne (by decide)]; exact h20)
      have v30 := k'.v (i := 30) (d := cD c) (List.getElem?_set_self (List.getElem?_eq_some_iff.mp h30).1)
      have c3 := s__law_hall_eq (p := p) (a := (c.1 : Nat)) (b := (c.2 : Nat)) hp.lt.1 hp.lt.2.1 rs (R := TT rs) rfl
      have c4 := s__law_hall_eq (p := p) (a := (c.1 : Nat)) (b := (c.2 : Nat)) hp.lt.1 hp.lt.2.1 (lst ts cs) (R := .list ((lst ts cs).map T)) rfl
      have i0 := ix0 c
      have i1 := ix1 c
      have ll := lst_len hc.len fun c h => (hc.rg c h).1
      have hL : lenD (.list ((lst ts cs).map T)) = some (.int cs.sum) := by rw [lenD_list, List.length_map, ll]
      rw [unC_cD]
      generalize cD c = C at v30 i0 i1
      generalize TT rs = R at v5 c3
      generalize PyData.list ((lst ts cs).map T) = S at v20 c4 hL
      by_cases q : cs.sum = m
      · have q' : cs.sum = (rs.length : Int) := by omega
        simp [asB, v2, v4, v5, v20, v30, i0, i1, c3, c4, hL, q, shownI, same, hm]
      · have q' : ¬ cs.sum = (rs.length : Int) := by omega
        simp [asB, v2, v4, v5, v20, v30, hL, q, shownI, q', hm]
  rw [filter_cD (shownI p rs ts cs)] at k1
  rw [setS_ap, argsN_ap, aCons_ap, asVal_ap, k1]
  rfl
theorem b1_3 (k : Kn ks e) (h2 : ks[2]? = some (some (.val (.int p)))) (h5 : ks[5]? = some (some (.val (TT rs)))) (h6 : ks[6]? = some (some (.val (.int a)))) (h7 : ks[7]? = some (some (.val (.int b)))) (h11 : ks[11]? = some (some (.val (.tuple ((dueC p rs ts cs).map cD))))) (h14 : ks[14]? = some (some (.val (TT ts)))) (h19 : ks[19]? = some (some (.val (T cs))))
    (hp : P4 p) (hr : Good p w rs) (ht : Good p w ts) (hn : ts.Nodup) (hc : Cnt ts cs) (ha : 0 ≤ a ∧ a < p) (hb : 0 ≤ b ∧ b < p) :
    ifS (asB (bin2 neD (argsN (arg1 reprD) (aCons (asVal (dispL (aCons (callP (s__law_asked) (aCons (cst (.int 7)) (aCons (var 2) (aCons (var 5) (aCons (var 14) (aCons (var 19) (aCons (cst .none) aNil))))))) (aCons (callP (s__law_asked) (aCons (cst (.int 6)) (aCons (var 2) (aCons (var 5) (aCons (var 14) (aCons (var 19) (aCons (dispT (aCons (var 6) (aCons (var 7) aNil))) aNil))))))) aNil)))) aNil)) (argsN (arg1 reprD) (aCons (asVal (dispL (aCons (var 11) (aCons (bin2 inD (dispT (aCons (var 6) (aCons (var 7) aNil))) (var 11)) aNil)))) aNil)))) (retS (cst (.bool false))) nxS e = .nx e := by
  have q0 := ask7 (A5 := .none) (passing_counts_ok hp hr ht hn hc.len hc.rg)
  have q1 := ask6 (shown_by_ok hp hr ht hn hc.len hc.rg ha hb)
  have hcm : (a.toNat, b.toNat) ∈ coins p.toNat := (coins_mem hp).mpr (by omega)
  have q2 := in_due hp (l := dueC p rs ts cs) dueC_sub (dueC_le hp) hcm
  have q3 : decide ((a.toNat, b.toNat) ∈ dueC p rs ts cs) = shownI p rs ts cs (a.toNat, b.toNat) := by
    rw [Bool.eq_iff_iff, decide_eq_true_iff]
    exact ⟨fun h => (List.mem_filter.mp h).2, fun h => List.mem_filter.mpr ⟨hcm, h⟩⟩
  rw [q3, ← cD_in ha hb] at q2
  have nm : Nm 3 80002 (.list [.tuple ((dueC p rs ts cs).map cD), .bool (shownI p rs ts cs (a.toNat, b.toNat))]) := Nm.list (N := 2) (D := 2) (W := 40000) (by
    intro x hx
    simp at hx
    rcases hx with rfl | rfl
    · exact nm_due hp dueC_sub (dueC_le hp)
    · exact (Nm.bool _).mono (by omega) (by omega)) (by simp)
  have r1 := nm.repr (by omega) (by omega)
  have r2 := nm.same
  have v11 := k.v h11
  rw [show (coins p.toNat).filter (shownI p rs ts cs) = dueC p rs ts cs from rfl] at q0
  generalize PyData.bool (shownI p rs ts cs (a.toNat, b.toNat)) = B at q1 q2 r1 r2
  generalize PyData.tuple ((dueC p rs ts cs).map cD) = D at q0 q2 r1 r2 v11
  generalize PyData.shown (.list [D, B]) = S at r1 r2
  have v5 := k.v h5
  have v14 := k.v h14
  have v19 := k.v h19
  generalize TT rs = R at q0 q1 v5
  generalize TT ts = R' at q0 q1 v14
  generalize T cs = R'' at q0 q1 v19
  simp [asB, k.v h2, v5, k.v h6, k.v h7, v14, v19, v11, q0, q1, q2, szl, r1, r2]
theorem b1_4 (k : Kn ks e) (h2 : ks[2]? = some (some (.val (.int p)))) (h3 : ks[3]? = some (some (.val (.int w)))) (h4 : ks[4]? = some (some (.val (.int m)))) (h11 : ks[11]? = some (some (.val (.tuple ((dueC p rs ts cs).map cD))))) (h16 : ks[16]? = some (some (.val (T (cntsI rs ts))))) (h17 : ks[17]? = some (some (.val (.bool (decide (∀ r ∈ rs, r ∈ ts)))))) (h19 : ks[19]? = some (some (.val (T cs))))
    (hp : P4 p) (hm : (rs.length : Int) = m) (hw : 1 ≤ w ∧ w ≤ 3) (hr : Good p w rs) (ht : Good p w ts) (hn : ts.Nodup) (hc : Cnt ts cs) :
    ifS (orT (andT (asT (var 17)) (andT (asB (bin2 eqD (var 19) (var 16))) (asB (bin2 neD (argsN (arg1 lenD) (aCons (var 11) aNil)) (bin2 mulD (var 2) (var 2)))))) (andT (orT (asB (bin2 neD (var 19) (var 16))) (notT (asT (var 17)))) (asB (bin2 gtD (argsN (arg1 lenD) (aCons (var 11) aNil)) (bin2 mulD (bin2 mulD (var 2) (var 4)) (argsN (arg2 max2D) (aCons (cst (.int 1)) (aCons (bin2 subD (var 3) (cst (.int 1))) aNil)))))))) (retS (cst (.bool false))) nxS e = .nx e := by
  obtain ⟨p1, p2, p3, p4⟩ := hp.lt
  have u0 : mulD (.int p) (.int p) = some (.int (p * p)) := mulD_l (by omega) (by omega)
  have u1 : mulD (.int p) (.int m) = some (.int (p * m)) := mulD_l (by omega) (by omega)
  have u2 : ∀ x : Int, mulD (.int (p * m)) (.int x) = some (.int (p * m * x)) := fun x => by
    have := hr.2.1
    rcases hp with rfl | rfl | rfl | rfl <;> exact mulD_l (by omega) (by omega)
  have v11 := k.v h11
  have v16 := k.v h16
  have v17 := k.v h17
  have v19 := k.v h19
  have hcc : Cnt ts (cntsI rs ts) := ⟨cnts_len rs ts, cnts_range hr.2.1⟩
  have q1 := eq_T (nm_cs hc ht.2.1) (nm_cs hcc ht.2.1)
  have q2 := ne_T (nm_cs hc ht.2.1) (nm_cs hcc ht.2.1)
  have hL : lenD (.tuple ((dueC p rs ts cs).map cD)) = some (.int (dueC p rs ts cs).length) := by rw [lenD_tup, List.length_map]
  generalize PyData.tuple ((dueC p rs ts cs).map cD) = D at v11 hL
  by_cases A : ∀ r ∈ rs, r ∈ ts
  · rw [decide_eq_true A] at v17
    by_cases B : cs = cntsI rs ts
    · have hn1 := dueC_all (w := w) hp hn hc A B
      rw [decide_eq_true B] at q1 q2
      rw [hn1] at hL
      generalize T cs = R at *
      generalize T (cntsI rs ts) = R2 at *
      simp [asB, k.v h2, k.v h3, k.v h4, v11, v16, v17, v19, hL, u0, q1, q2]
    · have hn1 := dueC_few hp hw hn hr ht hc (fun z => B z.2)
      rw [hm] at hn1
      rw [decide_eq_false B] at q1 q2
      have hn2 : ¬ p * m * (if w - 1 > 1 then w - 1 else 1) < ((dueC p rs ts cs).length : Int) := by unfold mostI at hn1; omega
      generalize T cs = R at *
      generalize T (cntsI rs ts) = R2 at *
      generalize ((dueC p rs ts cs).length : Int) = N at *
      have hn3 : N ≤ p * m * (if 1 < w - 1 then w - 1 else 1) := Int.not_lt.mp hn2
      simp [asB, k.v h2, k.v h3, k.v h4, v11, v16, v17, v19, hL, u1, u2, q1, q2, hn3]
  · rw [decide_eq_false A] at v17
    have hn1 := dueC_few hp hw hn hr ht hc (fun z => A z.1)
    rw [hm] at hn1
    have hn2 : ¬ p * m * (if w - 1 > 1 then w - 1 else 1) < ((dueC p rs ts cs).length : Int) := by unfold mostI at hn1; omega
    generalize decide (cs = cntsI rs ts) = B at q1 q2
    generalize T cs = R at *
    generalize T (cntsI rs ts) = R2 at *
    generalize ((dueC p rs ts cs).length : Int) = N at *
    have hn3 : N ≤ p * m * (if 1 < w - 1 then w - 1 else 1) := Int.not_lt.mp hn2
    cases B <;> simp [asB, k.v h2, k.v h3, k.v h4, v11, v16, v17, v19, hL, u1, u2, q1, q2, hn3]
end
end PP.B52
set_option maxRecDepth 100000
namespace PP.B52
open PySem PySem.Spec PyProof.Rows L2 PP PP.SZ
theorem addTT1 {r s : List Int} (h : r.length + s.length ≤ 1000) : addD (T r) (T s) = some (T (r ++ s)) := by
  have := addD_tup (xs := r.map .int) (ys := s.map .int) (by rw [List.length_map, List.length_map, szl]; omega)
  rw [← List.map_append] at this
  exact this
theorem repT1 {x n : Int} (h0 : 0 ≤ n) (h : n ≤ 1000) : mulD (.tuple [.int x]) (.int n) = some (T (List.replicate n.toNat x)) := by
  show repTD (.tuple [.int x]) (.int n) = _
  unfold repTD
  dsimp only
  rw [if_pos ⟨by omega, by omega, by rw [List.length_singleton]; omega⟩, List.flatten_replicate_singleton]
  unfold T
  rw [List.map_replicate]
theorem revT (r : List Int) : revTD (T r) = some (T r.reverse) := by
  show some (PyData.tuple (r.map .int).reverse) = _
  rw [← List.map_reverse]
  rfl
theorem five_items {e : Sls} {R R1 R2 R3 R4 R5 R6 : PyData} {m n : Int} (v4 : var 4 e = .ok (.val (.int m)) e) (v14 : var 14 e = .ok (.val R) e) (v16 : var 16 e = .ok (.val R1) e) (v18 : var 18 e = .ok (.val R2) e) (hL : lenD R = some (.int n)) (q1 : revTD R1 = some R3) (q2 : mulD (.tuple [.int 0]) (.int n) = some R4) (q3 : mulD (.tuple [.int 0]) (.int (n - 1)) = some R6) (q4 : addD (.tuple [.int m]) R6 = some R5) :
    itSeq (asVal (dispL (aCons (var 16) (aCons (var 18) (aCons (un1 revTD (var 16)) (aCons (bin2 mulD (dispT (aCons (cst (.int 0)) aNil)) (argsN (arg1 lenD) (aCons (var 14) aNil))) (aCons (bin2 addD (dispT (aCons (var 4) aNil)) (bin2 mulD (dispT (aCons (cst (.int 0)) aNil)) (bin2 subD (argsN (arg1 lenD) (aCons (var 14) aNil)) (cst (.int 1))))) aNil))))))) e = .ok [R1, R2, R3, R4, R5] e := by
  simp [v4, v14, v16, v18, hL, q1, q2, q3, q4, szl]
section
variable {D : List PyData} {p w m a b : Int} {rs cg dr ts : List (List Int)} {cs wr : List Int} {e : Sls}
theorem b1_ok (P : Par p w m a b rs cg dr) (ht : Good p w ts) (hn : ts.Nodup) (hc : Cnt ts cs)
    (k : Kn ((KT D p w m a b rs (some (.val (TT ts))) (some (.val (T (cntsI rs ts)))) (some (.val (.bool (decide (∀ r ∈ rs, r ∈ ts))))) (some (.val (T wr)))).set 19 (some (.val (T cs)))) e) :
    ∃ e', d_law_b1 e = .nx e' ∧ Kn (KT D p w m a b rs (some (.val (TT ts))) (some (.val (T (cntsI rs ts)))) (some (.val (.bool (decide (∀ r ∈ rs, r ∈ ts))))) (some (.val (T wr)))) e' := by
  have gr := good_of P.hw (by have := P.hm; omega) P.lr P.rr
  have t1 := b1_1 k (ts := ts) (cs := cs) rfl rfl rfl ht.2.1 hc
  have k1 := k.set (i := 20) (.val (.list ((lst ts cs).map T)))
  have t2 := b1_2 k1 (p := p) (m := m) (rs := rs) (ts := ts) (cs := cs) rfl rfl rfl rfl rfl P.hp P.lr hc
  have k2 := k1.set (i := 11) (.val (.tuple ((dueC p rs ts cs).map cD)))
  have t3 := b1_3 k2 (p := p) (w := w) (a := a) (b := b) (rs := rs) (ts := ts) (cs := cs) rfl rfl rfl rfl rfl rfl rfl P.hp gr ht hn hc P.ha P.hb
  have t4 := b1_4 k2 (p := p) (w := w) (m := m) (rs := rs) (ts := ts) (cs := cs) rfl rfl rfl rfl rfl rfl rfl P.hp P.lr P.hw gr ht hn hc
  exact ⟨_, seqS_of t1 (seqS_of t2 (seqS_of t3 t4)), ((k2.forget 19).forget 20).forget 11⟩
theorem s16_ok (P : Par p w m a b rs cg dr) (ht : Good p w ts) (hn : ts.Nodup) (hw1 : wr.length = ts.length) (hw2 : ∀ x ∈ wr, 0 ≤ x ∧ x < 3)
    (k : Kn (KT D p w m a b rs (some (.val (TT ts))) (some (.val (T (cntsI rs ts)))) (some (.val (.bool (decide (∀ r ∈ rs, r ∈ ts))))) (some (.val (T wr)))) e) :
    ∃ e', d_law_s16 e = .nx e' ∧ Kn (KT D p w m a b rs (some (.val (TT ts))) (some (.val (T (cntsI rs ts)))) (some (.val (.bool (decide (∀ r ∈ rs, r ∈ ts))))) (some (.val (T wr)))) e' := by
  have gr := good_of P.hw (by have := P.hm; omega) P.lr P.rr
  have hm := P.hm
  have h1 := ht.1
  have h2 := ht.2.1
  have v4 := k.v (i := 4) (d := .int m) rfl
  have v14 := k.v (i := 14) (d := TT ts) rfl
  have v16 := k.v (i := 16) (d := T (cntsI rs ts)) rfl
  have v18 := k.v (i := 18) (d := T wr) rfl
  have hL := lenTT ts
  have q1 := revT (cntsI rs ts)
  have q2 := repT1 (x := 0) (n := ts.length) (by omega) (by omega)
  have q3 := repT1 (x := 0) (n := (ts.length : Int) - 1) (by omega) (by omega)
  have q4 := addTT1 (r := [m]) (s := List.replicate ((ts.length : Int) - 1).toNat 0) (by rw [List.length_replicate, List.length_singleton]; omega)
  have it : itSeq (asVal (dispL (aCons (var 16) (aCons (var 18) (aCons (un1 revTD (var 16)) (aCons (bin2 mulD (dispT (aCons (cst (.int 0)) aNil)) (argsN (arg1 lenD) (aCons (var 14) aNil))) (aCons (bin2 addD (dispT (aCons (var 4) aNil)) (bin2 mulD (dispT (aCons (cst (.int 0)) aNil)) (bin2 subD (argsN (arg1 lenD) (aCons (var 14) aNil)) (cst (.int 1))))) aNil))))))) e
      = .ok [T (cntsI rs ts), T wr, T (cntsI rs ts).reverse, T (List.replicate ((ts.length : Nat) : Int).toNat 0), T ([m] ++ List.replicate ((ts.length : Int) - 1).toNat 0)] e := five_items v4 v14 v16 v18 hL q1 q2 q3 q4
  obtain ⟨e', f1, f2⟩ := forD_ex (t := tgN 19) (g := d_law_b1) (Inv := fun e' => Kn (KT D p w m a b rs (some (.val (TT ts))) (some (.val (T (cntsI rs ts)))) (some (.val (.bool (decide (∀ r ∈ rs, r ∈ ts))))) (some (.val (T wr)))) e') (ds := [T (cntsI rs ts), T wr, T (cntsI rs ts).reverse, T (List.replicate ((ts.length : Nat) : Int).toNat 0), T ([m] ++ List.replicate ((ts.length : Int) - 1).toNat 0)]) (e := e) k fun d hd e' k' => by
    have fin : ∀ cs, Cnt ts cs → ∃ e1 e2, tgN 19 (T cs) e' = some e1 ∧ d_law_b1 e1 = .nx e2 ∧ Kn (KT D p w m a b rs (some (.val (TT ts))) (some (.val (T (cntsI rs ts)))) (some (.val (.bool (decide (∀ r ∈ rs, r ∈ ts))))) (some (.val (T wr)))) e2 := fun cs hc => by
      obtain ⟨e2, h3, h4⟩ := b1_ok P ht hn hc (k'.set (i := 19) (.val (T cs)))
      exact ⟨_, e2, rfl, h3, h4⟩
    have hcc := cnts_range (rs := rs) (ts := ts) gr.2.1
    simp only [List.mem_cons, List.not_mem_nil, or_false] at hd
    rcases hd with rfl | rfl | rfl | rfl | rfl
    · exact fin _ ⟨cnts_len rs ts, hcc⟩
    · exact fin _ ⟨hw1, fun c h => by have := hw2 c h; omega⟩
    · exact fin _ ⟨by rw [List.length_reverse, cnts_len], fun c h => hcc c (List.mem_reverse.mp h)⟩
    · exact fin _ ⟨by rw [List.length_replicate, Int.toNat_natCast], fun c h => by have := (List.mem_replicate.mp h).2; omega⟩
    · exact fin _ ⟨by rw [List.length_append, List.length_replicate, List.length_singleton]; omega, fun c h => by
        rcases List.mem_append.mp h with h | h
        · simp only [List.mem_singleton] at h; omega
        · have := (List.mem_replicate.mp h).2; omega⟩
  exact ⟨e', forS_of it f1, f2⟩
end
def kn1 : PyData := .tuple [cD (0, 3), cD (1, 3), cD (2, 3), cD (3, 3), cD (4, 3)]
def kn2 : PyData := .tuple ((coins 5).map cD)
theorem known1 : s_passing [.int 5, TT [[1], [2]], TT [[0], [4]]] = .ok kn1 := by
  have h := passing_ok (p := 5) (w := 1) (.inr (.inl rfl)) (rs := [[1], [2]]) (ss := [[0], [4]]) ⟨by decide, by decide, by decide, by decide, by decide⟩ ⟨by decide, by decide, by decide, by decide, by decide⟩ rfl
  have e : due 5 [[1], [2]] [[0], [4]] = [(0, 3), (1, 3), (2, 3), (3, 3), (4, 3)] := by decide +kernel
  rw [e] at h
  exact h
theorem known2 : s_passing [.int 5, TT [[1], [2]], TT [[2], [1]]] = .ok kn2 := by
  have h := passing_ok (p := 5) (w := 1) (.inr (.inl rfl)) (rs := [[1], [2]]) (ss := [[2], [1]]) ⟨by decide, by decide, by decide, by decide, by decide⟩ ⟨by decide, by decide, by decide, by decide, by decide⟩ rfl
  have e : due 5 [[1], [2]] [[2], [1]] = coins 5 := by decide +kernel
  rw [e] at h
  exact h
def knG : PyData → PyData
  | .tuple (.tuple (.int 0 :: _) :: _) => kn1
  | _ => kn2
theorem kn_ne : neD (.list [kn1, kn2]) (.list [kn1, kn2]) = some (.bool false) := by kernel_rfl
section
variable {ks : List (Option Sl)} {e : Sls}
theorem s17_ok : d_law_s17 e = .nx (e.set 21 (.val (TT [[1], [2]]))) := by
  have : d_law_s17 e = .nx (e.set 21 (.val (.tuple [.tuple [.int 1], .tuple [.int 2]]))) := by simp [d_law_s17, szl]
  exact this
theorem s18_ok (k : Kn ks e) (h21 : ks[21]? = some (some (.val (TT [[1], [2]])))) (h25 : ks[25]? = some (some .no)) : d_law_s18 e = .nx e := by
  have k1 := k.cmap (i := 25) (g := knG) (it := itSeq (asVal (dispL (aCons (dispT (aCons (dispT (aCons (cst (.int 0)) aNil)) (aCons (dispT (aCons (cst (.int 4)) aNil)) aNil))) (aCons (dispT (aCons (dispT (aCons (cst (.int 2)) aNil)) (aCons (dispT (aCons (cst (.int 1)) aNil)) aNil))) aNil))))) (el := callP (s_passing) (aCons (cst (.int 5)) (aCons (var 21) (aCons (var 25) aNil)))) (ds := [TT [[0], [4]], TT [[2], [1]]]) h25 (by
      have : itSeq (asVal (dispL (aCons (dispT (aCons (dispT (aCons (cst (.int 0)) aNil)) (aCons (dispT (aCons (cst (.int 4)) aNil)) aNil))) (aCons (dispT (aCons (dispT (aCons (cst (.int 2)) aNil)) (aCons (dispT (aCons (cst (.int 1)) aNil)) aNil))) aNil)))) e = .ok [.tuple [.tuple [.int 0], .tuple [.int 4]], .tuple [.tuple [.int 2], .tuple [.int 1]]] e := by simp [szl]
      exact this) (by rw [szl]; simp) fun d hd e' k' => by
    have v21 := k'.v (i := 21) (d := TT [[1], [2]]) (by rw [List.getElem?_set_ne (by decide)]; exact h21)
    have v25 := k'.v (i := 25) (d := d) (List.getElem?_set_self (List.getElem?_eq_some_iff.mp h25).1)
    have q1 := known1
    have q2 := known2
    simp only [List.mem_cons, List.not_mem_nil, or_false] at hd
    rcases hd with rfl | rfl
    · show _ = Out.ok (SV.val kn1) e'
      generalize TT [[1], [2]] = R at *
      generalize TT [[0], [4]] = R2 at *
      simp [v21, v25, q1]
    · show _ = Out.ok (SV.val kn2) e'
      generalize TT [[1], [2]] = R at *
      generalize TT [[2], [1]] = R2 at *
      simp [v21, v25, q2]
  have c5 := lcoins5
  have q := kn_ne
  have e1 : ([TT [[0], [4]], TT [[2], [1]]]).map knG = [kn1, kn2] := rfl
  rw [e1] at k1
  have y2 : (asVal (dispL (aCons (dispT (aCons (dispT (aCons (cst (.int 0)) (aCons (cst (.int 3)) aNil))) (aCons (dispT (aCons (cst (.int 1)) (aCons (cst (.int 3)) aNil))) (aCons (dispT (aCons (cst (.int 2)) (aCons (cst (.int 3)) aNil))) (aCons (dispT (aCons (cst (.int 3)) (aCons (cst (.int 3)) aNil))) (aCons (dispT (aCons (cst (.int 4)) (aCons (cst (.int 3)) aNil))) aNil)))))) (aCons (argsN (arg1 tupD) (aCons (callP (s__law_coins) (aCons (cst (.int 5)) aNil)) aNil)) aNil)))) e = .ok (.val (.list [kn1, kn2])) e := by
    have hk : kn1 = .tuple [.tuple [.int 0, .int 3], .tuple [.int 1, .int 3], .tuple [.int 2, .int 3], .tuple [.int 3, .int 3], .tuple [.int 4, .int 3]] := rfl
    rw [hk]
    unfold kn2
    generalize (coins 5).map cD = L at c5
    simp [szl, c5]
  unfold d_law_s18
  rw [ifS_ap]
  have hb : asB (bin2 neD (asVal (compN [25] (itSeq (asVal (dispL (aCons (dispT (aCons (dispT (aCons (cst (.int 0)) aNil)) (aCons (dispT (aCons (cst (.int 4)) aNil)) aNil))) (aCons (dispT (aCons (dispT (aCons (cst (.int 2)) aNil)) (aCons (dispT (aCons (cst (.int 1)) aNil)) aNil))) aNil))))) (tgN 25) yesT (callP (s_passing) (aCons (cst (.int 5)) (aCons (var 21) (aCons (var 25) aNil)))))) (asVal (dispL (aCons (dispT (aCons (dispT (aCons (cst (.int 0)) (aCons (cst (.int 3)) aNil))) (aCons (dispT (aCons (cst (.int 1)) (aCons (cst (.int 3)) aNil))) (aCons (dispT (aCons (cst (.int 2)) (aCons (cst (.int 3)) aNil))) (aCons (dispT (aCons (cst (.int 3)) (aCons (cst (.int 3)) aNil))) (aCons (dispT (aCons (cst (.int 4)) (aCons (cst (.int 3)) aNil))) aNil)))))) (aCons (argsN (arg1 tupD) (aCons (callP (s__law_coins) (aCons (cst (.int 5)) aNil)) aNil)) aNil))))) e = .ok false e := by
    unfold asB
    rw [bin2_ap, asVal_ap, k1, bind_ok, bind_ok, y2, bind_ok]
    show ((Out.of (neD (PyData.list [kn1, kn2]) (PyData.list [kn1, kn2])) e).bind fun d e3 => Out.ok (SV.val d) e3).bind _ = _
    rw [q]
    rfl
  rw [hb]
  rfl
end
end PP.B52
set_option maxRecDepth 100000
namespace PP.B52
open PySem PySem.Spec PyProof.Rows L2 PP PP.SZ
section
variable {q R A B C x y : PyData}
theorem two_bad (h : s_check_rows [q, R, .int 0] = .err badN) : s_check_two [q, R, A] = .err badN := by
  have e0 : envA 3 [q, R, A] = [.val q, .val R, .val A] := rfl
  unfold s_check_two runP d_check_two
  rw [e0]
  simp [var, Out.bind, h]
theorem table_bad (h : s_check_rows [q, R, .int 0] = .err badN) : s_check_table [q, R, A] = .err badN := by
  have e0 : envA 4 [q, R, A] = [.val q, .val R, .val A, .no] := rfl
  unfold s_check_table runP d_check_table
  rw [e0]
  simp [var, Out.bind, h]
theorem counts_bad (h : s_check_table [q, R, A] = .err badN) : s_check_counts [q, R, A, B] = .err badN := by
  have e0 : envA 5 [q, R, A, B] = [.val q, .val R, .val A, .val B, .no] := rfl
  unfold s_check_counts runP d_check_counts
  rw [e0]
  simp [var, Out.bind, h]
theorem hall_bad (h : s_check_rows [q, R, .int 0] = .err badN) : s_hall [q, R, x, y] = .err badN := by
  have e0 : envA 4 [q, R, x, y] = [.val q, .val R, .val x, .val y] := rfl
  unfold s_hall runP d_hall
  rw [e0]
  simp [var, Out.bind, h]
theorem same_hall_bad (h : s_check_two [q, R, A] = .err badN) : s_same_hall [q, R, A, x, y] = .err badN := by
  have e0 : envA 5 [q, R, A, x, y] = [.val q, .val R, .val A, .val x, .val y] := rfl
  unfold s_same_hall runP d_same_hall
  rw [e0]
  simp [var, Out.bind, h]
theorem passing_bad (h : s_check_two [q, R, A] = .err badN) : s_passing [q, R, A] = .err badN := by
  have e0 : envA 5 [q, R, A] = [.val q, .val R, .val A, .no, .no] := rfl
  unfold s_passing runP d_passing
  rw [e0]
  simp [var, Out.bind, h]
theorem counts_in_bad (h : s_check_table [q, R, A] = .err badN) : s_counts_in [q, R, A] = .err badN := by
  have e0 : envA 6 [q, R, A] = [.val q, .val R, .val A, .no, .no, .no] := rfl
  unfold s_counts_in runP d_counts_in
  rw [e0]
  simp [var, Out.bind, h]
theorem shown_by_bad (h : s_check_counts [q, R, A, B] = .err badN) : s_shown_by [q, R, A, B, x, y] = .err badN := by
  have e0 : envA 6 [q, R, A, B, x, y] = [.val q, .val R, .val A, .val B, .val x, .val y] := rfl
  unfold s_shown_by runP d_shown_by
  rw [e0]
  simp [var, Out.bind, h]
theorem passing_counts_bad (h : s_check_counts [q, R, A, B] = .err badN) : s_passing_counts [q, R, A, B] = .err badN := by
  have e0 : envA 5 [q, R, A, B] = [.val q, .val R, .val A, .val B, .no] := rfl
  unfold s_passing_counts runP d_passing_counts
  rw [e0]
  simp [var, Out.bind, h]
theorem fp_bad (h : s_check_rows [q, .tuple [R], .int 0] = .err badN) : s_fingerprint [q, R, x] = .err badN := by
  have e0 : envA 3 [q, R, x] = [.val q, .val R, .val x] := rfl
  unfold s_fingerprint runP d_fingerprint
  rw [e0]
  simp [var, Out.bind, h, szl]
theorem fp_coin (h : s_check_rows [q, .tuple [R], .int 0] = .ok .none) (h2 : s_check_coins [q, .tuple [x]] = .err badN) : s_fingerprint [q, R, x] = .err badN := by
  have e0 : envA 3 [q, R, x] = [.val q, .val R, .val x] := rfl
  unfold s_fingerprint runP d_fingerprint
  rw [e0]
  simp [var, Out.bind, h, h2, szl]
theorem hall_coin (h : s_check_rows [q, R, .int 0] = .ok .none) (h2 : s_check_coins [q, .tuple [x, y]] = .err badN) : s_hall [q, R, x, y] = .err badN := by
  have e0 : envA 4 [q, R, x, y] = [.val q, .val R, .val x, .val y] := rfl
  unfold s_hall runP d_hall
  rw [e0]
  simp [var, Out.bind, h, h2, szl]
theorem shown_by_coin (h : s_check_counts [q, R, A, B] = .ok .none) (h2 : s_check_coins [q, .tuple [x, y]] = .err badN) : s_shown_by [q, R, A, B, x, y] = .err badN := by
  have e0 : envA 6 [q, R, A, B, x, y] = [.val q, .val R, .val A, .val B, .val x, .val y] := rfl
  unfold s_shown_by runP d_shown_by
  rw [e0]
  simp [var, Out.bind, h, h2, szl]
end
theorem two_len {p w : Int} (hp : P4 p) {rs ss : List (List Int)} (h : Good p w rs) (h' : Good p w ss) (hl : rs.length ≠ ss.length) : s_check_two [.int p, TT rs, TT ss] = .err badN := by
  have e0 : envA 3 [.int p, TT rs, TT ss] = [.val (.int p), .val (TT rs), .val (TT ss)] := rfl
  have c1 := check_rows_0 hp h
  have c2 := check_rows_w hp h'
  have hx := ixTT0 h.1
  have hh : lenD (T (rs.headD [])) = some (.int w) := by rw [lenT, h.head]
  generalize rs.headD [] = r0 at hx hh
  have hl' : ¬ (rs.length : Int) = ss.length := by omega
  unfold s_check_two runP d_check_two
  rw [e0]
  simp only [seqS_ap, dropS_ap, callP_ap, aCons_ap, aNil_ap, var, cst_ap, Out.bind, frzL_val, frzL_nil, List.getElem?_cons_zero, List.getElem?_cons_succ, c1, c2, rsout_ok, toS_ok, argsN_ap, bin2_ap, rd_val, hx, of_some, List.map_cons, List.map_nil, arg1_ap, hh, ifS_ap, asB, lenTT, neD_int, decide_eq_false hl']
  rfl
theorem table_twice {p w : Int} (hp : P4 p) {rs ts : List (List Int)} (h : Good p w rs) (h' : Good p w ts) (hl : ts.length ≤ 11) : s_check_table [.int p, TT rs, TT (ts ++ ts.take 1)] = .err badN := by
  obtain ⟨h1, h2, h3, h4, h5⟩ := h'
  match ts, h1, h2, h5, hl with
  | t :: ts, _, h2, h5, hl =>
    have hl : ts.length + 1 ≤ 11 := hl
    show s_check_table [.int p, TT rs, TT ((t :: ts) ++ [t])] = .err badN
    have g : Good p w ((t :: ts) ++ [t]) := ⟨by simp, by rw [List.length_append, List.length_cons, List.length_singleton]; omega, h3, h4, fun r hr => by
      rcases List.mem_append.mp hr with hr | hr
      · exact h5 r hr
      · simp only [List.mem_singleton] at hr
        exact hr ▸ h5 t List.mem_cons_self⟩
    rw [check_table_eq hp h g, if_neg]
    have e : dd ((t :: ts) ++ [t]) = dd (t :: ts) := by
      unfold dd
      rw [List.foldl_append]
      show addK (List.foldl addK [] (t :: ts)) t = _
      unfold addK
      rw [if_pos]
      exact dd_mem.mpr List.mem_cons_self
    rw [e]
    have := dd_len (t :: ts)
    rw [List.length_append, List.length_singleton]
    omega
theorem cnt_bad {p w : Int} (hp : P4 p) {rs ts : List (List Int)} (h : Good p w rs) (h' : Good p w ts) (hn : ts.Nodup) {cs : List Int} (hs : cs.length ≤ 100) (hc : cs.length ≠ ts.length ∨ ∃ c ∈ cs, ¬ (0 ≤ c ∧ c ≤ 12)) : s_check_counts [.int p, TT rs, TT ts, T cs] = .err badN := by
  have e0 : envA 5 [.int p, TT rs, TT ts, T cs] = [.val (.int p), .val (TT rs), .val (TT ts), .val (T cs), .no] := rfl
  have c1 := check_table_ok hp h h' hn
  have hs' : seqD (T cs) = some (cs.map .int) := rfl
  have inj : ∀ n : Int, (match PyData.int n with | .int n => decide (0 ≤ n ∧ n ≤ 12) | _ => false) = decide (0 ≤ n ∧ n ≤ 12) := fun _ => rfl
  have hcc : compN [4] (itSeq (var 3)) (tgN 4) yesT (chain leD leD (cst (.int 0)) (var 4) (cst (.int 12))) [.val (.int p), .val (TT rs), .val (TT ts), .val (T cs), .no] = .ok ((cs.map PyData.int).map fun d => .bool (match d with | .int n => decide (0 ≤ n ∧ n ≤ 12) | _ => false)) [.val (.int p), .val (TT rs), .val (TT ts), .val (T cs), .no] := by
    refine compN_map (by simp [var, Out.bind, hs']) (by simp) rfl (by rw [List.length_map, szl]; omega) fun d hd => ?_
    obtain ⟨n, hn, rfl⟩ := List.mem_map.mp hd
    by_cases q1 : 0 ≤ n <;> by_cases q2 : n ≤ 12 <;> simp [var, Out.bind, q1, q2]
  have hA : allD (.list ((cs.map PyData.int).map fun d => .bool (match d with | .int n => decide (0 ≤ n ∧ n ≤ 12) | _ => false))) = some (.bool (cs.all fun n => decide (0 ≤ n ∧ n ≤ 12))) := by
    have e : ((cs.map PyData.int).map fun d => PyData.bool (match d with | .int n => decide (0 ≤ n ∧ n ≤ 12) | _ => false)) = (cs.map fun n => decide (0 ≤ n ∧ n ≤ 12)).map .bool := by rw [List.map_map, List.map_map]; rfl
    show (truIs _).map _ = _
    rw [e, truIs_bool, Option.map_some, List.all_map]
    rfl
  generalize ((cs.map PyData.int).map fun d => PyData.bool (match d with | .int n => decide (0 ≤ n ∧ n ≤ 12) | _ => false)) = L at hcc hA
  unfold s_check_counts runP d_check_counts
  rw [e0]
  by_cases q : cs.length = ts.length
  · have hf : (cs.all fun n => decide (0 ≤ n ∧ n ≤ 12)) = false := by
      rcases hc with hc | ⟨c, h1, h2⟩
      · exact absurd q hc
      · rw [Bool.eq_false_iff]
        intro z
        rw [List.all_eq_true] at z
        exact h2 (of_decide_eq_true (z c h1))
    rw [hf] at hA
    simp [asB, var, Out.bind, c1, lenT, lenTT, q, hcc, hA, badN]
  · have q' : ¬ (cs.length : Int) = ts.length := by omega
    simp [asB, var, Out.bind, c1, lenT, lenTT, q, q', badN]
theorem rows_4 (R : PyData) : s_check_rows [.int 4, R, .int 0] = .err badN := by
  have e0 : envA 5 [.int 4, R, .int 0] = [.val (.int 4), .val R, .val (.int 0), .no, .no] := rfl
  unfold s_check_rows runP d_check_rows
  rw [e0]
  simp [asB, var, Out.bind, isp4, badN]
theorem rows_97 (R : PyData) : s_check_rows [.int 97, R, .int 0] = .err badN := by
  have e0 : envA 5 [.int 97, R, .int 0] = [.val (.int 97), .val R, .val (.int 0), .no, .no] := rfl
  unfold s_check_rows runP d_check_rows
  rw [e0]
  simp [asB, var, Out.bind, badN]
theorem rows_len {p : Int} (hp : P4 p) {rs : List (List Int)} (hl : rs.length ≤ 1000) (hr : ∀ r ∈ rs, r.length ≤ 1000) (h : ¬ (1 ≤ rs.length ∧ rs.length ≤ 12)) : s_check_rows [.int p, TT rs, .int 0] = .err badN := by
  rw [s_check_rows_eq hp hl hr, if_neg h]
theorem rows_bad {p : Int} (hp : P4 p) {rs : List (List Int)} (hl : rs.length ≤ 12) (hr : ∀ r ∈ rs, r.length ≤ 1000) (h : rowsOk p (rs.headD []).length rs = false) : s_check_rows [.int p, TT rs, .int 0] = .err badN := by
  rw [s_check_rows_eq hp (by omega) hr]
  split
  · rw [if_pos rfl, h]
    rfl
  · rfl
theorem most_bad {q n w : Int} (h : (P4 q ∧ ¬ ((1 ≤ n ∧ n ≤ 12) ∧ (1 ≤ w ∧ w ≤ 6))) ∨ q = 4) : s_most_passing [.int q, .int n, .int w] = .err badN := by
  have e0 : envA 3 [.int q, .int n, .int w] = [.val (.int q), .val (.int n), .val (.int w)] := rfl
  unfold s_most_passing runP d_most_passing
  rw [e0]
  rcases h with ⟨hp, h⟩ | rfl
  · obtain ⟨p1, p2, p3, p4⟩ := hp.lt
    by_cases a1 : 1 ≤ n
    · by_cases a2 : n ≤ 12
      · by_cases b1 : 1 ≤ w
        · by_cases b2 : w ≤ 6
          · exact absurd ⟨⟨a1, a2⟩, b1, b2⟩ h
          · simp [asB, var, Out.bind, p3, p4, hp.isp, a1, a2, b1, b2, badN]
        · simp [asB, var, Out.bind, p3, p4, hp.isp, a1, a2, b1, badN]
      · simp [asB, var, Out.bind, p3, p4, hp.isp, a1, a2, badN]
    · simp [asB, var, Out.bind, p3, p4, hp.isp, a1, badN]
  · simp [asB, var, Out.bind, isp4, badN]
end PP.B52
set_option maxRecDepth 100000
namespace PP.B52
open PySem PySem.Spec PyProof.Rows L2 PP PP.SZ
def nums (n : Nat) : PyData := .list (List.replicate n num)
theorem cat_num {a b : Nat} (h : a + b ≤ 1000) : catD (nums a) (nums b) = some (List.replicate (a + b) num) := by
  have := catD_list (xs := List.replicate a num) (ys := List.replicate b num) (by rw [List.length_replicate, List.length_replicate, szl]; omega)
  rw [List.replicate_append_replicate] at this
  exact this
theorem map_num (L : List PyData) (n : Nat) (h : L.length = n) : L.map (fun _ => num) = List.replicate n num := by rw [List.map_const', h]
theorem flat_num (L : List PyData) (n m : Nat) (h : L.length = n) (hm : n * m ≤ 1000) : s__law_flat [.list (L.map fun _ => nums m)] = .ok (nums (n * m)) := by
  have e : (L.map fun _ => List.replicate m num).flatten = List.replicate (n * m) num := by rw [List.map_const', List.flatten_replicate_replicate, h]
  have := flat52 (paired_lists (fun _ => List.replicate m num) L) (by rw [e, List.length_replicate]; omega)
  rw [e] at this
  exact this
section
variable {ks : List (Option Sl)} {e : Sls} {p w m : Int}
def L9 (p : Int) (R R13 R7 Rw : PyData) : List PyData :=
  [.tuple [.int 4, R], .tuple [.int 97, R], .tuple [.int p, .tuple []], .tuple [.int p, R13], .tuple [.int p, .tuple [.tuple []]], .tuple [.int p, .tuple [R7]], .tuple [.int p, .tuple [Rw]], .tuple [.int p, .tuple [.tuple [.int 0], .tuple [.int 0, .int 0]]], .tuple [.int p, .tuple [.tuple [.int (-1)]]]]
theorem s19_ok {R R13 R7 Rw : PyData} (v2 : var 2 e = .ok (.val (.int p)) e) (v3 : var 3 e = .ok (.val (.int w)) e) (v5 : var 5 e = .ok (.val R) e) (m13 : mulD R (.int 13) = some R13) (m7 : mulD (.tuple [.int 0]) (.int 7) = some R7) (mw : mulD (.tuple [.int p]) (.int w) = some Rw) :
    d_law_s19 e = .nx (e.set 22 (.val (.list (L9 p R R13 R7 Rw)))) := by
  simp [d_law_s19, v2, v3, v5, m13, m7, mw, szl, L9]
def Bad (d : PyData) : Prop := ∃ q R, d = .tuple [q, R] ∧ s_check_rows [q, R, .int 0] = .err badN
theorem repTT {rs : List (List Int)} (hl : rs.length ≤ 12) : mulD (TT rs) (.int 13) = some (TT (List.replicate 13 rs).flatten) := by
  show repTD (.tuple (rs.map T)) (.int 13) = _
  unfold repTD
  dsimp only
  rw [if_pos ⟨by omega, by omega, by rw [List.length_map, show (13 : Int).toNat = 13 from rfl]; omega⟩]
  unfold TT
  rw [List.map_flatten, List.map_replicate]
  rfl
theorem bad9 (hp : P4 p) (hw : 1 ≤ w ∧ w ≤ 3) {rs : List (List Int)} (hr : Good p w rs) : ∀ d ∈ L9 p (TT rs) (TT (List.replicate 13 rs).flatten) (T (List.replicate (7 : Int).toNat 0)) (T (List.replicate w.toNat p)), Bad d := by
  have b1 := rows_len hp (rs := []) (by simp) (by simp) (by simp)
  have hl13 : (List.replicate 13 rs).flatten.length = 13 * rs.length := by simp; omega
  have b2 := rows_len hp (rs := (List.replicate 13 rs).flatten) (by have := hr.2.1; omega) (by
    intro r h
    obtain ⟨l, h1, h2⟩ := List.mem_flatten.mp h
    exact hr.small.2 r ((List.mem_replicate.mp h1).2 ▸ h2)) (by have := hr.1; omega)
  have b3 := rows_bad hp (rs := [[]]) (by simp) (by simp) (by simp [rowsOk])
  have b4 := rows_bad hp (rs := [List.replicate (7 : Int).toNat 0]) (by simp) (by simp) (by simp [rowsOk])
  have b5 := rows_bad hp (rs := [List.replicate w.toNat p]) (by simp) (by simp; omega) (by
    unfold rowsOk
    rw [Bool.and_eq_false_iff]
    right
    rw [Bool.eq_false_iff]
    intro z
    rw [List.all_eq_true] at z
    have z1 := z _ List.mem_cons_self
    unfold okN at z1
    rw [Bool.and_eq_true, List.all_eq_true] at z1
    have z2 := of_decide_eq_true (z1.2 p (List.mem_replicate.mpr ⟨by omega, rfl⟩))
    omega)
  have b6 := rows_bad hp (rs := [[0], [0, 0]]) (by simp) (by simp) (by simp [rowsOk, okN])
  have b7 := rows_bad hp (rs := [[-1]]) (by simp) (by simp) (by simp [rowsOk, okN])
  intro d hd
  unfold L9 at hd
  simp only [List.mem_cons, List.not_mem_nil, or_false] at hd
  rcases hd with rfl | rfl | rfl | rfl | rfl | rfl | rfl | rfl | rfl
  · exact ⟨_, _, rfl, rows_4 _⟩
  · exact ⟨_, _, rfl, rows_97 _⟩
  · exact ⟨_, _, rfl, b1⟩
  · exact ⟨_, _, rfl, b2⟩
  · exact ⟨_, _, rfl, b3⟩
  · exact ⟨_, _, rfl, b4⟩
  · exact ⟨_, _, rfl, b5⟩
  · exact ⟨_, _, rfl, b6⟩
  · exact ⟨_, _, rfl, b7⟩
theorem nums4 : PyData.list [num, num, num, num] = nums 4 := rfl
theorem nums3 : PyData.list [num, num, num] = nums 3 := rfl
theorem nums2 : PyData.list [num, num] = nums 2 := rfl
theorem nums1 : PyData.list [num] = nums 1 := rfl
theorem s20_ok {L : List PyData} (k : Kn ks e) (h22 : ks[22]? = some (some (.val (.list L)))) (h26 : ks[26]? = some (some .no)) (h27 : ks[27]? = some (some .no)) (hl : L.length = 9) (hL : ∀ d ∈ L, Bad d) : d_law_s20 e = .nx (e.set 15 (.val (nums 36))) := by
  have v22 := k.v h22
  have k1 := k.cmap2 (i := 26) (j := 27) (g := fun _ => nums 4) (it := itSeq (var 22)) (el := asVal (dispL (aCons (callP (s__law_asked) (aCons (cst (.int 1)) (aCons (var 26) (aCons (var 27) (aCons (cst .none) (aCons (cst (.int 0)) (aCons (cst (.int 0)) aNil))))))) (aCons (callP (s__law_asked) (aCons (cst (.int 2)) (aCons (var 26) (aCons (var 27) (aCons (var 27) (aCons (cst (.int 0)) (aCons (cst (.int 0)) aNil))))))) (aCons (callP (s__law_asked) (aCons (cst (.int 3)) (aCons (var 26) (aCons (var 27) (aCons (var 27) (aCons (cst .none) (aCons (cst .none) aNil))))))) (aCons (callP (s__law_asked) (aCons (cst (.int 4)) (aCons (var 26) (aCons (var 27) (aCons (var 27) (aCons (cst .none) (aCons (cst .none) aNil))))))) aNil)))))) (ds := L) h26 h27 (by decide) (by simp [v22]) (by rw [hl, szl]; omega) fun d hd => by
    obtain ⟨q, R, rfl, h⟩ := hL d hd
    refine ⟨q, R, rfl, fun e' k' => ?_⟩
    have v26 := k'.v (i := 26) (d := q) (by rw [List.getElem?_set_ne (by decide)]; exact List.getElem?_set_self (List.getElem?_eq_some_iff.mp h26).1)
    have v27 := k'.v (i := 27) (d := R) (List.getElem?_set_self (by rw [List.length_set]; exact (List.getElem?_eq_some_iff.mp h27).1))
    have q1 := ask1_bad (A3 := .none) (hall_bad (x := .int 0) (y := .int 0) h)
    have q2 := ask2_bad (same_hall_bad (x := .int 0) (y := .int 0) (two_bad (A := R) h))
    have q3 := ask3_bad (A4 := .none) (A5 := .none) (passing_bad (two_bad (A := R) h))
    have q4 := ask4_bad (A4 := .none) (A5 := .none) (counts_in_bad (table_bad (A := R) h))
    rw [← nums4]
    generalize num = N at *
    simp [v26, v27, q1, q2, q3, q4, szl]
  have q := flat_num L 9 4 hl (by omega)
  generalize (L.map fun _ => nums 4) = L2 at k1 q
  unfold d_law_s20
  rw [setS_ap, callP_ap, aCons_ap, asVal_ap, k1]
  simp [q]
theorem s21_ok {L : List PyData} (k : Kn ks e) (h15 : ks[15]? = some (some (.val (nums 36)))) (h22 : ks[22]? = some (some (.val (.list L)))) (h26 : ks[26]? = some (some .no)) (h27 : ks[27]? = some (some .no)) (hl : L.length = 9) (hL : ∀ d ∈ L, Bad d) : d_law_s21 e = .nx (e.set 15 (.val (nums 54))) := by
  have v22 := k.v h22
  have v15 := k.v h15
  have k1 := k.cmap2 (i := 26) (j := 27) (g := fun _ => nums 2) (it := itSeq (var 22)) (el := asVal (dispL (aCons (callP (s__law_asked) (aCons (cst (.int 6)) (aCons (var 26) (aCons (var 27) (aCons (var 27) (aCons (dispT aNil) (aCons (dispT (aCons (cst (.int 0)) (aCons (cst (.int 0)) aNil))) aNil))))))) (aCons (callP (s__law_asked) (aCons (cst (.int 7)) (aCons (var 26) (aCons (var 27) (aCons (var 27) (aCons (dispT aNil) (aCons (cst .none) aNil))))))) aNil)))) (ds := L) h26 h27 (by decide) (by simp [v22]) (by rw [hl, szl]; omega) fun d hd => by
    obtain ⟨q, R, rfl, h⟩ := hL d hd
    refine ⟨q, R, rfl, fun e' k' => ?_⟩
    have v26 := k'.v (i := 26) (d := q) (by rw [List.getElem?_set_ne (by decide)]; exact List.getElem?_set_self (List.getElem?_eq_some_iff.mp h26).1)
    have v27 := k'.v (i := 27) (d := R) (List.getElem?_set_self (by rw [List.length_set]; exact (List.getElem?_eq_some_iff.mp h27).1))
    have q1 := ask6_bad (shown_by_bad (x := .int 0) (y := .int 0) (counts_bad (B := .tuple []) (table_bad (A := R) h)))
    have q2 := ask7_bad (A5 := .none) (passing_counts_bad (counts_bad (B := .tuple []) (table_bad (A := R) h)))
    rw [← nums2]
    generalize num = N at *
    simp [v26, v27, q1, q2, szl]
  have q := flat_num L 9 2 hl (by omega)
  have c := cat_num (a := 36) (b := 18) (by omega)
  rw [show 9 * 2 = 18 from rfl] at q
  have n54 : PyData.list (List.replicate (36 + 18) num) = nums 54 := rfl
  generalize (L.map fun _ => nums 2) = L2 at k1 q
  generalize List.replicate (36 + 18) num = L3 at c n54
  unfold d_law_s21
  rw [setS_ap, asVal_ap, bin2n_ap, v15, bind_ok, callP_ap, aCons_ap, asVal_ap, k1]
  simp [q, c, n54]
theorem s22_ok (k : Kn ks e) (h2 : ks[2]? = some (some (.val (.int p)))) (h15 : ks[15]? = some (some (.val (nums 54)))) (h27 : ks[27]? = some (some .no)) (hp : P4 p) : d_law_s22 e = .nx (e.set 15 (.val (nums 57))) := by
  have v2 := k.v h2
  have v15 := k.v h15
  have m7 : mulD (.tuple [.int 0]) (.int 7) = some (T (List.replicate (7 : Int).toNat 0)) := repT1 (by omega) (by omega)
  have b1 := rows_bad hp (rs := [[]]) (by simp) (by simp) (by simp [rowsOk])
  have b2 := rows_bad hp (rs := [List.replicate (7 : Int).toNat 0]) (by simp) (by simp) (by simp [rowsOk])
  have b3 := rows_bad hp (rs := [[p]]) (by simp) (by simp) (by simp [rowsOk, okN])
  have hb : ∀ d ∈ [PyData.tuple [], T (List.replicate (7 : Int).toNat 0), .tuple [.int p]], s_check_rows [.int p, .tuple [d], .int 0] = .err badN := by
    intro d hd
    simp only [List.mem_cons, List.not_mem_nil, or_false] at hd
    rcases hd with rfl | rfl | rfl
    · exact b1
    · exact b2
    · exact b3
  have hl : [PyData.tuple [], T (List.replicate (7 : Int).toNat 0), .tuple [.int p]].length = 3 := rfl
  generalize T (List.replicate (7 : Int).toNat 0) = R7 at *
  have hit : itSeq (asVal (dispL (aCons (dispT aNil) (aCons (bin2 mulD (dispT (aCons (cst (.int 0)) aNil)) (cst (.int 7))) (aCons (dispT (aCons (var 2) aNil)) aNil))))) e = .ok [PyData.tuple [], R7, .tuple [.int p]] e := by
    simp [v2, m7, szl]
  generalize [PyData.tuple [], R7, .tuple [.int p]] = L at *
  have k1 := k.cmap (i := 27) (g := fun _ => num) (it := itSeq (asVal (dispL (aCons (dispT aNil) (aCons (bin2 mulD (dispT (aCons (cst (.int 0)) aNil)) (cst (.int 7))) (aCons (dispT (aCons (var 2) aNil)) aNil)))))) (el := callP (s__law_asked) (aCons (cst (.int 0)) (aCons (var 2) (aCons (var 27) (aCons (cst .none) (aCons (cst (.int 0)) (aCons (cst .none) aNil))))))) (ds := L) h27 hit (by rw [hl, szl]; omega) fun d hd e' k' => by
    have v2 := k'.v (i := 2) (d := .int p) (by rw [List.getElem?_set_ne (by decide)]; exact h2)
    have v27 := k'.v (i := 27) (d := d) (List.getElem?_set_self (List.getElem?_eq_some_iff.mp h27).1)
    have q := ask0_bad (A3 := .none) (A5 := .none) (fp_bad (x := .int 0) (hb d hd))
    generalize num = N at *
    simp [v2, v27, q]
  rw [map_num L 3 hl] at k1
  have c := cat_num (a := 54) (b := 3) (by omega)
  have n57 : PyData.list (List.replicate (54 + 3) num) = nums 57 := rfl
  have n3 : PyData.list (List.replicate 3 num) = nums 3 := rfl
  generalize List.replicate (54 + 3) num = L3 at c n57
  generalize List.replicate 3 num = L4 at k1 n3
  unfold d_law_s22
  rw [setS_ap, asVal_ap, bin2n_ap, v15, bind_ok, asVal_ap, k1]
  simp [n3, c, n57]
theorem s23_ok {rs : List (List Int)} (k : Kn ks e) (h2 : ks[2]? = some (some (.val (.int p)))) (h5 : ks[5]? = some (some (.val (TT rs)))) (h15 : ks[15]? = some (some (.val (nums 57)))) (h32 : ks[32]? = some (some .no)) (hp : P4 p) (hr : Good p w rs) : d_law_s23 e = .nx (e.set 15 (.val (nums 63))) := by
  have v2 := k.v h2
  have v15 := k.v h15
  have hb : ∀ d ∈ [PyData.int (-1), .int p], ∃ c : Int, d = .int c ∧ ¬ (0 ≤ c ∧ c < p) := by
    intro d hd
    simp only [List.mem_cons, List.not_mem_nil, or_false] at hd
    rcases hd with rfl | rfl
    · exact ⟨_, rfl, by omega⟩
    · exact ⟨_, rfl, by omega⟩
  have hl : [PyData.int (-1), .int p].length = 2 := rfl
  have hit : itSeq (asVal (dispL (aCons (un1 negD (cst (.int 1))) (aCons (var 2) aNil)))) e = .ok [PyData.int (-1), .int p] e := by
    simp [v2, szl]
  generalize [PyData.int (-1), .int p] = L at *
  have hx := ixTT0 hr.1
  have c1 := check_rows_0 hp hr.head1
  have c2 := check_rows_0 hp hr
  have k1 := k.cmap (i := 32) (g := fun _ => nums 3) (it := itSeq (asVal (dispL (aCons (un1 negD (cst (.int 1))) (aCons (var 2) aNil))))) (el := asVal (dispL (aCons (callP (s__law_asked) (aCons (cst (.int 0)) (aCons (var 2) (aCons (bin2 ixD (var 5) (cst (.int 0))) (aCons (cst .none) (aCons (var 32) (aCons (cst .none) aNil))))))) (aCons (callP (s__law_asked) (aCons (cst (.int 1)) (aCons (var 2) (aCons (var 5) (aCons (cst .none) (aCons (var 32) (aCons (cst (.int 0)) aNil))))))) (aCons (callP (s__law_asked) (aCons (cst (.int 1)) (aCons (var 2) (aCons (var 5) (aCons (cst .none) (aCons (cst (.int 0)) (aCons (var 32) aNil))))))) aNil))))) (ds := L) h32 hit (by rw [hl, szl]; omega) fun d hd e' k' => by
    obtain ⟨c, rfl, hc⟩ := hb d hd
    have v2 := k'.v (i := 2) (d := .int p) (by rw [List.getElem?_set_ne (by decide)]; exact h2)
    have v5 := k'.v (i := 5) (d := TT rs) (by rw [List.getElem?_set_ne (by decide)]; exact h5)
    have v32 := k'.v (i := 32) (d := .int c) (List.getElem?_set_self (List.getElem?_eq_some_iff.mp h32).1)
    have z1 : s_check_coins [.int p, .tuple [.int c]] = .err badN := check_coins_bad (cs := [c]) (by simp) (by simpa using hc)
    have z2 : s_check_coins [.int p, .tuple [.int c, .int 0]] = .err badN := check_coins_bad (cs := [c, 0]) (by simp) (fun z => hc (z c (by simp)))
    have z3 : s_check_coins [.int p, .tuple [.int 0, .int c]] = .err badN := check_coins_bad (cs := [0, c]) (by simp) (fun z => hc (z c (by simp)))
    have q1 := ask0_bad (A3 := .none) (A5 := .none) (fp_coin c1 z1)
    have q2 := ask1_bad (A3 := .none) (hall_coin c2 z2)
    have q3 := ask1_bad (A3 := .none) (hall_coin c2 z3)
    rw [← nums3]
    generalize T (rs.headD []) = R0 at *
    generalize TT rs = R at *
    generalize num = N at *
    simp [v2, v5, v32, hx, q1, q2, q3, szl]
  have q := flat_num L 2 3 hl (by omega)
  have c := cat_num (a := 57) (b := 6) (by omega)
  rw [show 2 * 3 = 6 from rfl] at q
  have n63 : PyData.list (List.replicate (57 + 6) num) = nums 63 := rfl
  generalize (L.map fun _ => nums 3) = L2 at k1 q
  generalize List.replicate (57 + 6) num = L3 at c n63
  unfold d_law_s23
  rw [setS_ap, asVal_ap, bin2n_ap, v15, bind_ok, callP_ap, aCons_ap, asVal_ap, k1]
  simp [q, c, n63]
theorem cut_first (rs : List (List Int)) : slTD (TT rs) none (some 1) = some (TT (rs.take 1)) := by
  have : cutD (rs.map T) none (some 1) = (rs.take 1).map T := by
    unfold cutD
    show ((rs.map T).drop 0).take ((if (1 : Int) < 0 then (1 + ((rs.map T).length : Int)).toNat else min (1 : Int).toNat (rs.map T).length) - 0) = _
    rw [if_neg (by omega), List.drop_zero, List.length_map, List.map_take]
    cases rs with
    | nil => rfl
    | cons r rs => rw [List.length_cons]; congr 1; try omega
  show some (PyData.tuple (cutD (rs.map T) none (some 1))) = _
  rw [this]
  rfl
theorem s24_ok {rs ts : List (List Int)} (k : Kn ks e) (h2 : ks[2]? = some (some (.val (.int p)))) (h5 : ks[5]? = some (some (.val (TT rs)))) (h14 : ks[14]? = some (some (.val (TT ts)))) (h15 : ks[15]? = some (some (.val (nums 63)))) (hp : P4 p) (hr : Good p w rs) (hrl : rs.length ≤ 4) (ht : Good p w ts) (htl : ts.length ≤ 7) : d_law_s24 e = .nx (e.set 15 (.val (nums 66))) := by
  have v2 := k.v h2
  have v5 := k.v h5
  have v14 := k.v h14
  have v15 := k.v h15
  have a1 := addTT (rs := rs) (ss := rs) (by omega)
  have a2 := cut_first ts
  have a3 := addTT (rs := ts) (ss := ts.take 1) (by rw [List.length_take]; omega)
  have g2 : Good p w (rs ++ rs) := ⟨by rw [List.length_append]; have := hr.1; omega, by rw [List.length_append]; omega, hr.2.2.1, hr.2.2.2.1, fun r h => by
    rcases List.mem_append.mp h with h | h <;> exact hr.2.2.2.2 r h⟩
  have z := two_len hp hr g2 (by rw [List.length_append]; have := hr.1; omega)
  have z2 := table_twice hp hr ht (by omega)
  have q1 := ask2_bad (same_hall_bad (x := .int 0) (y := .int 0) z)
  have q2 := ask3_bad (A4 := .none) (A5 := .none) (passing_bad z)
  have q3 := ask4_bad (A4 := .none) (A5 := .none) (counts_in_bad z2)
  have c := cat_num (a := 63) (b := 3) (by omega)
  have n66 : PyData.list (List.replicate (63 + 3) num) = nums 66 := rfl
  have n3 := nums3
  generalize List.replicate (63 + 3) num = L3 at c n66
  generalize num = N at *
  generalize TT (rs ++ rs) = R1 at *
  generalize TT (ts ++ ts.take 1) = R2 at *
  generalize TT (ts.take 1) = R3 at *
  generalize TT rs = R4 at *
  generalize TT ts = R5 at *
  simp [d_law_s24, v2, v5, v14, v15, a1, a2, a3, q1, q2, q3, c, n66, n3, szl]
theorem three_items {R R1 R2 R3 R4 : PyData} {n : Int} (v14 : var 14 e = .ok (.val R) e) (v16 : var 16 e = .ok (.val R1) e) (hL : lenD R = some (.int n)) (q1 : addD R1 (.tuple [.int 0]) = some R2) (q2 : mulD (.tuple [.int 13]) (.int n) = some R3) (q3 : mulD (.tuple [.int (-1)]) (.int n) = some R4) :
    itSeq (asVal (dispL (aCons (bin2 addD (var 16) (dispT (aCons (cst (.int 0)) aNil))) (aCons (bin2 mulD (dispT (aCons (cst (.int 13)) aNil)) (argsN (arg1 lenD) (aCons (var 14) aNil))) (aCons (bin2 mulD (dispT (aCons (un1 negD (cst (.int 1))) aNil)) (argsN (arg1 lenD) (aCons (var 14) aNil))) aNil))))) e = .ok [R2, R3, R4] e := by
  simp [v14, v16, hL, q1, q2, q3, szl]
theorem s25_ok {rs ts : List (List Int)} (k : Kn ks e) (h2 : ks[2]? = some (some (.val (.int p)))) (h5 : ks[5]? = some (some (.val (TT rs)))) (h14 : ks[14]? = some (some (.val (TT ts)))) (h15 : ks[15]? = some (some (.val (nums 66)))) (h16 : ks[16]? = some (some (.val (T (cntsI rs ts))))) (h27 : ks[27]? = some (some .no)) (hp : P4 p) (hr : Good p w rs) (ht : Good p w ts) (hn : ts.Nodup) : d_law_s25 e = .nx (e.set 15 (.val (nums 70))) := by
  have v2 := k.v h2
  have v5 := k.v h5
  have v14 := k.v h14
  have v15 := k.v h15
  have v16 := k.v h16
  have h1 := ht.1
  have h12 := ht.2.1
  have a1 := addTT1 (r := cntsI rs ts) (s := [0]) (by rw [cnts_len, List.length_singleton]; omega)
  have a2 := repT1 (x := 13) (n := ts.length) (by omega) (by omega)
  have a3 := repT1 (x := -1) (n := ts.length) (by omega) (by omega)
  have hL := lenTT ts
  have hb : ∀ d ∈ [T (cntsI rs ts ++ [0]), T (List.replicate ((ts.length : Nat) : Int).toNat 13), T (List.replicate ((ts.length : Nat) : Int).toNat (-1))], s_check_counts [.int p, TT rs, TT ts, d] = .err badN := by
    intro d hd
    simp only [List.mem_cons, List.not_mem_nil, or_false] at hd
    rcases hd with rfl | rfl | rfl
    · exact cnt_bad hp hr ht hn (by rw [List.length_append, cnts_len, List.length_singleton]; omega) (.inl (by rw [List.length_append, cnts_len, List.length_singleton]; omega))
    · exact cnt_bad hp hr ht hn (by rw [List.length_replicate]; omega) (.inr ⟨13, List.mem_replicate.mpr ⟨by omega, rfl⟩, by omega⟩)
    · exact cnt_bad hp hr ht hn (by rw [List.length_replicate]; omega) (.inr ⟨-1, List.mem_replicate.mpr ⟨by omega, rfl⟩, by omega⟩)
  have hl : [T (cntsI rs ts ++ [0]), T (List.replicate ((ts.length : Nat) : Int).toNat 13), T (List.replicate ((ts.length : Nat) : Int).toNat (-1))].length = 3 := rfl
  have ck := check_counts_ok hp hr ht hn (cnts_len rs ts) (cnts_range hr.2.1)
  have z : s_check_coins [.int p, .tuple [.int p, .int 0]] = .err badN := check_coins_bad (cs := [p, 0]) (by simp) (fun z => by have := z p (by simp); omega)
  have q6 := ask6_bad (shown_by_coin ck z)
  have hit : itSeq (asVal (dispL (aCons (bin2 addD (var 16) (dispT (aCons (cst (.int 0)) aNil))) (aCons (bin2 mulD (dispT (aCons (cst (.int 13)) aNil)) (argsN (arg1 lenD) (aCons (var 14) aNil))) (aCons (bin2 mulD (dispT (aCons (un1 negD (cst (.int 1))) aNil)) (argsN (arg1 lenD) (aCons (var 14) aNil))) aNil))))) e = .ok [T (cntsI rs ts ++ [0]), T (List.replicate ((ts.length : Nat) : Int).toNat 13), T (List.replicate ((ts.length : Nat) : Int).toNat (-1))] e :=
    three_items v14 v16 hL a1 a2 a3
  generalize [T (cntsI rs ts ++ [0]), T (List.replicate ((ts.length : Nat) : Int).toNat 13), T (List.replicate ((ts.length : Nat) : Int).toNat (-1))] = L at *
  have k1 := k.cmap (i := 27) (g := fun _ => num) (it := itSeq (asVal (dispL (aCons (bin2 addD (var 16) (dispT (aCons (cst (.int 0)) aNil))) (aCons (bin2 mulD (dispT (aCons (cst (.int 13)) aNil)) (argsN (arg1 lenD) (aCons (var 14) aNil))) (aCons (bin2 mulD (dispT (aCons (un1 negD (cst (.int 1))) aNil)) (argsN (arg1 lenD) (aCons (var 14) aNil))) aNil)))))) (el := callP (s__law_asked) (aCons (cst (.int 7)) (aCons (var 2) (aCons (var 5) (aCons (var 14) (aCons (var 27) (aCons (cst .none) aNil))))))) (ds := L) h27 hit (by rw [hl, szl]; omega) fun d hd e' k' => by
    have v2 := k'.v (i := 2) (d := .int p) (by rw [List.getElem?_set_ne (by decide)]; exact h2)
    have v5 := k'.v (i := 5) (d := TT rs) (by rw [List.getElem?_set_ne (by decide)]; exact h5)
    have v14 := k'.v (i := 14) (d := TT ts) (by rw [List.getElem?_set_ne (by decide)]; exact h14)
    have v27 := k'.v (i := 27) (d := d) (List.getElem?_set_self (List.getElem?_eq_some_iff.mp h27).1)
    have q := ask7_bad (A5 := .none) (passing_counts_bad (hb d hd))
    clear hb q6 ck hit k' k
    generalize TT rs = R at *
    generalize TT ts = R' at *
    generalize num = N at *
    simp [v2, v5, v14, v27, q]
  rw [map_num L 3 hl] at k1
  have c := cat_num (a := 66) (b := 3) (by omega)
  have c2 := cat_num (a := 69) (b := 1) (by omega)
  have n70 : PyData.list (List.replicate (69 + 1) num) = nums 70 := rfl
  have n69 : PyData.list (List.replicate (66 + 3) num) = nums 69 := rfl
  have n3 : PyData.list (List.replicate 3 num) = nums 3 := rfl
  have n1 := nums1
  generalize List.replicate (69 + 1) num = L3 at c2 n70
  generalize List.replicate (66 + 3) num = L5 at c n69
  generalize List.replicate 3 num = L4 at k1 n3
  clear hb hit ck a1 a2 a3
  generalize num = N at *
  generalize TT rs = R at *
  generalize TT ts = R' at *
  generalize T (cntsI rs ts) = R'' at *
  unfold d_law_s25
  rw [setS_ap, asVal_ap, bin2n_ap, asVal_ap, bin2n_ap, v15, bind_ok, asVal_ap, k1]
  simp [v2, v5, v14, v16, n3, c, n69, q6, n1, c2, n70, szl]
theorem s26_ok (k : Kn ks e) (h2 : ks[2]? = some (some (.val (.int p)))) (h15 : ks[15]? = some (some (.val (nums 70)))) (h26 : ks[26]? = some (some .no)) (h28 : ks[28]? = some (some .no)) (h29 : ks[29]? = some (some .no)) (hp : P4 p) : d_law_s26 e = .nx (e.set 15 (.val (nums 75))) := by
  have v2 := k.v h2
  have v15 := k.v h15
  have hb : ∀ d ∈ [PyData.tuple [.int 4, .int 1, .int 1], .tuple [.int p, .int 0, .int 1], .tuple [.int p, .int 13, .int 1], .tuple [.int p, .int 1, .int 0], .tuple [.int p, .int 1, .int 7]], ∃ x y z : PyData, d = .tuple [x, y, z] ∧ s_most_passing [x, y, z] = .err badN := by
    intro d hd
    simp only [List.mem_cons, List.not_mem_nil, or_false] at hd
    rcases hd with rfl | rfl | rfl | rfl | rfl
    · exact ⟨_, _, _, rfl, most_bad (.inr rfl)⟩
    · exact ⟨_, _, _, rfl, most_bad (.inl ⟨hp, by omega⟩)⟩
    · exact ⟨_, _, _, rfl, most_bad (.inl ⟨hp, by omega⟩)⟩
    · exact ⟨_, _, _, rfl, most_bad (.inl ⟨hp, by omega⟩)⟩
    · exact ⟨_, _, _, rfl, most_bad (.inl ⟨hp, by omega⟩)⟩
  have hl : [PyData.tuple [.int 4, .int 1, .int 1], .tuple [.int p, .int 0, .int 1], .tuple [.int p, .int 13, .int 1], .tuple [.int p, .int 1, .int 0], .tuple [.int p, .int 1, .int 7]].length = 5 := rfl
  have hit : itSeq (asVal (dispL (aCons (dispT (aCons (cst (.int 4)) (aCons (cst (.int 1)) (aCons (cst (.int 1)) aNil)))) (aCons (dispT (aCons (var 2) (aCons (cst (.int 0)) (aCons (cst (.int 1)) aNil)))) (aCons (dispT (aCons (var 2) (aCons (cst (.int 13)) (aCons (cst (.int 1)) aNil)))) (aCons (dispT (aCons (var 2) (aCons (cst (.int 1)) (aCons (cst (.int 0)) aNil)))) (aCons (dispT (aCons (var 2) (aCons (cst (.int 1)) (aCons (cst (.int 7)) aNil)))) aNil))))))) e = .ok [PyData.tuple [.int 4, .int 1, .int 1], .tuple [.int p, .int 0, .int 1], .tuple [.int p, .int 13, .int 1], .tuple [.int p, .int 1, .int 0], .tuple [.int p, .int 1, .int 7]] e := by
    simp [v2, szl]
  generalize [PyData.tuple [.int 4, .int 1, .int 1], .tuple [.int p, .int 0, .int 1], .tuple [.int p, .int 13, .int 1], .tuple [.int p, .int 1, .int 0], .tuple [.int p, .int 1, .int 7]] = L at *
  have k1 := k.cmap3 (i := 26) (j := 28) (l := 29) (g := fun _ => num) (el := callP (s__law_asked) (aCons (cst (.int 5)) (aCons (var 26) (aCons (var 28) (aCons (var 29) (aCons (cst .none) (aCons (cst .none) aNil))))))) (ds := L) h26 h28 h29 (by decide) (by decide) (by decide) hit (by rw [hl, szl]; omega) fun d hd => by
    obtain ⟨x, y, z, rfl, h⟩ := hb d hd
    refine ⟨x, y, z, rfl, fun e' k' => ?_⟩
    have v26 := k'.v (i := 26) (d := x) (by rw [List.getElem?_set_ne (by decide), List.getElem?_set_ne (by decide)]; exact List.getElem?_set_self (List.getElem?_eq_some_iff.mp h26).1)
    have v28 := k'.v (i := 28) (d := y) (by rw [List.getElem?_set_ne (by decide)]; exact List.getElem?_set_self (by rw [List.length_set]; exact (List.getElem?_eq_some_iff.mp h28).1))
    have v29 := k'.v (i := 29) (d := z) (List.getElem?_set_self (by rw [List.length_set, List.length_set]; exact (List.getElem?_eq_some_iff.mp h29).1))
    have q := ask5_bad (A4 := .none) (A5 := .none) h
    generalize num = N at *
    simp [v26, v28, v29, q]
  rw [map_num L 5 hl] at k1
  have c := cat_num (a := 70) (b := 5) (by omega)
  have n75 : PyData.list (List.replicate (70 + 5) num) = nums 75 := rfl
  have n5 : PyData.list (List.replicate 5 num) = nums 5 := rfl
  generalize List.replicate (70 + 5) num = L3 at c n75
  generalize List.replicate 5 num = L4 at k1 n5
  unfold d_law_s26
  rw [setS_ap, asVal_ap, bin2n_ap, v15, bind_ok, asVal_ap, k1]
  simp [n5, c, n75]
theorem nums_eq : eqD (nums 75) (nums 75) = some (.bool true) := by kernel_rfl
theorem s27_ok (k : Kn ks e) (h15 : ks[15]? = some (some (.val (nums 75)))) : d_law_s27 e = .rt (.bool true) e := by
  have v15 := k.v h15
  have q := repL1 (d := num) (c := 75) (by omega) (by omega)
  have q2 : repLD (.list [.str "!number"]) (.int 75) = some (List.replicate (75 : Int).toNat num) := q
  have n : PyData.list (List.replicate (75 : Int).toNat num) = nums 75 := rfl
  have qe := nums_eq
  generalize List.replicate (75 : Int).toNat num = L at q2 n
  generalize nums 75 = N at *
  simp [d_law_s27, v15, q2, n, qe, szl]
end
end PP.B52
set_option maxRecDepth 100000
namespace PP.B52
open PySem PySem.Spec PyProof.Rows L2 PP PP.SZ
def KV (p w m : Int) (rs ts : List (List Int)) (cn : List Int) (v15 v21 v22 : Option Sl) : List (Option Sl) :=
  [none, none, some (.val (.int p)), some (.val (.int w)), some (.val (.int m)), some (.val (TT rs)), none, none, none, none, none, none, none, none, some (.val (TT ts)), v15, some (.val (T cn)), none, none, none, none, v21, v22,
    some .no, some .no, some .no, some .no, some .no, some .no, some .no, some .no, some .no, some .no]
section
variable {p w m : Int} {rs ts : List (List Int)} {cn : List Int} {v15 v21 v22 : Option Sl} {e : Sls}
theorem _root_.PP.Kn.w15 (k : Kn (KV p w m rs ts cn v15 v21 v22) e) (s : Sl) : Kn (KV p w m rs ts cn (some s) v21 v22) (e.set 15 s) := k.set (i := 15) s
theorem _root_.PP.Kn.w21 (k : Kn (KV p w m rs ts cn v15 v21 v22) e) (s : Sl) : Kn (KV p w m rs ts cn v15 (some s) v22) (e.set 21 s) := k.set (i := 21) s
theorem _root_.PP.Kn.w22 (k : Kn (KV p w m rs ts cn v15 v21 v22) e) (s : Sl) : Kn (KV p w m rs ts cn v15 v21 (some s)) (e.set 22 s) := k.set (i := 22) s
theorem phase3 (hp : P4 p) (hw : 1 ≤ w ∧ w ≤ 3) (hr : Good p w rs) (hrl : rs.length ≤ 4) (ht : Good p w ts) (htl : ts.length ≤ 7) (hn : ts.Nodup) (k : Kn (KV p w m rs ts (cntsI rs ts) (some .no) none none) e) :
    ∃ e', seqS d_law_s17 (seqS d_law_s18 (seqS d_law_s19 (seqS d_law_s20 (seqS d_law_s21 (seqS d_law_s22 (seqS d_law_s23 (seqS d_law_s24 (seqS d_law_s25 (seqS d_law_s26 d_law_s27))))))))) e = .rt (.bool true) e' := by
  have a17 := s17_ok (e := e)
  have k17 := k.w21 (.val (TT [[1], [2]]))
  have a18 := s18_ok k17 rfl rfl
  have m7 : mulD (.tuple [.int 0]) (.int 7) = some (T (List.replicate (7 : Int).toNat 0)) := repT1 (by omega) (by omega)
  have mw := repT1 (x := p) (n := w) (by omega) (by omega)
  have a19 := s19_ok (k17.v (i := 2) (d := .int p) rfl) (k17.v (i := 3) (d := .int w) rfl) (k17.v (i := 5) (d := TT rs) rfl) (repTT (rs := rs) (by omega)) m7 mw
  have hb := bad9 hp hw hr
  have hl : (L9 p (TT rs) (TT (List.replicate 13 rs).flatten) (T (List.replicate (7 : Int).toNat 0)) (T (List.replicate w.toNat p))).length = 9 := rfl
  generalize L9 p (TT rs) (TT (List.replicate 13 rs).flatten) (T (List.replicate (7 : Int).toNat 0)) (T (List.replicate w.toNat p)) = L at *
  have k19 := k17.w22 (.val (.list L))
  have a20 := s20_ok k19 (L := L) rfl rfl rfl hl hb
  have k20 := k19.w15 (.val (nums 36))
  have a21 := s21_ok k20 (L := L) rfl rfl rfl rfl hl hb
  have k21 := k20.w15 (.val (nums 54))
  have a22 := s22_ok k21 (p := p) rfl rfl rfl hp
  have k22 := k21.w15 (.val (nums 57))
  have a23 := s23_ok k22 (p := p) (w := w) (rs := rs) rfl rfl rfl rfl hp hr
  have k23 := k22.w15 (.val (nums 63))
  have a24 := s24_ok k23 (p := p) (w := w) (rs := rs) (ts := ts) rfl rfl rfl rfl hp hr hrl ht htl
  have k24 := k23.w15 (.val (nums 66))
  have a25 := s25_ok k24 (p := p) (w := w) (rs := rs) (ts := ts) rfl rfl rfl rfl rfl rfl hp hr ht hn
  have k25 := k24.w15 (.val (nums 70))
  have a26 := s26_ok k25 (p := p) rfl rfl rfl rfl rfl hp
  have k26 := k25.w15 (.val (nums 75))
  have a27 := s27_ok k26 rfl
  exact ⟨_, seqS_of a17 (seqS_of a18 (seqS_of a19 (seqS_of a20 (seqS_of a21 (seqS_of a22 (seqS_of a23 (seqS_of a24 (seqS_of a25 (seqS_of a26 a27)))))))))⟩
end
theorem runP_of {tot : Nat} {g : Sls → OutS} {as : List PyData} {d : PyData} {e : Sls} (h : g (envA tot as) = .rt d e) : runP tot g as = .ok d := by
  unfold runP
  rw [h]
theorem law_true : ∀ ns : List Int, ns.length ≤ 63 → s_law [.list (ns.map .int)] = .ok (.bool true) := by
  intro ns hl
  obtain ⟨D, p, w, m, a, b, rs, cg, dr, e1, P, k1, d1, h1⟩ := phase1 hl
  obtain ⟨D2, wr, e2, lw, rw2, d2, k2, h2⟩ := phase2 P k1 d1
  have gr := good_of P.hw (by have := P.hm; omega) P.lr P.rr
  obtain ⟨gt, gl⟩ := tabl_good P
  obtain ⟨e3, a16, k3⟩ := s16_ok P gt (tabl_nodup dr rs) lw rw2 k2
  have k4 : Kn (KV p w m rs (tabl dr rs) (cntsI rs (tabl dr rs)) (some .no) none none) e3 := ((((k3.forget 1).forget 6).forget 7).forget 17).forget 18
  obtain ⟨e4, h4⟩ := phase3 P.hp P.hw gr (by have := P.lr; have := P.hm; omega) gt gl (tabl_nodup dr rs) k4
  refine runP_of (e := e4) ?_
  unfold d_law
  rw [h1, h2]
  exact seqS_of a16 h4
end PP.B52
set_option maxRecDepth 100000
set_option maxHeartbeats 0
namespace PP.B52
open PySem PySem.Spec PyProof.Rows L2 PP
def dd_is_prime : He.DefD := ⟨("is_prime", none), "is_prime", "is_prime", defArgs t_is_prime, defBody t_is_prime, defScope t_is_prime, [], []⟩
def dd_are_numbers : He.DefD := ⟨("are_numbers", none), "are_numbers", "are_numbers", defArgs t_are_numbers, defBody t_are_numbers, defScope t_are_numbers, [], []⟩
def dd_mixed : He.DefD := ⟨("mixed", none), "mixed", "mixed", defArgs t_mixed, defBody t_mixed, defScope t_mixed, [], []⟩
def dd_check_rows : He.DefD := ⟨("check_rows", none), "check_rows", "check_rows", defArgs t_check_rows, defBody t_check_rows, defScope t_check_rows, [], []⟩
def dd_check_coins : He.DefD := ⟨("check_coins", none), "check_coins", "check_coins", defArgs t_check_coins, defBody t_check_coins, defScope t_check_coins, [], []⟩
def dd_check_two : He.DefD := ⟨("check_two", none), "check_two", "check_two", defArgs t_check_two, defBody t_check_two, defScope t_check_two, [], []⟩
def dd_fingerprint : He.DefD := ⟨("fingerprint", none), "fingerprint", "fingerprint", defArgs t_fingerprint, defBody t_fingerprint, defScope t_fingerprint, [], []⟩
def dd_hall_told : He.DefD := ⟨("hall_told", none), "hall_told", "hall_told", defArgs t_hall_told, defBody t_hall_told, defScope t_hall_told, [], []⟩
def dd_hall : He.DefD := ⟨("hall", none), "hall", "hall", defArgs t_hall, defBody t_hall, defScope t_hall, [], []⟩
def dd_same_hall : He.DefD := ⟨("same_hall", none), "same_hall", "same_hall", defArgs t_same_hall, defBody t_same_hall, defScope t_same_hall, [], []⟩
def dd_pairs_of : He.DefD := ⟨("pairs_of", none), "pairs_of", "pairs_of", defArgs t_pairs_of, defBody t_pairs_of, defScope t_pairs_of, [], []⟩
def dd_passing : He.DefD := ⟨("passing", none), "passing", "passing", defArgs t_passing, defBody t_passing, defScope t_passing, [], []⟩
def dd_most_passing : He.DefD := ⟨("most_passing", none), "most_passing", "most_passing", defArgs t_most_passing, defBody t_most_passing, defScope t_most_passing, [], []⟩
def dd_check_table : He.DefD := ⟨("check_table", none), "check_table", "check_table", defArgs t_check_table, defBody t_check_table, defScope t_check_table, [], []⟩
def dd_counts_in : He.DefD := ⟨("counts_in", none), "counts_in", "counts_in", defArgs t_counts_in, defBody t_counts_in, defScope t_counts_in, [], []⟩
def dd_shown_told : He.DefD := ⟨("shown_told", none), "shown_told", "shown_told", defArgs t_shown_told, defBody t_shown_told, defScope t_shown_told, [], []⟩
def dd_check_counts : He.DefD := ⟨("check_counts", none), "check_counts", "check_counts", defArgs t_check_counts, defBody t_check_counts, defScope t_check_counts, [], []⟩
def dd_shown_by : He.DefD := ⟨("shown_by", none), "shown_by", "shown_by", defArgs t_shown_by, defBody t_shown_by, defScope t_shown_by, [], []⟩
def dd_passing_counts : He.DefD := ⟨("passing_counts", none), "passing_counts", "passing_counts", defArgs t_passing_counts, defBody t_passing_counts, defScope t_passing_counts, [], []⟩
def dd__law_number : He.DefD := ⟨("_law_number", none), "_law_number", "_law_number", defArgs t__law_number, defBody t__law_number, defScope t__law_number, [], []⟩
def dd__law_draws : He.DefD := ⟨("_law_draws", none), "_law_draws", "_law_draws", defArgs t__law_draws, defBody t__law_draws, defScope t__law_draws, [], []⟩
def dd__law_next : He.DefD := ⟨("_law_next", none), "_law_next", "_law_next", defArgs t__law_next, defBody t__law_next, defScope t__law_next, [], []⟩
def dd__law_more : He.DefD := ⟨("_law_more", none), "_law_more", "_law_more", defArgs t__law_more, defBody t__law_more, defScope t__law_more, [], []⟩
def dd__law_pick : He.DefD := ⟨("_law_pick", none), "_law_pick", "_law_pick", defArgs t__law_pick, defBody t__law_pick, defScope t__law_pick, [], []⟩
def dd__law_flat : He.DefD := ⟨("_law_flat", none), "_law_flat", "_law_flat", defArgs t__law_flat, defBody t__law_flat, defScope t__law_flat, [], []⟩
def dd__law_some : He.DefD := ⟨("_law_some", none), "_law_some", "_law_some", defArgs t__law_some, defBody t__law_some, defScope t__law_some, [], []⟩
def dd__law_mixed : He.DefD := ⟨("_law_mixed", none), "_law_mixed", "_law_mixed", defArgs t__law_mixed, defBody t__law_mixed, defScope t__law_mixed, [], []⟩
def dd__law_asked : He.DefD := ⟨("_law_asked", none), "_law_asked", "_law_asked", defArgs t__law_asked, defBody t__law_asked, defScope t__law_asked, [], []⟩
def dd__law_hall : He.DefD := ⟨("_law_hall", none), "_law_hall", "_law_hall", defArgs t__law_hall, defBody t__law_hall, defScope t__law_hall, [], []⟩
def dd__law_coins : He.DefD := ⟨("_law_coins", none), "_law_coins", "_law_coins", defArgs t__law_coins, defBody t__law_coins, defScope t__law_coins, [], []⟩
def dd__law_shuffled : He.DefD := ⟨("_law_shuffled", none), "_law_shuffled", "_law_shuffled", defArgs t__law_shuffled, defBody t__law_shuffled, defScope t__law_shuffled, [], []⟩
def dd_law : He.DefD := ⟨("law", none), "law", "law", defArgs t_law, defBody t_law, defScope t_law, [], []⟩
def dd__law_kind : He.DefD := ⟨("_law_kind", none), "_law_kind", "_law_kind", defArgs t__law_kind, defBody t__law_kind, defScope t__law_kind, [], []⟩
def fn : List He.DefD := ([dd_is_prime, dd_are_numbers, dd_mixed, dd_check_rows, dd_check_coins, dd_check_two, dd_fingerprint, dd_hall_told, dd_hall, dd_same_hall, dd_pairs_of, dd_passing] : List He.DefD) ++ ([dd_most_passing, dd_check_table, dd_counts_in, dd_shown_told, dd_check_counts, dd_shown_by, dd_passing_counts, dd__law_number, dd__law_draws, dd__law_next, dd__law_more, dd__law_pick] : List He.DefD) ++ ([dd__law_flat, dd__law_some, dd__law_mixed, dd__law_asked, dd__law_hall, dd__law_coins, dd__law_shuffled, dd_law, dd__law_kind] : List He.DefD)
def fa : List He.Fa := ([.glo "is_prime", .glo "are_numbers", .glo "mixed", .glo "check_rows", .glo "check_coins", .glo "check_two", .glo "fingerprint", .glo "hall_told", .glo "hall", .glo "same_hall", .glo "pairs_of", .glo "passing"] : List He.Fa) ++ ([.glo "most_passing", .glo "check_table", .glo "counts_in", .glo "shown_told", .glo "check_counts", .glo "shown_by", .glo "passing_counts", .glo "_law_number", .glo "_law_draws", .glo "_law_next", .glo "_law_more", .glo "_law_pick"] : List He.Fa) ++ ([.glo "_law_flat", .glo "_law_some", .glo "_law_mixed", .glo "_law_asked", .glo "_law_hall", .glo "_law_coins", .glo "_law_shuffled", .glo "law", .glo "_law_kind", .free "all", .free "dict", .free "int"] : List He.Fa) ++ ([.free "isinstance", .free "len", .free "list", .free "max", .free "range", .free "repr", .free "sorted", .free "sum", .free "tuple", .free "zip", .int "LEAST_PRIME" 3, .int "MOST_LISTED" 12] : List He.Fa) ++ ([.int "MOST_PRIME" 89, .int "MOST_WIDTH" 6, .glo "NotProgram", .glo "NotGates", .glo "NotPoly", .glo "NotTalk", .glo "NotPaper", .glo "BadNumber", .glo "NoAnswer", .glo "TooLarge", .glo "Malformed", .glo "ShowError"] : List He.Fa) ++ ([.exc "BadNumber", .exc "NoAnswer"] : List He.Fa)
def raised : List String := ["BadNumber", "NoAnswer"]
abbrev R : PySem.W.OpenRow := PySem.W.OpenLaw.row PySem.Challenge.rw_shownunseen_k52_fingerprints_and_halls
abbrev hk : PySem.W.Hook := hookX 4 fa fn (kindB raised kNames "ShowError")
def ob (s : PySem.W.SharedT) : AlX := obsXG 4 fa fn (kindB raised kNames "ShowError") (HandSHeadRun.getT s)
theorem ob_eq (s : PySem.W.SharedT) : ob s = hk.obs s.abs := obsXG_eq (HandSHeadRun.getT_eq s)
def loose : List Str := (["ShowError", "NotProgram", "NotGates", "NotPoly", "NotTalk", "NotPaper", "BadNumber", "NoAnswer", "TooLarge", "Malformed", "LEAST_PRIME", "MOST_PRIME", "is_prime", "are_numbers", "mixed", "MOST_WIDTH"] : List Str) ++ (["MOST_LISTED", "check_rows", "check_coins", "check_two", "fingerprint", "hall_told", "hall", "same_hall", "pairs_of", "passing", "most_passing", "check_table", "counts_in", "shown_told", "check_counts", "shown_by"] : List Str) ++ (["passing_counts", "_law_number", "_law_draws", "_law_next", "_law_more", "_law_pick", "_law_flat", "_law_kind", "_law_some", "_law_mixed", "_law_asked", "_law_hall", "_law_coins", "_law_shuffled"] : List Str)
theorem run (w : World) : HandSHeadRun.RunEq R (PySem.W.view R.prog [52]) hk ob 4000 loose w := by
  intro os
  kernel_rfl
section
variable {P : Program} {w : World} {K : PySem.W.Frag} {h : Heap} {mg : Str → Option Value}
theorem gl_of (X : K.In h) (G : h.Ns mainGlobals mg) (c : SaysX fa fn (kindB raised kNames "ShowError") K) : Gl K mg := by
  have hr : ∀ c ∈ kNames, mg (Str.ofString c) = some (.ref (He.ga K (Str.ofString c))) := by
    intro x hx
    simp only [kNames, List.mem_cons, List.not_mem_nil, or_false] at hx
    rcases hx with rfl | rfl | rfl | rfl | rfl | rfl | rfl | rfl | rfl | rfl
    · exact He.glo_ok X G (c.d.fact 50 (f := .glo "NotProgram") rfl)
    · exact He.glo_ok X G (c.d.fact 51 (f := .glo "NotGates") rfl)
    · exact He.glo_ok X G (c.d.fact 52 (f := .glo "NotPoly") rfl)
    · exact He.glo_ok X G (c.d.fact 53 (f := .glo "NotTalk") rfl)
    · exact He.glo_ok X G (c.d.fact 54 (f := .glo "NotPaper") rfl)
    · exact He.glo_ok X G (c.d.fact 55 (f := .glo "BadNumber") rfl)
    · exact He.glo_ok X G (c.d.fact 56 (f := .glo "NoAnswer") rfl)
    · exact He.glo_ok X G (c.d.fact 57 (f := .glo "TooLarge") rfl)
    · exact He.glo_ok X G (c.d.fact 58 (f := .glo "Malformed") rfl)
    · exact He.glo_ok X G (c.d.fact 59 (f := .glo "ShowError") rfl)
  have hk : ∀ c, kindOf c ≠ none → c ∈ raised := by
    intro c hc
    unfold kindOf at hc
    by_cases h : c = "BadNumber"
    · subst h; decide
    rw [if_neg h] at hc
    by_cases h : c = "NoAnswer"
    · subst h; decide
    rw [if_neg h] at hc
    exact absurd rfl hc
  have hs : ∀ c ∈ raised, mg (Str.ofString c) = some (.ref (He.ga K (Str.ofString c))) := fun c hc => hr c ((by decide : ∀ c ∈ raised, c ∈ kNames) c hc)
  exact { e_BadNumber := errC_of (c.d.fact 60 (f := .exc "BadNumber") rfl) (hr "BadNumber" (by decide)), e_NoAnswer := errC_of (c.d.fact 61 (f := .exc "NoAnswer") rfl) (hr "NoAnswer" (by decide)), kfacts := kindB_facts c.x hk hs hr, c_LEAST_PRIME := He.int_ok X G (c.d.fact 46 (f := .int "LEAST_PRIME" 3) rfl), c_MOST_LISTED := He.int_ok X G (c.d.fact 47 (f := .int "MOST_LISTED" 12) rfl), c_MOST_PRIME := He.int_ok X G (c.d.fact 48 (f := .int "MOST_PRIME" 89) rfl), c_MOST_WIDTH := He.int_ok X G (c.d.fact 49 (f := .int "MOST_WIDTH" 6) rfl), h_ShowError := kindB_top c.x hk hs (hr "ShowError" (by decide)), n_all := He.free_ok X G (c.d.fact 33 (f := .free "all") rfl), n_dict := He.free_ok X G (c.d.fact 34 (f := .free "dict") rfl), n_int := He.free_ok X G (c.d.fact 35 (f := .free "int") rfl), n_isinstance := He.free_ok X G (c.d.fact 36 (f := .free "isinstance") rfl), n_len := He.free_ok X G (c.d.fact 37 (f := .free "len") rfl), n_list := He.free_ok X G (c.d.fact 38 (f := .free "list") rfl), n_max := He.free_ok X G (c.d.fact 39 (f := .free "max") rfl), n_range := He.free_ok X G (c.d.fact 40 (f := .free "range") rfl), n_repr := He.free_ok X G (c.d.fact 41 (f := .free "repr") rfl), n_sorted := He.free_ok X G (c.d.fact 42 (f := .free "sorted") rfl), n_sum := He.free_ok X G (c.d.fact 43 (f := .free "sum") rfl), n_tuple := He.free_ok X G (c.d.fact 44 (f := .free "tuple") rfl), n_zip := He.free_ok X G (c.d.fact 45 (f := .free "zip") rfl) }
theorem law_fn {f : Addr} (X : K.In h) (G : h.Ns mainGlobals mg) (hf : mg ("law" : Str) = some (.ref f)) (c : SaysX fa fn (kindB raised kNames "ShowError") K) : ∃ fd : FuncData, (∀ (s : Shared) (v : Value), BindsTo s fd ⟨[v], []⟩ [("script", v)]) ∧ ∀ base : Heap, FnG P w K mg base 7 f fd ["script"] (spP ⟨K, mg⟩ 1 s_law) := by
  have gl := gl_of X G c
  obtain ⟨fd_law, F_law⟩ := c.d.def_ 31 (d := dd_law) rfl
  have e := hf.symm.trans (He.glo_ok X G (c.d.fact 31 (f := .glo "law") rfl))
  cases e
  have bs := FunD.bindsA (ps := ["script"]) F_law fun _ _ _ _ _ _ us hl => match us, hl with | [_], _ => rfl
  refine ⟨fd_law, fun s v => bs s [v] rfl, fun base => ?_⟩
  obtain ⟨fd_is_prime, F_is_prime⟩ := c.d.def_ 0 (d := dd_is_prime) rfl
  have m_is_prime := He.glo_ok X G (c.d.fact 0 (f := .glo "is_prime") rfl)
  have n_is_prime : Binds K fd_is_prime ["n"] [] := FunD.bindsN F_is_prime fun _ _ _ _ _ _ us hl => match us, hl with | [_], _ => rfl
  have C_is_prime : CallOk P w K mg base 1 "is_prime" ["n"] (spP ⟨K, mg⟩ 1 s_is_prime) := call_P F_is_prime sc_is_prime m_is_prime n_is_prime (b_is_prime gl )
  obtain ⟨fd_are_numbers, F_are_numbers⟩ := c.d.def_ 1 (d := dd_are_numbers) rfl
  have m_are_numbers := He.glo_ok X G (c.d.fact 1 (f := .glo "are_numbers") rfl)
  have n_are_numbers : Binds K fd_are_numbers ["p", "numbers", "many"] [] := FunD.bindsN F_are_numbers fun _ _ _ _ _ _ us hl => match us, hl with | [_, _, _], _ => rfl
  have C_are_numbers : CallOk P w K mg base 1 "are_numbers" ["p", "numbers", "many"] (spP ⟨K, mg⟩ 3 s_are_numbers) := call_P F_are_numbers sc_are_numbers m_are_numbers n_are_numbers (b_are_numbers gl )
  obtain ⟨fd_mixed, F_mixed⟩ := c.d.def_ 2 (d := dd_mixed) rfl
  have m_mixed := He.glo_ok X G (c.d.fact 2 (f := .glo "mixed") rfl)
  have n_mixed : Binds K fd_mixed ["p", "numbers", "coin"] [] := FunD.bindsN F_mixed fun _ _ _ _ _ _ us hl => match us, hl with | [_, _, _], _ => rfl
  have C_mixed : CallOk P w K mg base 1 "mixed" ["p", "numbers", "coin"] (spP ⟨K, mg⟩ 3 s_mixed) := call_P F_mixed sc_mixed m_mixed n_mixed (b_mixed gl )
  obtain ⟨fd_pairs_of, F_pairs_of⟩ := c.d.def_ 10 (d := dd_pairs_of) rfl
  have m_pairs_of := He.glo_ok X G (c.d.fact 10 (f := .glo "pairs_of") rfl)
  have n_pairs_of : Binds K fd_pairs_of ["p"] [] := FunD.bindsN F_pairs_of fun _ _ _ _ _ _ us hl => match us, hl with | [_], _ => rfl
  have C_pairs_of : CallOk P w K mg base 1 "pairs_of" ["p"] (spP ⟨K, mg⟩ 1 s_pairs_of) := call_P F_pairs_of sc_pairs_of m_pairs_of n_pairs_of (b_pairs_of gl )
  obtain ⟨fd__law_number, F__law_number⟩ := c.d.def_ 19 (d := dd__law_number) rfl
  have m__law_number := He.glo_ok X G (c.d.fact 19 (f := .glo "_law_number") rfl)
  have n__law_number : Binds K fd__law_number ["cell"] [] := FunD.bindsN F__law_number fun _ _ _ _ _ _ us hl => match us, hl with | [_], _ => rfl
  have C__law_number : CallOk P w K mg base 1 "_law_number" ["cell"] (spP ⟨K, mg⟩ 1 s__law_number) := call_P F__law_number sc__law_number m__law_number n__law_number (b__law_number gl )
  obtain ⟨fd__law_next, F__law_next⟩ := c.d.def_ 21 (d := dd__law_next) rfl
  have m__law_next := He.glo_ok X G (c.d.fact 21 (f := .glo "_law_next") rfl)
  have n__law_next : Binds K fd__law_next ["draws"] [] := FunD.bindsN F__law_next fun _ _ _ _ _ _ us hl => match us, hl with | [_], _ => rfl
  have C__law_next : CallOk P w K mg base 1 "_law_next" ["draws"] (spO ⟨K, mg⟩ 1 s__law_next) := call_O F__law_next sc__law_next m__law_next n__law_next (b__law_next gl )
  obtain ⟨fd__law_flat, F__law_flat⟩ := c.d.def_ 24 (d := dd__law_flat) rfl
  have m__law_flat := He.glo_ok X G (c.d.fact 24 (f := .glo "_law_flat") rfl)
  have n__law_flat : Binds K fd__law_flat ["rows"] [] := FunD.bindsN F__law_flat fun _ _ _ _ _ _ us hl => match us, hl with | [_], _ => rfl
  have C__law_flat : CallOk P w K mg base 1 "_law_flat" ["rows"] (spP ⟨K, mg⟩ 1 s__law_flat) := call_P F__law_flat sc__law_flat m__law_flat n__law_flat (b__law_flat gl )
  obtain ⟨fd__law_kind, F__law_kind⟩ := c.d.def_ 32 (d := dd__law_kind) rfl
  have m__law_kind := He.glo_ok X G (c.d.fact 32 (f := .glo "_law_kind") rfl)
  have n__law_kind : Binds K fd__law_kind ["error"] [] := FunD.bindsN F__law_kind fun _ _ _ _ _ _ us hl => match us, hl with | [_], _ => rfl
  have K__law_kind : KindOk P w K mg base 1 "_law_kind" "error" kindOf := ⟨_, _, m__law_kind, F__law_kind.kp, n__law_kind, k__law_kind gl (fun_of F__law_kind)⟩
  obtain ⟨fd__law_mixed, F__law_mixed⟩ := c.d.def_ 26 (d := dd__law_mixed) rfl
  have m__law_mixed := He.glo_ok X G (c.d.fact 26 (f := .glo "_law_mixed") rfl)
  have n__law_mixed : Binds K fd__law_mixed ["p", "numbers", "coin"] [] := FunD.bindsN F__law_mixed fun _ _ _ _ _ _ us hl => match us, hl with | [_, _, _], _ => rfl
  have C__law_mixed : CallOk P w K mg base 1 "_law_mixed" ["p", "numbers", "coin"] (spP ⟨K, mg⟩ 3 s__law_mixed) := call_P F__law_mixed sc__law_mixed m__law_mixed n__law_mixed (b__law_mixed gl )
  obtain ⟨fd_check_rows, F_check_rows⟩ := c.d.def_ 3 (d := dd_check_rows) rfl
  have m_check_rows := He.glo_ok X G (c.d.fact 3 (f := .glo "check_rows") rfl)
  have n_check_rows : Binds K fd_check_rows ["p", "rows", "width"] [] := FunD.bindsN F_check_rows fun _ _ _ _ _ _ us hl => match us, hl with | [_, _, _], _ => rfl
  have C_check_rows : CallOk P w K mg base 2 "check_rows" ["p", "rows", "width"] (spP ⟨K, mg⟩ 3 s_check_rows) := call_P F_check_rows sc_check_rows m_check_rows n_check_rows (b_check_rows gl C_are_numbers C_is_prime)
  obtain ⟨fd_check_coins, F_check_coins⟩ := c.d.def_ 4 (d := dd_check_coins) rfl
  have m_check_coins := He.glo_ok X G (c.d.fact 4 (f := .glo "check_coins") rfl)
  have n_check_coins : Binds K fd_check_coins ["p", "coins"] [] := FunD.bindsN F_check_coins fun _ _ _ _ _ _ us hl => match us, hl with | [_, _], _ => rfl
  have C_check_coins : CallOk P w K mg base 2 "check_coins" ["p", "coins"] (spP ⟨K, mg⟩ 2 s_check_coins) := call_P F_check_coins sc_check_coins m_check_coins n_check_coins (b_check_coins gl C_are_numbers)
  obtain ⟨fd_hall_told, F_hall_told⟩ := c.d.def_ 7 (d := dd_hall_told) rfl
  have m_hall_told := He.glo_ok X G (c.d.fact 7 (f := .glo "hall_told") rfl)
  have n_hall_told : Binds K fd_hall_told ["p", "rows", "a", "b"] [] := FunD.bindsN F_hall_told fun _ _ _ _ _ _ us hl => match us, hl with | [_, _, _, _], _ => rfl
  have C_hall_told : CallOk P w K mg base 2 "hall_told" ["p", "rows", "a", "b"] (spP ⟨K, mg⟩ 4 s_hall_told) := call_P F_hall_told sc_hall_told m_hall_told n_hall_told (b_hall_told gl C_mixed)
  obtain ⟨fd_most_passing, F_most_passing⟩ := c.d.def_ 12 (d := dd_most_passing) rfl
  have m_most_passing := He.glo_ok X G (c.d.fact 12 (f := .glo "most_passing") rfl)
  have n_most_passing : Binds K fd_most_passing ["p", "many", "width"] [] := FunD.bindsN F_most_passing fun _ _ _ _ _ _ us hl => match us, hl with | [_, _, _], _ => rfl
  have C_most_passing : CallOk P w K mg base 2 "most_passing" ["p", "many", "width"] (spP ⟨K, mg⟩ 3 s_most_passing) := call_P F_most_passing sc_most_passing m_most_passing n_most_passing (b_most_passing gl C_is_prime)
  obtain ⟨fd__law_draws, F__law_draws⟩ := c.d.def_ 20 (d := dd__law_draws) rfl
  have m__law_draws := He.glo_ok X G (c.d.fact 20 (f := .glo "_law_draws") rfl)
  have n__law_draws : Binds K fd__law_draws ["script"] [] := FunD.bindsN F__law_draws fun _ _ _ _ _ _ us hl => match us, hl with | [_], _ => rfl
  have C__law_draws : CallOk P w K mg base 2 "_law_draws" ["script"] (spN ⟨K, mg⟩ 1 s__law_draws) := call_N F__law_draws sc__law_draws m__law_draws n__law_draws (b__law_draws gl C__law_number)
  obtain ⟨fd__law_more, F__law_more⟩ := c.d.def_ 22 (d := dd__law_more) rfl
  have m__law_more := He.glo_ok X G (c.d.fact 22 (f := .glo "_law_more") rfl)
  have n__law_more : Binds K fd__law_more ["draws", "many"] [] := FunD.bindsN F__law_more fun _ _ _ _ _ _ us hl => match us, hl with | [_, _], _ => rfl
  have C__law_more : CallOk P w K mg base 2 "_law_more" ["draws", "many"] (spON ⟨K, mg⟩ 2 s__law_more) := call_ON F__law_more sc__law_more m__law_more n__law_more (b__law_more gl C__law_next)
  obtain ⟨fd__law_pick, F__law_pick⟩ := c.d.def_ 23 (d := dd__law_pick) rfl
  have m__law_pick := He.glo_ok X G (c.d.fact 23 (f := .glo "_law_pick") rfl)
  have n__law_pick : Binds K fd__law_pick ["draws", "some"] [] := FunD.bindsN F__law_pick fun _ _ _ _ _ _ us hl => match us, hl with | [_, _], _ => rfl
  have C__law_pick : CallOk P w K mg base 2 "_law_pick" ["draws", "some"] (spO ⟨K, mg⟩ 2 s__law_pick) := call_O F__law_pick sc__law_pick m__law_pick n__law_pick (b__law_pick gl C__law_next)
  obtain ⟨fd__law_some, F__law_some⟩ := c.d.def_ 25 (d := dd__law_some) rfl
  have m__law_some := He.glo_ok X G (c.d.fact 25 (f := .glo "_law_some") rfl)
  have n__law_some : Binds K fd__law_some ["draws", "p", "many"] [] := FunD.bindsN F__law_some fun _ _ _ _ _ _ us hl => match us, hl with | [_, _, _], _ => rfl
  have C__law_some : CallOk P w K mg base 2 "_law_some" ["draws", "p", "many"] (spO ⟨K, mg⟩ 3 s__law_some) := call_O F__law_some sc__law_some m__law_some n__law_some (b__law_some gl C__law_next)
  obtain ⟨fd__law_hall, F__law_hall⟩ := c.d.def_ 28 (d := dd__law_hall) rfl
  have m__law_hall := He.glo_ok X G (c.d.fact 28 (f := .glo "_law_hall") rfl)
  have n__law_hall : Binds K fd__law_hall ["p", "rows", "a", "b"] [] := FunD.bindsN F__law_hall fun _ _ _ _ _ _ us hl => match us, hl with | [_, _, _, _], _ => rfl
  have C__law_hall : CallOk P w K mg base 2 "_law_hall" ["p", "rows", "a", "b"] (spP ⟨K, mg⟩ 4 s__law_hall) := call_P F__law_hall sc__law_hall m__law_hall n__law_hall (b__law_hall gl C__law_mixed)
  obtain ⟨fd__law_coins, F__law_coins⟩ := c.d.def_ 29 (d := dd__law_coins) rfl
  have m__law_coins := He.glo_ok X G (c.d.fact 29 (f := .glo "_law_coins") rfl)
  have n__law_coins : Binds K fd__law_coins ["p"] [] := FunD.bindsN F__law_coins fun _ _ _ _ _ _ us hl => match us, hl with | [_], _ => rfl
  have C__law_coins : CallOk P w K mg base 2 "_law_coins" ["p"] (spP ⟨K, mg⟩ 1 s__law_coins) := call_P F__law_coins sc__law_coins m__law_coins n__law_coins (b__law_coins gl C__law_flat)
  obtain ⟨fd__law_shuffled, F__law_shuffled⟩ := c.d.def_ 30 (d := dd__law_shuffled) rfl
  have m__law_shuffled := He.glo_ok X G (c.d.fact 30 (f := .glo "_law_shuffled") rfl)
  have n__law_shuffled : Binds K fd__law_shuffled ["draws", "rows"] [] := FunD.bindsN F__law_shuffled fun _ _ _ _ _ _ us hl => match us, hl with | [_, _], _ => rfl
  have C__law_shuffled : CallOk P w K mg base 2 "_law_shuffled" ["draws", "rows"] (spO ⟨K, mg⟩ 2 s__law_shuffled) := call_O F__law_shuffled sc__law_shuffled m__law_shuffled n__law_shuffled (b__law_shuffled gl C__law_next)
  obtain ⟨fd_check_two, F_check_two⟩ := c.d.def_ 5 (d := dd_check_two) rfl
  have m_check_two := He.glo_ok X G (c.d.fact 5 (f := .glo "check_two") rfl)
  have n_check_two : Binds K fd_check_two ["p", "rows", "others"] [] := FunD.bindsN F_check_two fun _ _ _ _ _ _ us hl => match us, hl with | [_, _, _], _ => rfl
  have C_check_two : CallOk P w K mg base 3 "check_two" ["p", "rows", "others"] (spP ⟨K, mg⟩ 3 s_check_two) := call_P F_check_two sc_check_two m_check_two n_check_two (b_check_two gl C_check_rows)
  obtain ⟨fd_fingerprint, F_fingerprint⟩ := c.d.def_ 6 (d := dd_fingerprint) rfl
  have m_fingerprint := He.glo_ok X G (c.d.fact 6 (f := .glo "fingerprint") rfl)
  have n_fingerprint : Binds K fd_fingerprint ["p", "row", "a"] [] := FunD.bindsN F_fingerprint fun _ _ _ _ _ _ us hl => match us, hl with | [_, _, _], _ => rfl
  have C_fingerprint : CallOk P w K mg base 3 "fingerprint" ["p", "row", "a"] (spP ⟨K, mg⟩ 3 s_fingerprint) := call_P F_fingerprint sc_fingerprint m_fingerprint n_fingerprint (b_fingerprint gl C_check_coins C_check_rows C_mixed)
  obtain ⟨fd_hall, F_hall⟩ := c.d.def_ 8 (d := dd_hall) rfl
  have m_hall := He.glo_ok X G (c.d.fact 8 (f := .glo "hall") rfl)
  have n_hall : Binds K fd_hall ["p", "rows", "a", "b"] [] := FunD.bindsN F_hall fun _ _ _ _ _ _ us hl => match us, hl with | [_, _, _, _], _ => rfl
  have C_hall : CallOk P w K mg base 3 "hall" ["p", "rows", "a", "b"] (spP ⟨K, mg⟩ 4 s_hall) := call_P F_hall sc_hall m_hall n_hall (b_hall gl C_check_coins C_check_rows C_hall_told)
  obtain ⟨fd_check_table, F_check_table⟩ := c.d.def_ 13 (d := dd_check_table) rfl
  have m_check_table := He.glo_ok X G (c.d.fact 13 (f := .glo "check_table") rfl)
  have n_check_table : Binds K fd_check_table ["p", "rows", "table"] [] := FunD.bindsN F_check_table fun _ _ _ _ _ _ us hl => match us, hl with | [_, _, _], _ => rfl
  have C_check_table : CallOk P w K mg base 3 "check_table" ["p", "rows", "table"] (spP ⟨K, mg⟩ 3 s_check_table) := call_P F_check_table sc_check_table m_check_table n_check_table (b_check_table gl C_check_rows)
  obtain ⟨fd_shown_told, F_shown_told⟩ := c.d.def_ 15 (d := dd_shown_told) rfl
  have m_shown_told := He.glo_ok X G (c.d.fact 15 (f := .glo "shown_told") rfl)
  have n_shown_told : Binds K fd_shown_told ["p", "rows", "table", "counts", "coins"] [] := FunD.bindsN F_shown_told fun _ _ _ _ _ _ us hl => match us, hl with | [_, _, _, _, _], _ => rfl
  have C_shown_told : CallOk P w K mg base 3 "shown_told" ["p", "rows", "table", "counts", "coins"] (spP ⟨K, mg⟩ 5 s_shown_told) := call_P F_shown_told sc_shown_told m_shown_told n_shown_told (b_shown_told gl C_hall_told)
  obtain ⟨fd_same_hall, F_same_hall⟩ := c.d.def_ 9 (d := dd_same_hall) rfl
  have m_same_hall := He.glo_ok X G (c.d.fact 9 (f := .glo "same_hall") rfl)
  have n_same_hall : Binds K fd_same_hall ["p", "rows", "others", "a", "b"] [] := FunD.bindsN F_same_hall fun _ _ _ _ _ _ us hl => match us, hl with | [_, _, _, _, _], _ => rfl
  have C_same_hall : CallOk P w K mg base 4 "same_hall" ["p", "rows", "others", "a", "b"] (spP ⟨K, mg⟩ 5 s_same_hall) := call_P F_same_hall sc_same_hall m_same_hall n_same_hall (b_same_hall gl C_check_coins C_check_two C_hall_told)
  obtain ⟨fd_passing, F_passing⟩ := c.d.def_ 11 (d := dd_passing) rfl
  have m_passing := He.glo_ok X G (c.d.fact 11 (f := .glo "passing") rfl)
  have n_passing : Binds K fd_passing ["p", "rows", "others"] [] := FunD.bindsN F_passing fun _ _ _ _ _ _ us hl => match us, hl with | [_, _, _], _ => rfl
  have C_passing : CallOk P w K mg base 4 "passing" ["p", "rows", "others"] (spP ⟨K, mg⟩ 3 s_passing) := call_P F_passing sc_passing m_passing n_passing (b_passing gl C_check_two C_hall_told C_pairs_of)
  obtain ⟨fd_counts_in, F_counts_in⟩ := c.d.def_ 14 (d := dd_counts_in) rfl
  have m_counts_in := He.glo_ok X G (c.d.fact 14 (f := .glo "counts_in") rfl)
  have n_counts_in : Binds K fd_counts_in ["p", "rows", "table"] [] := FunD.bindsN F_counts_in fun _ _ _ _ _ _ us hl => match us, hl with | [_, _, _], _ => rfl
  have C_counts_in : CallOk P w K mg base 4 "counts_in" ["p", "rows", "table"] (spP ⟨K, mg⟩ 3 s_counts_in) := call_P F_counts_in sc_counts_in m_counts_in n_counts_in (b_counts_in gl C_check_table)
  obtain ⟨fd_check_counts, F_check_counts⟩ := c.d.def_ 16 (d := dd_check_counts) rfl
  have m_check_counts := He.glo_ok X G (c.d.fact 16 (f := .glo "check_counts") rfl)
  have n_check_counts : Binds K fd_check_counts ["p", "rows", "table", "counts"] [] := FunD.bindsN F_check_counts fun _ _ _ _ _ _ us hl => match us, hl with | [_, _, _, _], _ => rfl
  have C_check_counts : CallOk P w K mg base 4 "check_counts" ["p", "rows", "table", "counts"] (spP ⟨K, mg⟩ 4 s_check_counts) := call_P F_check_counts sc_check_counts m_check_counts n_check_counts (b_check_counts gl C_check_table)
  obtain ⟨fd_shown_by, F_shown_by⟩ := c.d.def_ 17 (d := dd_shown_by) rfl
  have m_shown_by := He.glo_ok X G (c.d.fact 17 (f := .glo "shown_by") rfl)
  have n_shown_by : Binds K fd_shown_by ["p", "rows", "table", "counts", "a", "b"] [] := FunD.bindsN F_shown_by fun _ _ _ _ _ _ us hl => match us, hl with | [_, _, _, _, _, _], _ => rfl
  have C_shown_by : CallOk P w K mg base 5 "shown_by" ["p", "rows", "table", "counts", "a", "b"] (spP ⟨K, mg⟩ 6 s_shown_by) := call_P F_shown_by sc_shown_by m_shown_by n_shown_by (b_shown_by gl C_check_coins C_check_counts C_shown_told)
  obtain ⟨fd_passing_counts, F_passing_counts⟩ := c.d.def_ 18 (d := dd_passing_counts) rfl
  have m_passing_counts := He.glo_ok X G (c.d.fact 18 (f := .glo "passing_counts") rfl)
  have n_passing_counts : Binds K fd_passing_counts ["p", "rows", "table", "counts"] [] := FunD.bindsN F_passing_counts fun _ _ _ _ _ _ us hl => match us, hl with | [_, _, _, _], _ => rfl
  have C_passing_counts : CallOk P w K mg base 5 "passing_counts" ["p", "rows", "table", "counts"] (spP ⟨K, mg⟩ 4 s_passing_counts) := call_P F_passing_counts sc_passing_counts m_passing_counts n_passing_counts (b_passing_counts gl C_check_counts C_pairs_of C_shown_told)
  obtain ⟨fd__law_asked, F__law_asked⟩ := c.d.def_ 27 (d := dd__law_asked) rfl
  have m__law_asked := He.glo_ok X G (c.d.fact 27 (f := .glo "_law_asked") rfl)
  have n__law_asked : Binds K fd__law_asked ["way", "p", "rows", "others", "one", "two"] [] := FunD.bindsN F__law_asked fun _ _ _ _ _ _ us hl => match us, hl with | [_, _, _, _, _, _], _ => rfl
  have C__law_asked : CallOk P w K mg base 6 "_law_asked" ["way", "p", "rows", "others", "one", "two"] (spP ⟨K, mg⟩ 6 s__law_asked) := call_P F__law_asked sc__law_asked m__law_asked n__law_asked (b__law_asked gl K__law_kind C_counts_in C_fingerprint C_hall C_most_passing C_passing C_passing_counts C_same_hall C_shown_by)
  exact def_P (fun_of F_law) sc_law (b_law gl C__law_asked C__law_coins C__law_draws C__law_flat C__law_hall C__law_mixed C__law_more C__law_next C__law_pick C__law_shuffled C__law_some C_passing)
end
end PP.B52
open PySem PySem.W PySem.Calls PyProof.Rows
theorem PySem.Challenge.cw_shownunseen_k52_fingerprints_and_halls_holds : PySem.Challenge.rw_shownunseen_k52_fingerprints_and_halls.Holds := by
  w_on; o_law
  refine HandSHeadRun.head_any (r := OpenLaw.row PySem.Challenge.rw_shownunseen_k52_fingerprints_and_halls) (q := view (OpenLaw.row PySem.Challenge.rw_shownunseen_k52_fingerprints_and_halls).prog [52]) (H := PP.B52.hk) (ob := PP.B52.ob) (M := 4000) (loose := PP.B52.loose) (d := HandSHeadRun.topDef (OpenLaw.row PySem.Challenge.rw_shownunseen_k52_fingerprints_and_halls).prog 52) (kwd := []) PP.B52.ob_eq
    (by kernel_rfl) (fun s => by kernel_rfl) PP.B52.run (by kernel_rfl) (by kernel_rfl) (by kernel_rfl) (by rfl) (by first | assumption | decide +kernel) (by decide +kernel) ⟨rfl, rfl, rfl, rfl, rfl, by decide +kernel⟩ ?hw ?hc
  case hw => w_witness2
  case hc =>
    refine PP.walk_G (l := PySem.Challenge.rw_shownunseen_k52_fingerprints_and_halls) (n := 63) (k := 7) (x := "script") rfl (by decide) (by kernel_rfl) ⟨rfl, by decide, by decide⟩ ?F
    intro w mg fa h Y G hmg0
    obtain ⟨K, KX, c⟩ := Y
    have hmg : mg ("law" : PySem.Str) = some (.ref fa) := by
      have e : (HandSHeadRun.topDef (OpenLaw.row PySem.Challenge.rw_shownunseen_k52_fingerprints_and_halls).prog 52).name = ("law" : PySem.Str) := by kernel_rfl
      rw [← e]
      exact hmg0
    obtain ⟨fd, hb, hF⟩ := PP.B52.law_fn (P := PySem.Challenge.rw_shownunseen_k52_fingerprints_and_halls.prog) (w := w) KX G hmg c
    exact ⟨K, fd, _, KX, hb, fun H a ns hl _ hS => PP.sp_law PP.B52.law_true H a ns hl hS, fun base _ _ => hF base⟩
