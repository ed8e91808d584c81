import PyProof.Rows.All
import HandS.ForMost
import HandS.Deep
import HandS.TupAny
import HandS.Walk
import HandS.Wide
import HandS.Rev
import HandS.RevRange
import HandS.Nested
import HandS.NestedK
import HandS.IsInst
import HandS.SortInts
import PyProof.ListStr
import PyProof.StrBlock2
import PyProof.SeqIndex
import HandS.Strs
import HandS.Dict
import HandS.More
import HandS.WordsDict
import HandS.SetFor
import HandS.Conv
import PySem.Challenge.RW_placesay_k06_sought
import PyProof.Rows.StrJoinRep
set_option Elab.async false
set_option linter.all false
set_option maxRecDepth 100000
/-! Pl: an evaluator over plain data for a small language of terms, and its soundness over the hand layer: the values, what stands where. -/
namespace Pl
open PySem PySem.Spec PyProof.Rows L2

/-! ### plain data at values -/
mutual
inductive Rp (Hf : Hp) : V → PyData → Prop
  | non : Rp Hf .non .none
  | bl (b : Bool) : Rp Hf (.bl b) (.bool b)
  | int (i : Int) : Rp Hf (.int i) (.int i)
  | str (x : Str) : Rp Hf (.str x) (.str x)
  | lst {a : Addr} {xs : List V} {ds : List PyData} : Hf a = some (.lst xs) → RpAll Hf xs ds → Rp Hf (.ref a) (.list ds)
  | tup {a : Addr} {o : Obj} {xs : List V} {ds : List PyData} : Hf a = some (.frz o (.tup xs)) → o.dict = none → RpAll Hf xs ds → Rp Hf (.ref a) (.tuple ds)
inductive RpAll (Hf : Hp) : List V → List PyData → Prop
  | nil : RpAll Hf [] []
  | cons {v : V} {vs : List V} {d : PyData} {ds : List PyData} : Rp Hf v d → RpAll Hf vs ds → RpAll Hf (v :: vs) (d :: ds)
end
def Ex (H H' : Hp) : Prop := ∀ a o, H a = some o → H' a = some o
theorem Ex.refl (H : Hp) : Ex H H := fun _ _ h => h
theorem Ex.trans {H H1 H2 : Hp} (a : Ex H H1) (b : Ex H1 H2) : Ex H H2 := fun x o h => b x o (a x o h)
theorem Ex.new {H : Hp} {p : Addr} {o : HO} (h : H p = none) : Ex H (upd H p o) := fun a u e => by
  rw [upd_ne (ne_of_none e h)]
  exact e
mutual
theorem Rp.mono {H H' : Hp} (e : Ex H H') : ∀ (d : PyData) (v : V), Rp H v d → Rp H' v d
  | .none, _, .non => .non
  | .bool b, _, .bl _ => .bl b
  | .int i, _, .int _ => .int i
  | .str x, _, .str _ => .str x
  | .list ds, _, .lst h hs => .lst (e _ _ h) (RpAll.mono e ds _ hs)
  | .tuple ds, _, .tup h hd hs => .tup (e _ _ h) hd (RpAll.mono e ds _ hs)
theorem RpAll.mono {H H' : Hp} (e : Ex H H') : ∀ (ds : List PyData) (vs : List V), RpAll H vs ds → RpAll H' vs ds
  | [], _, .nil => .nil
  | d :: ds, _, .cons h hs => .cons (Rp.mono e d _ h) (RpAll.mono e ds _ hs)
end
mutual
theorem Rp.dp {K : PySem.W.Frag} {H : Hp} : ∀ (d : PyData) (v : V), Rp H v d → Dp K H v d
  | .none, _, .non => .non
  | .bool b, _, .bl _ => .bl b
  | .int i, _, .int _ => .int i
  | .str x, _, .str _ => .str x
  | .list ds, _, .lst h hs => .lst (SqL.of h) (RpAll.dp ds _ hs)
  | .tuple ds, _, .tup h _ hs => .tup (.inl (.inr ⟨_, h⟩)) (RpAll.dp ds _ hs)
theorem RpAll.dp {K : PySem.W.Frag} {H : Hp} : ∀ (ds : List PyData) (vs : List V), RpAll H vs ds → DpAll K H vs ds
  | [], _, .nil => .nil
  | d :: ds, _, .cons h hs => .cons (Rp.dp d _ h) (RpAll.dp ds _ hs)
end
theorem RpAll.len {H : Hp} : ∀ {ds : List PyData} {vs : List V}, RpAll H vs ds → vs.length = ds.length
  | [], _, .nil => rfl
  | _ :: _, _, .cons _ hs => by rw [List.length_cons, List.length_cons, hs.len]
theorem RpAll.append {H : Hp} : ∀ {ds es : List PyData} {vs ws : List V}, RpAll H vs ds → RpAll H ws es → RpAll H (vs ++ ws) (ds ++ es)
  | [], _, _, _, .nil, h => h
  | _ :: _, _, _, _, .cons h hs, k => .cons h (hs.append k)
theorem RpAll.get {H : Hp} : ∀ {ds : List PyData} {vs : List V} {i : Nat} {d : PyData}, RpAll H vs ds → ds[i]? = some d → ∃ v, vs[i]? = some v ∧ Rp H v d
  | [], _, i, _, .nil, e => by simp at e
  | _ :: _, _, 0, d, .cons h _, e => by
    simp at e
    subst e
    exact ⟨_, rfl, h⟩
  | _ :: _, _, i + 1, d, .cons _ hs, e => by
    obtain ⟨v, h1, h2⟩ := hs.get (i := i) (d := d) (by simpa using e)
    exact ⟨v, by simpa using h1, h2⟩
theorem RpAll.getV {H : Hp} {ds : List PyData} {vs : List V} {i : Nat} {v : V} (h : RpAll H vs ds) (e : vs[i]? = some v) : ∃ d, ds[i]? = some d ∧ Rp H v d := by
  have hl := h.len
  have hi : i < vs.length := (List.getElem?_eq_some_iff.mp e).1
  have hd : ds[i]? = some (ds[i]'(by omega)) := List.getElem?_eq_getElem _
  obtain ⟨v', e', r⟩ := h.get hd
  rw [e] at e'
  cases e'
  exact ⟨_, hd, r⟩
theorem RpAll.take {H : Hp} : ∀ {ds : List PyData} {vs : List V} (n : Nat), RpAll H vs ds → RpAll H (vs.take n) (ds.take n)
  | _, _, 0, _ => .nil
  | [], _, n + 1, .nil => .nil
  | _ :: _, _, n + 1, .cons h hs => .cons h (hs.take n)
theorem RpAll.drop {H : Hp} : ∀ {ds : List PyData} {vs : List V} (n : Nat), RpAll H vs ds → RpAll H (vs.drop n) (ds.drop n)
  | _, _, 0, h => h
  | [], _, n + 1, .nil => .nil
  | _ :: _, _, n + 1, .cons _ hs => RpAll.drop n hs
theorem RpAll.set {H : Hp} {v : V} {d : PyData} (r : Rp H v d) : ∀ {ds : List PyData} {vs : List V} (n : Nat), RpAll H vs ds → RpAll H (vs.set n v) (ds.set n d)
  | [], _, n, .nil => .nil
  | _ :: _, _, 0, .cons _ hs => .cons r hs
  | _ :: _, _, n + 1, .cons h hs => .cons h (hs.set r n)

/-! ### what the slots hold -/
/-- a local: data; a list of one's own that may grow; the tape; the script; a dict of one's own -/
inductive LV where
  | d (x : PyData)
  | own (xs : List PyData)
  | tp
  | scr (ns : List Int)
  | dk (n : Bool) (kvs : List (Key × PyData))
  | gd (kvs : List (Key × PyData))
  | dt (kvs : List (List Key × PyData))
def LV.mut : LV → Bool
  | .own _ => true
  | .dk _ _ => true
  | .dt _ => true
  | _ => false
abbrev Env := List (Option LV)
inductive KvAll {κ : Type} (Hf : Hp) : List (κ × V) → List (κ × PyData) → Prop
  | nil : KvAll Hf [] []
  | cons {k : κ} {v : V} {vs : List (κ × V)} {d : PyData} {ds : List (κ × PyData)} : Rp Hf v d → KvAll Hf vs ds → KvAll Hf ((k, v) :: vs) ((k, d) :: ds)
theorem KvAll.mono {κ : Type} {H H' : Hp} (e : Ex H H') : ∀ {ds : List (κ × PyData)} {vs : List (κ × V)}, KvAll H vs ds → KvAll H' vs ds
  | _, _, .nil => .nil
  | _, _, .cons h hs => .cons (Rp.mono e _ _ h) (KvAll.mono e hs)
/-- what this value points to is not in H -/
def NwV (H : Hp) (v : V) : Prop := ∀ r, v = .ref r → H r = none
def LvOK (K : PySem.W.Frag) (T : Addr) (H0 Hf H : Hp) (v : V) : LV → Prop
  | .d x => Rp Hf v x
  | .own xs => ∃ l vs, v = .ref l ∧ Hf l = none ∧ H l = some (.lst vs) ∧ RpAll Hf vs xs
  | .tp => v = .ref T
  | .scr ns => ∃ l, v = .ref l ∧ SqL K Hf l (ns.map V.int)
  | .dk n kvs => ∃ l vs, v = .ref l ∧ Hf l = none ∧ H l = some (.dK vs) ∧ KvAll Hf vs kvs ∧ (n = true → ∀ p ∈ vs, NwV H0 p.2)
  | .gd kvs => ∃ l vs, v = .ref l ∧ Hf l = some (.dK vs) ∧ KvAll Hf vs kvs
  | .dt kvs => ∃ l vs, v = .ref l ∧ Hf l = none ∧ H l = some (.dT vs) ∧ KvAll Hf vs kvs
/-- from (Hf, H) to (Hf', H'): all that was tracked but the tape is as it was; what was not frozen is not -/
structure Kp (T : Addr) (Hf H Hf' H' : Hp) : Prop where
  ex : Ex Hf Hf'
  same : ∀ b o, b ≠ T → H b = some o → H' b = some o
  away : ∀ b o, H b = some o → Hf b = none → Hf' b = none
  tt : H T ≠ none → H' T ≠ none
theorem Kp.refl (T : Addr) (Hf H : Hp) : Kp T Hf H Hf H := ⟨Ex.refl _, fun _ _ _ h => h, fun _ _ _ h => h, id⟩
theorem Kp.trans {T : Addr} {Hf H Hf1 H1 Hf2 H2 : Hp} (a : Kp T Hf H Hf1 H1) (b : Kp T Hf1 H1 Hf2 H2) : Kp T Hf H Hf2 H2 where
  ex := a.ex.trans b.ex
  same := fun c o n h => b.same c o n (a.same c o n h)
  away := fun c o h hn => by
    have h1 := a.away c o h hn
    by_cases e : c = T
    · subst e
      have q : H1 c ≠ none := a.tt (by rw [h]; simp)
      cases e : H1 c with
      | none => exact absurd e q
      | some o' => exact b.away c o' e h1
    · exact b.away c o (a.same c o e h) h1
  tt := fun h => b.tt (a.tt h)
theorem Kp.free {T : Addr} {Hf H Hf' H' : Hp} (k : Kp T Hf H Hf' H') {p : Addr} (h : H' p = none) : H p = none := by
  cases e : H p with
  | none => rfl
  | some o =>
    by_cases hp : p = T
    · subst hp
      exact absurd h (k.tt (by rw [e]; simp))
    · rw [k.same p o hp e] at h
      cases h
theorem Kp.new {T : Addr} {Hf H : Hp} {p : Addr} {o : HO} (ex : Ex Hf H) (h : H p = none) : Kp T Hf H (upd Hf p o) (upd H p o) where
  ex := Ex.new (by
    cases e : Hf p with
    | none => rfl
    | some u =>
      rw [ex p u e] at h
      cases h)
  same := fun b u _ e => by
    rw [upd_ne (ne_of_none e h)]
    exact e
  away := fun b u e n => by
    rw [upd_ne (ne_of_none e h)]
    exact n
  tt := fun ht => by
    cases e : H T with
    | none => exact absurd e ht
    | some u =>
      rw [upd_ne (ne_of_none e h), e]
      simp
/-- the state of a def's run: H0, Hf0 at its entry -/
structure Abs (K : PySem.W.Frag) (T : Addr) (H0 Hf0 : Hp) (Hf : Hp) (env : Env) (t : Int) (σ : L2.St) (H : Hp) : Prop where
  ex : Ex Hf H
  kp : Kp T Hf0 H0 Hf H
  len : σ.length = env.length
  loc : ∀ (i : Nat) (lv : LV), env[i]? = some (some lv) → ∃ v, σ[i]? = some (some v) ∧ LvOK K T H0 Hf H v lv
  new : ∀ (i : Nat) (lv : LV) (a : Addr), env[i]? = some (some lv) → lv.mut = true → σ[i]? = some (some (.ref a)) → H0 a = none
  sep : ∀ (i j : Nat) (lv lv' : LV) (a : Addr), i ≠ j → env[i]? = some (some lv) → lv.mut = true → env[j]? = some (some lv') → lv'.mut = true → σ[i]? = some (some (.ref a)) → σ[j]? = some (some (.ref a)) → False
  tf : Hf T = none
  th : H T = some (.lst [.int t])
  t0 : H0 T ≠ none
section
variable {K : PySem.W.Frag} {T : Addr} {H0 Hf0 Hf Hf' : Hp} {env : Env} {t t' : Int} {σ : L2.St} {H H' : Hp}
theorem LvOK.kp {v : V} (k : Kp T Hf H Hf' H') (tf : Hf T = none) (th : H T ≠ none) : ∀ {lv : LV}, (lv.mut = true → v ≠ .ref T) → LvOK K T H0 Hf H v lv → LvOK K T H0 Hf' H' v lv
  | .d x, _, h => Rp.mono k.ex _ _ h
  | .own xs, hm, ⟨l, vs, e, a, b, c⟩ => ⟨l, vs, e, k.away l _ b a, k.same l _ (fun z => hm rfl (by rw [e, z])) b, RpAll.mono k.ex _ _ c⟩
  | .tp, _, h => h
  | .scr ns, _, ⟨l, e, h⟩ => ⟨l, e, Same.seq k.ex h⟩
  | .dk n kvs, hm, ⟨l, vs, e, a, b, c, d⟩ => ⟨l, vs, e, k.away l _ b a, k.same l _ (fun z => hm rfl (by rw [e, z])) b, KvAll.mono k.ex c, d⟩
  | .gd kvs, _, ⟨l, vs, e, a, c⟩ => ⟨l, vs, e, k.ex _ _ a, KvAll.mono k.ex c⟩
  | .dt kvs, hm, ⟨l, vs, e, a, b, c⟩ => ⟨l, vs, e, k.away l _ b a, k.same l _ (fun z => hm rfl (by rw [e, z])) b, KvAll.mono k.ex c⟩
theorem Abs.mutT (A : Abs K T H0 Hf0 Hf env t σ H) {i : Nat} {lv : LV} {v : V} (h : env[i]? = some (some lv)) (hv : σ[i]? = some (some v)) (hm : lv.mut = true) : v ≠ .ref T := fun e => by
  subst e
  exact A.t0 (A.new i lv T h hm hv)
/-- the state goes on where nothing but the tape and new things changed -/
theorem Abs.kept (A : Abs K T H0 Hf0 Hf env t σ H) (k : Kp T Hf H Hf' H') (ex : Ex Hf' H') (th : H' T = some (.lst [.int t'])) : Abs K T H0 Hf0 Hf' env t' σ H' where
  ex := ex
  kp := A.kp.trans k
  len := A.len
  loc := fun i lv h => by
    obtain ⟨v, hv, ok⟩ := A.loc i lv h
    exact ⟨v, hv, ok.kp k A.tf (by rw [A.th]; simp) (A.mutT h hv)⟩
  new := A.new
  sep := A.sep
  tf := k.away T _ A.th A.tf
  th := th
  t0 := A.t0
theorem Abs.fresh (A : Abs K T H0 Hf0 Hf env t σ H) {p : Addr} (h : H p = none) : Hf p = none ∧ H0 p = none ∧ p ≠ T := by
  refine ⟨?_, A.kp.free h, fun z => ?_⟩
  · cases e : Hf p with
    | none => rfl
    | some u =>
      rw [A.ex p u e] at h
      cases h
  · subst z
    rw [A.th] at h
    cases h
/-- a new frozen object -/
theorem Abs.newd (A : Abs K T H0 Hf0 Hf env t σ H) {p : Addr} {o : HO} (h : H p = none) : Abs K T H0 Hf0 (upd Hf p o) env t σ (upd H p o) :=
  A.kept (Kp.new A.ex h) (fun a u e => by
    by_cases hp : a = p
    · subst hp
      rw [upd_same] at e ⊢
      exact e
    · rw [upd_ne hp] at e ⊢
      exact A.ex a u e) (by
    rw [upd_ne (fun z => (A.fresh h).2.2 z.symm)]
    exact A.th)
theorem Abs.kpn (A : Abs K T H0 Hf0 Hf env t σ H) {p : Addr} {o : HO} (h : H p = none) : Kp T Hf H (upd Hf p o) (upd H p o) := Kp.new A.ex h
/-- a slot is stored: data -/
theorem Abs.set (A : Abs K T H0 Hf0 Hf env t σ H) {i : Nat} {x : PyData} {v : V} (r : Rp Hf v x) : Abs K T H0 Hf0 Hf (env.set i (some (.d x))) t (σ.set i (some v)) H where
  ex := A.ex
  kp := A.kp
  len := by rw [List.length_set, List.length_set]; exact A.len
  loc := fun j lv h => by
    by_cases e : i = j
    · subst e
      have hi : i < env.length := by
        have := (List.getElem?_eq_some_iff.mp h).1
        rw [List.length_set] at this
        exact this
      rw [List.getElem?_set_self hi] at h
      cases h
      exact ⟨v, List.getElem?_set_self (by rw [A.len]; exact hi), r⟩
    · rw [List.getElem?_set_ne e] at h
      rw [List.getElem?_set_ne e]
      exact A.loc j lv h
  new := fun j lv a h hm hs => by
    by_cases e : i = j
    · subst e
      have hi : i < env.length := by
        have := (List.getElem?_eq_some_iff.mp h).1
        rw [List.length_set] at this
        exact this
      rw [List.getElem?_set_self hi] at h
      cases h
      cases hm
    · rw [List.getElem?_set_ne e] at h hs
      exact A.new j lv a h hm hs
  sep := fun j k lv lv' a n hj mj hk mk sj sk => by
    have q : ∀ {m : Nat} {l : LV}, (env.set i (some (LV.d x)))[m]? = some (some l) → l.mut = true → i ≠ m := fun {m l} h hm e => by
      subst e
      have hi : i < env.length := by
        have := (List.getElem?_eq_some_iff.mp h).1
        rw [List.length_set] at this
        exact this
      rw [List.getElem?_set_self hi] at h
      cases h
      cases hm
    have ej := q hj mj
    have ek := q hk mk
    rw [List.getElem?_set_ne ej] at hj sj
    rw [List.getElem?_set_ne ek] at hk sk
    exact A.sep j k lv lv' a n hj mj hk mk sj sk
  tf := A.tf
  th := A.th
  t0 := A.t0
/-- a slot is forgotten -/
theorem Abs.unset (A : Abs K T H0 Hf0 Hf env t σ H) {i : Nat} : Abs K T H0 Hf0 Hf (env.set i none) t (σ.set i none) H where
  ex := A.ex
  kp := A.kp
  len := by rw [List.length_set, List.length_set]; exact A.len
  loc := fun j lv h => by
    have e : i ≠ j := fun e => by
      subst e
      have hi : i < env.length := by
        have := (List.getElem?_eq_some_iff.mp h).1
        rw [List.length_set] at this
        exact this
      rw [List.getElem?_set_self hi] at h
      cases h
    rw [List.getElem?_set_ne e] at h
    rw [List.getElem?_set_ne e]
    exact A.loc j lv h
  new := fun j lv a h hm hs => by
    have e : i ≠ j := fun e => by
      subst e
      have hi : i < env.length := by
        have := (List.getElem?_eq_some_iff.mp h).1
        rw [List.length_set] at this
        exact this
      rw [List.getElem?_set_self hi] at h
      cases h
    rw [List.getElem?_set_ne e] at h hs
    exact A.new j lv a h hm hs
  sep := fun j k lv lv' a n hj mj hk mk sj sk => by
    have q : ∀ {m : Nat} {l : LV}, (env.set i none)[m]? = some (some l) → i ≠ m := fun {m l} h e => by
      subst e
      have hi : i < env.length := by
        have := (List.getElem?_eq_some_iff.mp h).1
        rw [List.length_set] at this
        exact this
      rw [List.getElem?_set_self hi] at h
      cases h
    have ej := q hj
    have ek := q hk
    rw [List.getElem?_set_ne ej] at hj sj
    rw [List.getElem?_set_ne ek] at hk sk
    exact A.sep j k lv lv' a n hj mj hk mk sj sk
  tf := A.tf
  th := A.th
  t0 := A.t0
@[simp] def wipeE (env : Env) : List Nat → Env
  | [] => env
  | v :: vs => (wipeE env vs).set v none
theorem Abs.wipe (A : Abs K T H0 Hf0 Hf env t σ H) : ∀ vs : List Nat, Abs K T H0 Hf0 Hf (wipeE env vs) t (wipe σ vs) H
  | [] => A
  | v :: vs => (A.wipe vs).unset
/-- a slot is stored: a new mutable thing at p -/
theorem Abs.setM (A : Abs K T H0 Hf0 Hf env t σ H) {i : Nat} {p : Addr} {o : HO} {lv : LV} (hp : H p = none) (hm : lv.mut = true) (ok : LvOK K T H0 Hf (upd H p o) (.ref p) lv) : Abs K T H0 Hf0 Hf (env.set i (some lv)) t (σ.set i (some (.ref p))) (upd H p o) := by
  obtain ⟨f1, f2, f3⟩ := A.fresh hp
  have kk : Kp T Hf H Hf (upd H p o) := ⟨Ex.refl _, fun b u _ e => by rw [upd_ne (ne_of_none e hp)]; exact e, fun _ _ _ h => h, fun ht => by
    rw [upd_ne f3.symm]
    exact ht⟩
  have B : Abs K T H0 Hf0 Hf env t σ (upd H p o) := A.kept kk (fun a u e => by rw [upd_ne (ne_of_none e f1)]; exact A.ex a u e) (by rw [upd_ne f3.symm]; exact A.th)
  have nop : ∀ {j : Nat} {l : LV} {a : Addr}, env[j]? = some (some l) → l.mut = true → σ[j]? = some (some (.ref a)) → a ≠ p := fun {j l a} h hm hs e => by
    subst e
    obtain ⟨v, hv, ok⟩ := A.loc j l h
    rw [hs] at hv
    cases hv
    cases l with
    | own xs =>
      obtain ⟨l, vs, e, _, b, _⟩ := ok
      cases e
      rw [hp] at b
      cases b
    | dk xs =>
      obtain ⟨l, vs, e, _, b, _⟩ := ok
      cases e
      rw [hp] at b
      cases b
    | dt xs =>
      obtain ⟨l, vs, e, _, b, _⟩ := ok
      cases e
      rw [hp] at b
      cases b
    | _ => cases hm
  refine ⟨B.ex, B.kp, by rw [List.length_set, List.length_set]; exact A.len, fun j l h => ?_, fun j l a h hm' hs => ?_, fun j k l l' a n hj mj hk mk sj sk => ?_, B.tf, B.th, B.t0⟩
  · by_cases e : i = j
    · subst e
      have hi : i < env.length := by
        have := (List.getElem?_eq_some_iff.mp h).1
        rw [List.length_set] at this
        exact this
      rw [List.getElem?_set_self hi] at h
      cases h
      exact ⟨_, List.getElem?_set_self (by rw [A.len]; exact hi), ok⟩
    · rw [List.getElem?_set_ne e] at h
      rw [List.getElem?_set_ne e]
      exact B.loc j l h
  · by_cases e : i = j
    · subst e
      have hi : i < σ.length := by
        have := (List.getElem?_eq_some_iff.mp hs).1
        rw [List.length_set] at this
        exact this
      rw [List.getElem?_set_self hi] at hs
      cases hs
      exact f2
    · rw [List.getElem?_set_ne e] at h hs
      exact A.new j l a h hm' hs
  · have q : ∀ {m : Nat} {b : Addr}, i = m → (σ.set i (some (V.ref p)))[m]? = some (some (.ref b)) → b = p := fun {m b} e hs => by
      subst e
      have hi : i < σ.length := by
        have := (List.getElem?_eq_some_iff.mp hs).1
        rw [List.length_set] at this
        exact this
      rw [List.getElem?_set_self hi] at hs
      cases hs
      rfl
    by_cases ej : i = j
    · have ea := q ej sj
      subst ea
      have ek : i ≠ k := fun z => n (ej.symm.trans z)
      rw [List.getElem?_set_ne ek] at hk sk
      exact nop hk mk sk rfl
    · rw [List.getElem?_set_ne ej] at hj sj
      by_cases ek : i = k
      · have ea := q ek sk
        subst ea
        exact nop hj mj sj rfl
      · rw [List.getElem?_set_ne ek] at hk sk
        exact A.sep j k l l' a n hj mj hk mk sj sk
/-- a mutable thing of one's own is written -/
theorem Abs.write (A : Abs K T H0 Hf0 Hf env t σ H) {i : Nat} {p : Addr} {o : HO} {lv lv' : LV} (he : env[i]? = some (some lv)) (hm : lv.mut = true) (hs : σ[i]? = some (some (.ref p))) (hf : Hf p = none) (hm' : lv'.mut = true) (ok : LvOK K T H0 Hf (upd H p o) (.ref p) lv') :
    Abs K T H0 Hf0 Hf (env.set i (some lv')) t σ (upd H p o) := by
  have f2 : H0 p = none := A.new i lv p he hm hs
  have f3 : p ≠ T := fun z => A.t0 (by rw [← z]; exact f2)
  have hi : i < env.length := (List.getElem?_eq_some_iff.mp he).1
  refine ⟨fun a u e => by rw [upd_ne (ne_of_none e hf)]; exact A.ex a u e, ⟨A.kp.ex, fun b u n e => by rw [upd_ne (ne_of_none e f2)]; exact A.kp.same b u n e, A.kp.away, fun h => by rw [upd_ne f3.symm]; exact A.kp.tt h⟩, by rw [List.length_set]; exact A.len, fun j l h => ?_, fun j l a h hm2 hs2 => ?_, fun j k l l' a n hj mj hk mk sj sk => ?_, A.tf, by rw [upd_ne f3.symm]; exact A.th, A.t0⟩
  · by_cases e : i = j
    · subst e
      rw [List.getElem?_set_self hi] at h
      cases h
      exact ⟨_, hs, ok⟩
    · rw [List.getElem?_set_ne e] at h
      obtain ⟨v, hv, okv⟩ := A.loc j l h
      refine ⟨v, hv, ?_⟩
      have nep : l.mut = true → v ≠ .ref p := fun ml z => by
        subst z
        exact A.sep i j lv l p e he hm h ml hs hv
      cases l with
      | d x => exact okv
      | tp => exact okv
      | scr ns => exact okv
      | own xs =>
        obtain ⟨q, vs, e1, e2, e3, e4⟩ := okv
        exact ⟨q, vs, e1, e2, by rw [upd_ne (fun z => nep rfl (by rw [e1, z]))]; exact e3, e4⟩
      | dk n xs =>
        obtain ⟨q, vs, e1, e2, e3, e4⟩ := okv
        exact ⟨q, vs, e1, e2, by rw [upd_ne (fun z => nep rfl (by rw [e1, z]))]; exact e3, e4⟩
      | gd xs => exact okv
      | dt xs =>
        obtain ⟨q, vs, e1, e2, e3, e4⟩ := okv
        exact ⟨q, vs, e1, e2, by rw [upd_ne (fun z => nep rfl (by rw [e1, z]))]; exact e3, e4⟩
  · by_cases e : i = j
    · subst e
      exact A.new i lv a he hm hs2
    · rw [List.getElem?_set_ne e] at h
      exact A.new j l a h hm2 hs2
  · have q : ∀ {m : Nat} {l : LV}, (env.set i (some lv'))[m]? = some (some l) → l.mut = true → ∃ l2, env[m]? = some (some l2) ∧ l2.mut = true := fun {m l} h ml => by
      by_cases e : i = m
      · subst e
        exact ⟨lv, he, hm⟩
      · rw [List.getElem?_set_ne e] at h
        exact ⟨l, h, ml⟩
    obtain ⟨l1, a1, a2⟩ := q hj mj
    obtain ⟨l2, b1, b2⟩ := q hk mk
    exact A.sep j k l1 l2 a n a1 a2 b1 b2 sj sk
/-- a list of one's own is frozen -/
theorem Abs.freeze (A : Abs K T H0 Hf0 Hf env t σ H) {i : Nat} {xs : List PyData} (he : env[i]? = some (some (.own xs))) : ∃ Hf', Ex Hf Hf' ∧ Abs K T H0 Hf0 Hf' (env.set i (some (.d (.list xs)))) t σ H := by
  obtain ⟨v, hv, l, vs, e1, e2, e3, e4⟩ := A.loc i _ he
  subst e1
  have f2 : H0 l = none := A.new i _ l he rfl hv
  have f3 : l ≠ T := fun z => A.t0 (by rw [← z]; exact f2)
  have hi : i < env.length := (List.getElem?_eq_some_iff.mp he).1
  have ex : Ex Hf (upd Hf l (.lst vs)) := Ex.new e2
  refine ⟨upd Hf l (.lst vs), ex, fun a u e => ?_, ⟨A.kp.ex.trans ex, A.kp.same, fun b u h1 h2 => ?_, A.kp.tt⟩, by rw [List.length_set]; exact A.len, fun j lv h => ?_, fun j lv a h hm hs => ?_, fun j k lv lv' a n hj mj hk mk sj sk => ?_, by rw [upd_ne f3.symm]; exact A.tf, A.th, A.t0⟩
  · by_cases hp : a = l
    · subst hp
      rw [upd_same] at e
      cases e
      exact e3
    · rw [upd_ne hp] at e
      exact A.ex a u e
  · rw [upd_ne (ne_of_none h1 f2)]
    exact A.kp.away b u h1 h2
  · by_cases e : i = j
    · subst e
      rw [List.getElem?_set_self hi] at h
      cases h
      exact ⟨_, hv, .lst upd_same (RpAll.mono ex _ _ e4)⟩
    · rw [List.getElem?_set_ne e] at h
      obtain ⟨v, hv2, ok⟩ := A.loc j lv h
      refine ⟨v, hv2, ?_⟩
      have nep : lv.mut = true → v ≠ .ref l := fun ml z => by
        subst z
        exact A.sep i j _ lv l e he rfl h ml hv hv2
      cases lv with
      | d x => exact Rp.mono ex _ _ ok
      | tp => exact ok
      | scr ns =>
        obtain ⟨q, e1, h⟩ := ok
        exact ⟨q, e1, Same.seq ex h⟩
      | own xs =>
        obtain ⟨q, vs, e1, e2, e3, e4⟩ := ok
        exact ⟨q, vs, e1, by rw [upd_ne (fun z => nep rfl (by rw [e1, z]))]; exact e2, e3, RpAll.mono ex _ _ e4⟩
      | dk n xs =>
        obtain ⟨q, vs, e1, e2, e3, e4, e5⟩ := ok
        exact ⟨q, vs, e1, by rw [upd_ne (fun z => nep rfl (by rw [e1, z]))]; exact e2, e3, KvAll.mono ex e4, e5⟩
      | gd xs =>
        obtain ⟨q, vs, e1, e2, e3⟩ := ok
        exact ⟨q, vs, e1, ex _ _ e2, KvAll.mono ex e3⟩
      | dt xs =>
        obtain ⟨q, vs, e1, e2, e3, e4⟩ := ok
        exact ⟨q, vs, e1, by rw [upd_ne (fun z => nep rfl (by rw [e1, z]))]; exact e2, e3, KvAll.mono ex e4⟩
  · have e : i ≠ j := fun e => by
      subst e
      rw [List.getElem?_set_self hi] at h
      cases h
      cases hm
    rw [List.getElem?_set_ne e] at h
    exact A.new j lv a h hm hs
  · have q : ∀ {m : Nat} {l : LV}, (env.set i (some (LV.d (.list xs))))[m]? = some (some l) → l.mut = true → i ≠ m := fun {m l} h hm e => by
      subst e
      rw [List.getElem?_set_self hi] at h
      cases h
      cases hm
    have ej := q hj mj
    have ek := q hk mk
    rw [List.getElem?_set_ne ej] at hj
    rw [List.getElem?_set_ne ek] at hk
    exact A.sep j k lv lv' a n hj mj hk mk sj sk
/-- a dict of one's own is frozen -/
theorem Abs.freezeD (A : Abs K T H0 Hf0 Hf env t σ H) {i : Nat} {n : Bool} {xs : List (Key × PyData)} (he : env[i]? = some (some (.dk n xs))) : ∃ Hf', Ex Hf Hf' ∧ Abs K T H0 Hf0 Hf' (env.set i (some (.gd xs))) t σ H := by
  obtain ⟨v, hv, l, vs, e1, e2, e3, e4, _⟩ := A.loc i _ he
  subst e1
  have f2 : H0 l = none := A.new i _ l he rfl hv
  have f3 : l ≠ T := fun z => A.t0 (by rw [← z]; exact f2)
  have hi : i < env.length := (List.getElem?_eq_some_iff.mp he).1
  have ex : Ex Hf (upd Hf l (.dK vs)) := Ex.new e2
  refine ⟨upd Hf l (.dK vs), ex, fun a u e => ?_, ⟨A.kp.ex.trans ex, A.kp.same, fun b u h1 h2 => ?_, A.kp.tt⟩, by rw [List.length_set]; exact A.len, fun j lv h => ?_, fun j lv a h hm hs => ?_, fun j k lv lv' a n hj mj hk mk sj sk => ?_, by rw [upd_ne f3.symm]; exact A.tf, A.th, A.t0⟩
  · by_cases hp : a = l
    · subst hp
      rw [upd_same] at e
      cases e
      exact e3
    · rw [upd_ne hp] at e
      exact A.ex a u e
  · rw [upd_ne (ne_of_none h1 f2)]
    exact A.kp.away b u h1 h2
  · by_cases e : i = j
    · subst e
      rw [List.getElem?_set_self hi] at h
      cases h
      exact ⟨_, hv, l, vs, rfl, upd_same, KvAll.mono ex e4⟩
    · rw [List.getElem?_set_ne e] at h
      obtain ⟨v, hv2, ok⟩ := A.loc j lv h
      refine ⟨v, hv2, ?_⟩
      have nep : lv.mut = true → v ≠ .ref l := fun ml z => by
        subst z
        exact A.sep i j _ lv l e he rfl h ml hv hv2
      cases lv with
      | d x => exact Rp.mono ex _ _ ok
      | tp => exact ok
      | scr ns =>
        obtain ⟨q, e1, h⟩ := ok
        exact ⟨q, e1, Same.seq ex h⟩
      | own xs =>
        obtain ⟨q, vs, e1, e2, e3, e4⟩ := ok
        exact ⟨q, vs, e1, by rw [upd_ne (fun z => nep rfl (by rw [e1, z]))]; exact e2, e3, RpAll.mono ex _ _ e4⟩
      | dk n xs =>
        obtain ⟨q, vs, e1, e2, e3, e4, e5⟩ := ok
        exact ⟨q, vs, e1, by rw [upd_ne (fun z => nep rfl (by rw [e1, z]))]; exact e2, e3, KvAll.mono ex e4, e5⟩
      | gd xs =>
        obtain ⟨q, vs, e1, e2, e3⟩ := ok
        exact ⟨q, vs, e1, ex _ _ e2, KvAll.mono ex e3⟩
      | dt xs =>
        obtain ⟨q, vs, e1, e2, e3, e4⟩ := ok
        exact ⟨q, vs, e1, by rw [upd_ne (fun z => nep rfl (by rw [e1, z]))]; exact e2, e3, KvAll.mono ex e4⟩
  · have e : i ≠ j := fun e => by
      subst e
      rw [List.getElem?_set_self hi] at h
      cases h
      cases hm
    rw [List.getElem?_set_ne e] at h
    exact A.new j lv a h hm hs
  · have q : ∀ {m : Nat} {l : LV}, (env.set i (some (LV.gd xs)))[m]? = some (some l) → l.mut = true → i ≠ m := fun {m l} h hm e => by
      subst e
      rw [List.getElem?_set_self hi] at h
      cases h
      cases hm
    have ej := q hj mj
    have ek := q hk mk
    rw [List.getElem?_set_ne ej] at hj
    rw [List.getElem?_set_ne ek] at hk
    exact A.sep j k lv lv' a n hj mj hk mk sj sk
/-- the tape is written -/
theorem Abs.tape (A : Abs K T H0 Hf0 Hf env t σ H) : Abs K T H0 Hf0 Hf env t' σ (upd H T (.lst [.int t'])) ∧ Kp T Hf H Hf (upd H T (.lst [.int t'])) := by
  have k : Kp T Hf H Hf (upd H T (.lst [.int t'])) := ⟨Ex.refl _, fun b u n e => by rw [upd_ne n]; exact e, fun _ _ _ h => h, fun _ => by rw [upd_same]; simp⟩
  exact ⟨A.kept k (fun a u e => by rw [upd_ne (ne_of_none e A.tf)]; exact A.ex a u e) upd_same, k⟩
end
end Pl

set_option Elab.async false
set_option linter.all false
set_option maxRecDepth 100000
/-! Pl: the small language of terms, and what they reckon. -/
namespace Pl
open PySem PySem.Spec PyProof.Rows L2

/-! ### the terms -/
inductive Op2 where
  | add | sub | mul | mod | fdiv
inductive Cm where
  | eq | ne | lt | le | gt | ge | isin | notin
inductive Bl where
  | len | int | list | tuple | min | max | any | all | sorted | isStr | isInt | isBool | isTuple | isList
inductive IK where
  | seq | range | rev | revr
inductive Tg where
  | nm (i : Nat)
  | tp (is : List Nat)
inductive M where
  | var (i : Nat)
  | bor (i : Nat)
  | tape (i : Nat)
  | lit (d : PyData)
  | bin (o : Op2) (a b : M)
  | cmp (o : Cm) (a b : M)
  | isN (neg : Bool) (a : M)
  | and (a b : M)
  | or (a b : M)
  | not (a : M)
  | neg (a : M)
  | ite (c a b : M)
  | idx (a b : M)
  | slc (a lo hi : M)
  | part (a : M)
  | nil
  | cons (a b : M)
  | tup (l : M)
  | lst (l : M)
  | call (f : Nat) (l : M)
  | blt (b : Bl) (l : M)
  | index (o a : M)
  | join (o a : M)
  | edict
  | lrange (a : M)
  | dsorted (i : Nat)
  | sset (a : M)
  | dlen (i : Nat)
  | din (neg : Bool) (i : Nat) (k : M)
  | dget (i : Nat) (k : M)
  | dgetN (i : Nat) (k : M)
  | lc (k : IK) (it : M) (tg : Tg) (vs : List Nat) (c e : M)

/-! ### what the operations reckon -/
@[simp] def flatD : PyData → Bool
  | .none => true
  | .bool _ => true
  | .int _ => true
  | .str _ => true
  | _ => false
def sign (c : Nat) : PyData := .str ⟨#[c]⟩
@[simp] def addD : PyData → PyData → Option PyData
  | .int a, .int b => some (.int (a + b))
  | .str a, .str b => if a.length + b.length ≤ sizeLine then some (.str (a ++ b)) else none
  | .list a, .list b => if a.length + b.length ≤ sizeLine then some (.list (a ++ b)) else none
  | .tuple a, .tuple b => if a.length + b.length ≤ sizeLine then some (.tuple (a ++ b)) else none
  | _, _ => none
@[simp] def subD : PyData → PyData → Option PyData
  | .int a, .int b => some (.int (a - b))
  | _, _ => none
@[simp] def mulD : PyData → PyData → Option PyData
  | .int a, .int b => if a.natAbs < 18446744073709551616 ∨ b.natAbs < 18446744073709551616 then some (.int (a * b)) else none
  | .str z, .int k => if z.length ≤ 100 ∧ 0 ≤ k ∧ k ≤ 100 then some (.str (Txt.mul z k)) else none
  | _, _ => none
@[simp] def modD : PyData → PyData → Option PyData
  | .int a, .int b => if 0 < b then some (.int (a % b)) else none
  | _, _ => none
@[simp] def fdivD : PyData → PyData → Option PyData
  | .int a, .int b => if 0 < b ∧ b < 1073741824 then some (.int (a / b)) else none
  | _, _ => none
@[simp] def binD : Op2 → PyData → PyData → Option PyData
  | .add, a, b => addD a b
  | .sub, a, b => subD a b
  | .mul, a, b => mulD a b
  | .mod, a, b => modD a b
  | .fdiv, a, b => fdivD a b
@[simp] def eqD : PyData → PyData → Option Bool
  | .str a, .str b => some (a == b)
  | .int a, .int b => some (a == b)
  | .bool a, .bool b => some (a == b)
  | d, e => if SeqAt.shaped d && SeqAt.shaped e then some (PyData.eqv d e) else none
@[simp] def inD (x : PyData) : PyData → Option Bool
  | .list ys => if flatD x && ys.all flatD then some (ys.any fun z => PyData.eqv z x) else if SeqAt.shaped x && SeqAt.shaped (.list ys) then some (ys.any fun z => PyData.eqv z x) else none
  | .tuple ys => if flatD x && ys.all flatD then some (ys.any fun z => PyData.eqv z x) else none
  | .str z => match x with
    | .str w => match w.cps.toList with
      | [c] => some (decide (c ∈ z.cps.toList))
      | _ => none
    | _ => none
  | _ => none
@[simp] def ordD (p : Int → Int → Bool) : PyData → PyData → Option Bool
  | .int a, .int b => some (p a b)
  | _, _ => none
@[simp] def cmpD : Cm → PyData → PyData → Option Bool
  | .eq, a, b => eqD a b
  | .ne, a, b => (eqD a b).map (!·)
  | .lt, a, b => ordD (fun i j => decide (i < j)) a b
  | .le, a, b => ordD (fun i j => decide (i ≤ j)) a b
  | .gt, a, b => ordD (fun i j => decide (j < i)) a b
  | .ge, a, b => ordD (fun i j => decide (j ≤ i)) a b
  | .isin, a, b => inD a b
  | .notin, a, b => (inD a b).map (!·)
@[simp] def isNone : PyData → Bool
  | .none => true
  | _ => false
@[simp] def idxD : PyData → PyData → Option PyData
  | .list xs, .int i => atI xs i
  | .tuple xs, .int i => atI xs i
  | .str z, .int i => if z.length ≤ sizeLine then (atI z.cps.toList i).map sign else none
  | _, _ => none
@[simp] def partD : PyData → Option (Option Int)
  | .none => some none
  | .int i => some (some i)
  | _ => none
def cutD (xs : List PyData) (lo hi : Option Int) : List PyData := (xs.drop (HT.sIx xs.length 0 lo)).take (HT.sIx xs.length xs.length hi - HT.sIx xs.length 0 lo)
@[simp] def slcD (x : PyData) (lo hi : Option Int) : Option PyData := match x with
  | .list xs => some (.list (cutD xs lo hi))
  | .tuple xs => some (.tuple (cutD xs lo hi))
  | .str z => if z.length ≤ sizeLine then some (.str (cutS z lo hi)) else none
  | _ => none
@[simp] def intsOf : List PyData → Option (List Int)
  | [] => some []
  | .int i :: r => (intsOf r).map (i :: ·)
  | _ :: _ => none
@[simp] def boolsOf : List PyData → Option (List Bool)
  | [] => some []
  | .bool i :: r => (boolsOf r).map (i :: ·)
  | _ :: _ => none
@[simp] def strsOf : List PyData → Option (List Str)
  | [] => some []
  | .str i :: r => (strsOf r).map (i :: ·)
  | _ :: _ => none
def insI (x : Int) : List Int → List Int
  | [] => [x]
  | y :: r => if x ≤ y then x :: y :: r else y :: insI x r
def sortI : List Int → List Int
  | [] => []
  | x :: r => insI x (sortI r)
def minI : Int → List Int → Int
  | x, [] => x
  | x, y :: r => minI (if y < x then y else x) r
def maxI : Int → List Int → Int
  | x, [] => x
  | x, y :: r => maxI (if x < y then y else x) r
@[simp] def tyD (p : PyData → Bool) : PyData → Option PyData
  | .dict _ => none
  | d => some (.bool (p d))
@[simp] def pStr : PyData → Bool | .str _ => true | _ => false
@[simp] def pInt : PyData → Bool | .int _ => true | .bool _ => true | _ => false
@[simp] def pBool : PyData → Bool | .bool _ => true | _ => false
@[simp] def pTuple : PyData → Bool | .tuple _ => true | _ => false
@[simp] def pList : PyData → Bool | .list _ => true | _ => false
@[simp] def bltD : Bl → List PyData → Option PyData
  | .len, [.list xs] => some (.int xs.length)
  | .len, [.tuple xs] => some (.int xs.length)
  | .len, [.str z] => if z.length ≤ sizeLine then some (.int z.length) else none
  | .int, [.int i] => some (.int i)
  | .int, [.bool b] => some (.int (if b then 1 else 0))
  | .list, [.list xs] => some (.list xs)
  | .list, [.tuple xs] => some (.list xs)
  | .list, [.str z] => if z.length ≤ sizeLine then some (.list (z.cps.toList.map sign)) else none
  | .tuple, [.list xs] => some (.tuple xs)
  | .tuple, [.tuple xs] => some (.tuple xs)
  | .min, [.int i, .int j] => some (.int (if j < i then j else i))
  | .max, [.int i, .int j] => some (.int (if j > i then j else i))
  | .min, [.list xs] => match intsOf xs with
    | some (i :: r) => some (.int (minI i r))
    | _ => none
  | .max, [.list xs] => match intsOf xs with
    | some (i :: r) => some (.int (maxI i r))
    | _ => none
  | .any, [.list xs] => (boolsOf xs).map fun bs => .bool (bs.any id)
  | .all, [.list xs] => (boolsOf xs).map fun bs => .bool (bs.all id)
  | .sorted, [.list xs] => (intsOf xs).map fun ns => .list ((sortI ns).map .int)
  | .isStr, [x] => tyD pStr x
  | .isInt, [x] => tyD pInt x
  | .isBool, [x] => tyD pBool x
  | .isTuple, [x] => tyD pTuple x
  | .isList, [x] => tyD pList x
  | _, _ => none
def findI (d : PyData) : List PyData → Option Nat
  | [] => none
  | x :: r => if PyData.eqv x d then some 0 else (findI d r).map (· + 1)
@[simp] def indexD (o d : PyData) : Option PyData := match o with
  | .list ds => if SeqAt.shaped (.list ds) && SeqAt.shaped d then (findI d ds).map fun j => .int (j : Nat) else none
  | .tuple ds => if SeqAt.shaped (.list ds) && SeqAt.shaped d then (findI d ds).map fun j => .int (j : Nat) else none
  | _ => none
@[simp] def joinD (o d : PyData) : Option PyData := match o, d with
  | .str a, .list ds => match strsOf ds with
    | some ys => if (ys.map (·.length)).sum + ys.length * a.length ≤ 16777216 then some (.str (Txt.join a ys)) else none
    | none => none
  | _, _ => none
@[simp] def itemsD : IK → PyData → Option (List PyData)
  | .seq, .list xs => some xs
  | .seq, .tuple xs => some xs
  | .seq, .str z => some (z.cps.toList.map sign)
  | .range, .int n => if 0 ≤ n ∧ n.toNat < 1000000000 then some ((List.range n.toNat).map fun i => .int (i : Nat)) else none
  | .revr, .int n => if 0 ≤ n ∧ n.toNat < 1000000000 then some ((List.range n.toNat).map fun i => .int (n - 1 - (i : Nat))) else none
  | .rev, .list xs => some xs.reverse
  | .rev, .tuple xs => some xs.reverse
  | _, _ => none
@[simp] def setIs : List Nat → List PyData → Env → Option Env
  | [], [], env => some env
  | i :: is, d :: ds, env => setIs is ds (env.set i (some (.d d)))
  | _, _, _ => none
@[simp] def setTg : Tg → PyData → Env → Option Env
  | .nm i, d, env => some (env.set i (some (.d d)))
  | .tp is, .tuple ds, env => setIs is ds env
  | _, _, _ => none
@[simp] def keyD : PyData → Option Key
  | .int i => some (.inl i)
  | .str x => some (.inr x)
  | _ => none
@[simp] def keysD : PyData → Option (List Key)
  | .tuple ds => ds.mapM keyD
  | _ => none
def lookD {κ : Type} [DecidableEq κ] (kvs : List (κ × PyData)) (k : κ) : Option PyData := (kvs.find? fun kv => decide (kv.1 = k)).map (·.2)
/-- in its place, or at the end -/
def putD {κ : Type} [DecidableEq κ] (kvs : List (κ × PyData)) (k : κ) (d : PyData) : List (κ × PyData) :=
  if (kvs.any fun kv => decide (kv.1 = k)) = true then kvs.map (fun kv => if kv.1 = k then (kv.1, d) else kv) else kvs ++ [(k, d)]
@[simp] def dsOf : List LV → Option (List PyData)
  | [] => some []
  | .d x :: r => (dsOf r).map (x :: ·)
  | _ :: _ => none
@[simp] def dictAt (env : Env) (i : Nat) : Option (List (Key × PyData)) := match env[i]? with
  | some (some (.dk _ kvs)) => some kvs
  | some (some (.gd kvs)) => some kvs
  | _ => none
def intKeys : List (Key × PyData) → Option (List Int)
  | [] => some []
  | (.inl i, _) :: r => (intKeys r).map (i :: ·)
  | _ :: _ => none
def dedupI : List Int → List Int
  | [] => []
  | x :: r => if x ∈ r then dedupI r else x :: dedupI r
/-- a comprehension's turns -/
def lcLoop (f : PyData → Int → Option (Option PyData × Int)) : List PyData → Int → Option (List PyData × Int)
  | [], t => some ([], t)
  | x :: r, t => match f x t with
    | none => none
    | some (o, t1) => match lcLoop f r t1 with
      | none => none
      | some (ys, t2) => some (match o with | some y => y :: ys | none => ys, t2)
abbrev CallF := Nat → List LV → Int → Option (PyData × Int)
/-! ### the terms' values -/
mutual
def ev (C : CallF) (env : Env) : M → Int → Option (PyData × Int)
  | .var i, t => match env[i]? with
    | some (some (.d x)) => some (x, t)
    | _ => none
  | .bor i, t => match env[i]? with
    | some (some (.d x)) => some (x, t)
    | some (some (.own xs)) => some (.list xs, t)
    | some (some (.scr ns)) => some (.list (ns.map .int), t)
    | _ => none
  | .tape i, t => match env[i]? with
    | some (some .tp) => some (.int t, t)
    | _ => none
  | .lit d, t => some (d, t)
  | .bin o a b, t => match ev C env a t with
    | some (x, t1) => match ev C env b t1 with
      | some (y, t2) => (binD o x y).map (·, t2)
      | none => none
    | none => none
  | .cmp o a b, t => match ev C env a t with
    | some (x, t1) => match ev C env b t1 with
      | some (y, t2) => (cmpD o x y).map (.bool ·, t2)
      | none => none
    | none => none
  | .isN n a, t => match ev C env a t with
    | some (x, t1) => some (.bool (if n then !isNone x else isNone x), t1)
    | none => none
  | .and a b, t => match ev C env a t with
    | some (.bool true, t1) => ev C env b t1
    | some (.bool false, t1) => some (.bool false, t1)
    | _ => none
  | .or a b, t => match ev C env a t with
    | some (.bool false, t1) => ev C env b t1
    | some (.bool true, t1) => some (.bool true, t1)
    | _ => none
  | .not a, t => match ev C env a t with
    | some (.bool b, t1) => some (.bool !b, t1)
    | _ => none
  | .neg a, t => match ev C env a t with
    | some (.int i, t1) => some (.int (-i), t1)
    | _ => none
  | .ite c a b, t => match ev C env c t with
    | some (.bool true, t1) => ev C env a t1
    | some (.bool false, t1) => ev C env b t1
    | _ => none
  | .idx a b, t => match ev C env a t with
    | some (x, t1) => match ev C env b t1 with
      | some (y, t2) => (idxD x y).map (·, t2)
      | none => none
    | none => none
  | .slc a lo hi, t => match ev C env a t with
    | some (x, t1) => match ev C env lo t1 with
      | some (l, t2) => match ev C env hi t2 with
        | some (h, t3) => match partD l, partD h with
          | some l', some h' => (slcD x l' h').map (·, t3)
          | _, _ => none
        | none => none
      | none => none
    | none => none
  | .part a, t => match ev C env a t with
    | some (.int i, t1) => some (.int i, t1)
    | _ => none
  | .nil, _ => none
  | .cons _ _, _ => none
  | .tup l, t => match evs C env l t with
    | some (lvs, t1) => match dsOf lvs with
      | some ds => if ds.length ≤ 1000 then some (.tuple ds, t1) else none
      | none => none
    | none => none
  | .lst l, t => match evs C env l t with
    | some (lvs, t1) => match dsOf lvs with
      | some ds => if ds.length ≤ 1000 then some (.list ds, t1) else none
      | none => none
    | none => none
  | .call f l, t => match evs C env l t with
    | some (lvs, t1) => C f lvs t1
    | none => none
  | .blt b l, t => match evs C env l t with
    | some (lvs, t1) => match dsOf lvs with
      | some ds => (bltD b ds).map (·, t1)
      | none => none
    | none => none
  | .index o a, t => match ev C env o t with
    | some (x, t1) => match ev C env a t1 with
      | some (y, t2) => (indexD x y).map (·, t2)
      | none => none
    | none => none
  | .join o a, t => match ev C env o t with
    | some (x, t1) => match ev C env a t1 with
      | some (y, t2) => (joinD x y).map (·, t2)
      | none => none
    | none => none
  | .edict, _ => none
  | .lrange a, t => match ev C env a t with
    | some (.int n, t1) => if 0 ≤ n ∧ n.toNat < 1000000 then some (.list ((List.range n.toNat).map fun i => .int (i : Nat)), t1) else none
    | _ => none
  | .dsorted i, t => match dictAt env i with
    | some kvs => match intKeys kvs with
      | some ks => if ks.length < 64 then some (.list ((sortI ks).map .int), t) else none
      | none => none
    | none => none
  | .sset a, t => match ev C env a t with
    | some (.list xs, t1) => match intsOf xs with
      | some ns => if ns.length < 63 then some (.list ((sortI (dedupI ns)).map .int), t1) else none
      | none => none
    | _ => none
  | .dlen i, t => (dictAt env i).map fun kvs => (.int kvs.length, t)
  | .din n i a, t => match ev C env a t with
    | some (x, t1) => match dictAt env i, keyD x with
      | some kvs, some k => some (.bool (if n then !(lookD kvs k).isSome else (lookD kvs k).isSome), t1)
      | _, _ => none
    | none => none
  | .dget i a, t => match ev C env a t with
    | some (x, t1) => match dictAt env i, keyD x with
      | some kvs, some k => (lookD kvs k).map (·, t1)
      | _, _ => none
    | none => none
  | .dgetN i a, t => match env[i]? with
    | some (some (.dk true _)) => match ev C env a t with
      | some (x, t1) => match dictAt env i, keyD x with
        | some kvs, some k => (lookD kvs k).map (·, t1)
        | _, _ => none
      | none => none
    | _ => none
  | .lc k it tg vs c e, t => match ev C env it t with
    | some (x, t1) => match itemsD k x with
      | some xs => if xs.length < sizeLine then
          (lcLoop (fun y t => match setTg tg y (wipeE env vs) with
            | some env2 => match ev C env2 c t with
              | some (.bool true, t2) => match ev C env2 e t2 with
                | some (z, t3) => some (some z, t3)
                | none => none
              | some (.bool false, t2) => some (none, t2)
              | _ => none
            | none => none) xs t1).map fun r => (.list r.1, r.2)
        else none
      | none => none
    | none => none
def evs (C : CallF) (env : Env) : M → Int → Option (List LV × Int)
  | .nil, t => some ([], t)
  | .cons (.tape i) b, t => match env[i]? with
    | some (some .tp) => match evs C env b t with
      | some (r, t2) => some (.tp :: r, t2)
      | none => none
    | some (some (.scr ns)) => match evs C env b t with
      | some (r, t2) => some (.scr ns :: r, t2)
      | none => none
    | some (some (.gd kvs)) => match evs C env b t with
      | some (r, t2) => some (.gd kvs :: r, t2)
      | none => none
    | _ => none
  | .cons .edict b, t => match evs C env b t with
    | some (r, t2) => some (.gd [] :: r, t2)
    | none => none
  | .cons a b, t => match ev C env a t with
    | some (x, t1) => match evs C env b t1 with
      | some (r, t2) => some (.d x :: r, t2)
      | none => none
    | none => none
  | _, _ => none
end
end Pl

set_option Elab.async false
set_option linter.all false
set_option maxRecDepth 100000
set_option maxHeartbeats 1000000
/-! Pl: operations by data. -/
namespace Pl
open PySem PySem.Spec PyProof.Rows L2

/-! ### weaker readings, two readings -/
theorem PE.imp {X : Cx} {e : Expr} {t t' : TE} (h : PE X e t) (i : ∀ σ H Q, t' σ H Q → t σ H Q) : PE X e t' := ⟨fun pins s σ H Q I q => h.run pins s σ H Q I (i σ H Q q)⟩
theorem PE.or {X : Cx} {e : Expr} {t t' : TE} (h : PE X e t) (h' : PE X e t') : PE X e (fun σ H Q => t σ H Q ∨ t' σ H Q) := ⟨fun pins s σ H Q I q => q.elim (h.run pins s σ H Q I) (h'.run pins s σ H Q I)⟩
theorem PT.imp {X : Cx} {e : Expr} {t t' : TT} (h : PT X e t) (i : ∀ σ H Q, t' σ H Q → t σ H Q) : PT X e t' := ⟨fun pins s σ H Q I q => h.run pins s σ H Q I (i σ H Q q)⟩
theorem PA.imp {X : Cx} {e : List Expr} {t t' : TA} (h : PA X e t) (i : ∀ σ H Q, t' σ H Q → t σ H Q) : PA X e t' := ⟨fun pos pins s σ H Q I q => h.run pos pins s σ H Q I (i σ H Q q)⟩
theorem PS.imp {X : Cx} {e : Stmt} {t t' : TS} (h : PS X e t) (i : ∀ D σ H, t' D σ H → t D σ H) : PS X e t' := ⟨fun pins s σ H D I q => h.run pins s σ H D I (i D σ H q)⟩
theorem PS.or {X : Cx} {e : Stmt} {t t' : TS} (h : PS X e t) (h' : PS X e t') : PS X e (fun D σ H => t D σ H ∨ t' D σ H) := ⟨fun pins s σ H D I q => q.elim (h.run pins s σ H D I) (h'.run pins s σ H D I)⟩
theorem PSs.imp {X : Cx} {e : List Stmt} {t t' : TS} (h : PSs X e t) (i : ∀ D σ H, t' D σ H → t D σ H) : PSs X e t' := ⟨fun pins s σ H D I q => h.run pins s σ H D I (i D σ H q)⟩
theorem PI.imp {X : Cx} {tg e : Expr} {t t' : TI} (h : PI X tg e t) (i : ∀ σ H R, t' σ H R → t σ H R) : PI X tg e t' := ⟨fun pins s σ H R I q => h.run pins s σ H R I (i σ H R q)⟩
theorem PI.or {X : Cx} {tg e : Expr} {t t' : TI} (h : PI X tg e t) (h' : PI X tg e t') : PI X tg e (fun σ H R => t σ H R ∨ t' σ H R) := ⟨fun pins s σ H R I q => q.elim (h.run pins s σ H R I) (h'.run pins s σ H R I)⟩
theorem PG.imp {X : Cx} {e : Expr} {t t' : TG} (h : PG X e t) (i : ∀ v σ H Q, t' v σ H Q → t v σ H Q) : PG X e t' := ⟨fun pins s σ H v u Q I r q => h.run pins s σ H v u Q I r (i v σ H Q q)⟩
theorem OpR.imp {X : Cx} {f : Value → Value → Sem Value} {r r' : R2} (h : OpR X f r) (i : ∀ x y H Q, r' x y H Q → r x y H Q) : OpR X f r' := fun pins s σ H x y v u Q I rx ry q => h pins s σ H x y v u Q I rx ry (i _ _ _ _ q)
theorem IxR.imp {X : Cx} {r r' : R2} (h : IxR X r) (i : ∀ x y H Q, r' x y H Q → r x y H Q) : IxR X r' := fun a b pins s σ H x y v u Q I rx ry q hs => h a b pins s σ H x y v u Q I rx ry (i _ _ _ _ q) hs
theorem CallR.imp {X : Cx} {f : Value} {r r' : List V → Hp → VK → Prop} (h : CallR X f r) (i : ∀ xs H Q, r' xs H Q → r xs H Q) : CallR X f r' := fun pins s σ H xs us Q I rx q => h pins s σ H xs us Q I rx (i _ _ _ q)
theorem MtR.imp {X : Cx} {id : String} {r r' : V → List V → Hp → VK → Prop} (h : MtR X id r) (i : ∀ x xs H Q, r' x xs H Q → r x xs H Q) : MtR X id r' := fun pins s σ H x xs v us Q I rx rs q => h pins s σ H x xs v us Q I rx rs (i _ _ _ _ q)
theorem SlR.imp {X : Cx} {r r' : V → Option Int → Option Int → Hp → VK → Prop} (h : SlR X r) (i : ∀ x l u H Q, r' x l u H Q → r x l u H Q) : SlR X r' := fun pins s σ H x v vl vu lo hi sl Q I rx hs pl pu q => h pins s σ H x v vl vu lo hi sl Q I rx hs pl pu (i _ _ _ _ _ q)

/-! ### what may be read here -/
def Rb (K : PySem.W.Frag) (Hf H : Hp) (v : V) (d : PyData) : Prop := Rp Hf v d ∨ ∃ l vs xs, v = .ref l ∧ d = .list xs ∧ SqL K H l vs ∧ RpAll Hf vs xs
inductive Ad (Hf H : Hp) : Hp → Hp → Prop
  | refl : Ad Hf H Hf H
  | new (p : Addr) (o : HO) : H p = none → Ad Hf H (upd Hf p o) (upd H p o)
theorem Ad.abs {K : PySem.W.Frag} {T : Addr} {H0 Hf0 Hf Hf' : Hp} {env : Env} {t : Int} {σ : L2.St} {H H' : Hp} (a : Ad Hf H Hf' H') (A : Abs K T H0 Hf0 Hf env t σ H) : Abs K T H0 Hf0 Hf' env t σ H' ∧ Kp T Hf H Hf' H' := by
  cases a with
  | refl => exact ⟨A, Kp.refl _ _ _⟩
  | new p o h => exact ⟨A.newd h, A.kpn h⟩
theorem Ad.ex {Hf H Hf' H' : Hp} (a : Ad Hf H Hf' H') (e : Ex Hf H) : Ex Hf Hf' := by
  cases a with
  | refl => exact Ex.refl _
  | new p o h => exact (Kp.new (T := p) e h).ex
theorem ex_none {Hf H : Hp} (e : Ex Hf H) {p : Addr} (h : H p = none) : Hf p = none := by
  cases q : Hf p with
  | none => rfl
  | some u =>
    rw [e p u q] at h
    cases h
def rD (g : PyData → PyData → Option PyData) : R2 := fun x y H Q => ∃ Hf d e z, Ex Hf H ∧ Rp Hf x d ∧ Rp Hf y e ∧ g d e = some z ∧ ∀ v Hf' H', Ad Hf H Hf' H' → Rp Hf' v z → Q v H'
def rDl (K : PySem.W.Frag) (g : PyData → PyData → Option PyData) : R2 := fun x y H Q => ∃ Hf d e z, Ex Hf H ∧ Rb K Hf H x d ∧ Rp Hf y e ∧ g d e = some z ∧ ∀ v Hf' H', Ad Hf H Hf' H' → Rp Hf' v z → Q v H'
def rDr (K : PySem.W.Frag) (g : PyData → PyData → Option PyData) : R2 := fun x y H Q => ∃ Hf d e z, Ex Hf H ∧ Rp Hf x d ∧ Rb K Hf H y e ∧ g d e = some z ∧ ∀ v Hf' H', Ad Hf H Hf' H' → Rp Hf' v z → Q v H'
def rCD (K : PySem.W.Frag) (g : List PyData → Option PyData) : List V → Hp → VK → Prop := fun xs H Q => ∃ Hf ds z, Ex Hf H ∧ (∃ hb : Paired (Rb K Hf H) xs ds, True) ∧ g ds = some z ∧ ∀ v Hf' H', Ad Hf H Hf' H' → Rp Hf' v z → Q v H'
section
variable {K : PySem.W.Frag} {Hf H : Hp} {v : V} {z : PyData} {Q : VK}
theorem fin_int {i : Int} (q : ∀ v Hf' H', Ad Hf H Hf' H' → Rp Hf' v (.int i) → Q v H') : Q (.int i) H := q _ _ _ .refl (.int _)
theorem fin_str {i : Str} (q : ∀ v Hf' H', Ad Hf H Hf' H' → Rp Hf' v (.str i) → Q v H') : Q (.str i) H := q _ _ _ .refl (.str _)
theorem fin_bool {i : Bool} (q : ∀ v Hf' H', Ad Hf H Hf' H' → Rp Hf' v (.bool i) → Q v H') : Q (.bl i) H := q _ _ _ .refl (.bl _)
theorem fin_lst {vs : List V} {ds : List PyData} (ex : Ex Hf H) (r : RpAll Hf vs ds) (q : ∀ v Hf' H', Ad Hf H Hf' H' → Rp Hf' v (.list ds) → Q v H') : ∀ p, H p = none → Q (.ref p) (upd H p (.lst vs)) := fun p hp =>
  q _ _ _ (.new p _ hp) (.lst upd_same (RpAll.mono (Ex.new (ex_none ex hp)) _ _ r))
theorem fin_tup {vs : List V} {ds : List PyData} (ex : Ex Hf H) (r : RpAll Hf vs ds) (q : ∀ v Hf' H', Ad Hf H Hf' H' → Rp Hf' v (.tuple ds) → Q v H') : ∀ p o, H p = none → o.dict = none → Q (.ref p) (upd H p (.frz o (.tup vs))) := fun p o hp hd =>
  q _ _ _ (.new p _ hp) (.tup upd_same hd (RpAll.mono (Ex.new (ex_none ex hp)) _ _ r))
/-- a list that may be read -/
theorem Rb.list {xs : List PyData} (ex : Ex Hf H) (r : Rb K Hf H v (.list xs)) : ∃ l vs, v = .ref l ∧ SqL K H l vs ∧ RpAll Hf vs xs := by
  rcases r with r | ⟨l, vs, ys, e, e2, h, hs⟩
  · cases r with
    | lst h hs => exact ⟨_, _, rfl, SqL.of (ex _ _ h), hs⟩
  · cases e2
    exact ⟨l, vs, e, h, hs⟩
theorem Rb.tuple {xs : List PyData} (ex : Ex Hf H) (r : Rb K Hf H v (.tuple xs)) : ∃ l vs, v = .ref l ∧ SqT K H l vs ∧ RpAll Hf vs xs := by
  rcases r with r | ⟨l, vs, ys, e, e2, h, hs⟩
  · cases r with
    | tup h hd hs => exact ⟨_, _, rfl, .inl (.inr ⟨_, ex _ _ h⟩), hs⟩
  · cases e2
theorem Rb.str {z : Str} (r : Rb K Hf H v (.str z)) : v = .str z := by
  rcases r with r | ⟨l, vs, ys, e, e2, h, hs⟩
  · cases r
    rfl
  · cases e2
theorem Rb.int {z : Int} (r : Rb K Hf H v (.int z)) : v = .int z := by
  rcases r with r | ⟨l, vs, ys, e, e2, h, hs⟩
  · cases r
    rfl
  · cases e2
theorem Rb.bool {z : Bool} (r : Rb K Hf H v (.bool z)) : v = .bl z := by
  rcases r with r | ⟨l, vs, ys, e, e2, h, hs⟩
  · cases r
    rfl
  · cases e2
theorem Rb.dp {d : PyData} (ex : Ex Hf H) (r : Rb K Hf H v d) : Dp K H v d := by
  rcases r with r | ⟨l, vs, ys, e, e2, h, hs⟩
  · exact Rp.dp _ _ (Rp.mono ex _ _ r)
  · subst e e2
    exact .lst h (RpAll.dp _ _ (RpAll.mono ex _ _ hs))
theorem RpAll.at {vs : List V} {ds : List PyData} {i : Int} {d : PyData} (r : RpAll Hf vs ds) (e : atI ds i = some d) : ∃ v, atI vs i = some v ∧ Rp Hf v d := by
  unfold atI at e ⊢
  rw [r.len]
  cases q : ixN ds.length i with
  | none =>
    rw [q] at e
    cases e
  | some j =>
    rw [q] at e
    exact r.get (show ds[j]? = some d from e)
theorem Rp.flat {d : PyData} (r : Rp Hf v d) (h : flatD d = true) : flatV v = true := by
  cases r with
  | lst _ _ => cases h
  | tup _ _ _ => cases h
  | _ => rfl
theorem Rp.eqV {w : V} {d e : PyData} (r : Rp Hf v d) (r' : Rp Hf w e) (h : flatD d = true) (h' : flatD e = true) : eqV v w = PyData.eqv d e := by
  cases r with
  | lst _ _ => cases h
  | tup _ _ _ => cases h
  | _ =>
    cases r' with
    | lst _ _ => cases h'
    | tup _ _ _ => cases h'
    | _ => simp only [L2.eqV, PyData.eqv]
theorem RpAll.flat : ∀ {vs : List V} {ds : List PyData}, RpAll Hf vs ds → ds.all flatD = true → vs.all flatV = true
  | _, _, .nil, _ => rfl
  | _, _, .cons r rs, h => by
    rw [List.all_cons, Bool.and_eq_true] at h ⊢
    exact ⟨r.flat h.1, rs.flat h.2⟩
theorem RpAll.inV {w : V} {e : PyData} (r' : Rp Hf w e) (h' : flatD e = true) : ∀ {vs : List V} {ds : List PyData}, RpAll Hf vs ds → ds.all flatD = true → inV w vs = ds.any fun z => PyData.eqv z e
  | _, _, .nil, _ => rfl
  | v :: vs, d :: ds, .cons r rs, h => by
    rw [List.all_cons, Bool.and_eq_true] at h
    have ih := RpAll.inV r' h' rs h.2
    unfold L2.inV at ih ⊢
    rw [List.any_cons, List.any_cons, r.eqV r' h.1 h', ih]
theorem RpAll.cut {vs : List V} {ds : List PyData} (r : RpAll Hf vs ds) (lo hi : Option Int) : RpAll Hf (cutV vs lo hi) (cutD ds lo hi) := by
  unfold cutV cutD
  rw [r.len]
  exact (r.drop _).take _
theorem RpAll.ints : ∀ {vs : List V} {ds : List PyData} {ns : List Int}, RpAll Hf vs ds → intsOf ds = some ns → vs = ns.map V.int
  | _, _, ns, .nil, h => by
    cases h
    rfl
  | v :: vs, d :: ds, ns, .cons r rs, h => by
    cases r with
    | int i =>
      unfold intsOf at h
      cases e : intsOf ds with
      | none =>
        rw [e] at h
        cases h
      | some ms =>
        rw [e] at h
        cases h
        rw [rs.ints e] <;> rfl
    | _ => cases h
theorem RpAll.bools : ∀ {vs : List V} {ds : List PyData} {ns : List Bool}, RpAll Hf vs ds → boolsOf ds = some ns → vs = ns.map V.bl
  | _, _, ns, .nil, h => by
    cases h
    rfl
  | v :: vs, d :: ds, ns, .cons r rs, h => by
    cases r with
    | bl i =>
      unfold boolsOf at h
      cases e : boolsOf ds with
      | none =>
        rw [e] at h
        cases h
      | some ms =>
        rw [e] at h
        cases h
        rw [rs.bools e] <;> rfl
    | _ => cases h
theorem RpAll.strs : ∀ {vs : List V} {ds : List PyData} {ns : List Str}, RpAll Hf vs ds → strsOf ds = some ns → vs = ns.map V.str
  | _, _, ns, .nil, h => by
    cases h
    rfl
  | v :: vs, d :: ds, ns, .cons r rs, h => by
    cases r with
    | str i =>
      unfold strsOf at h
      cases e : strsOf ds with
      | none =>
        rw [e] at h
        cases h
      | some ms =>
        rw [e] at h
        cases h
        rw [rs.strs e] <;> rfl
    | _ => cases h
theorem rp_ints : ∀ ns : List Int, RpAll Hf (ns.map V.int) (ns.map PyData.int)
  | [] => .nil
  | i :: r => .cons (.int i) (rp_ints r)
theorem rp_signs : ∀ ns : List Nat, RpAll Hf (ns.map fun c => V.str ⟨#[c]⟩) (ns.map sign)
  | [] => .nil
  | i :: r => .cons (.str _) (rp_signs r)
end
/-! ### operators -/
section
variable {X : Cx}
/-! ### new tuples, their objects known -/
abbrev tObj (its : List Value) : Obj := { cls := .type "tuple", data := .seq its.toArray }
theorem laidT {pins : List (Addr × Obj)} {σ : L2.St} {H : Hp} {s : Shared} {us : List Value} {xs : List V} {t : Nat} (I : Inv X pins σ H s) (r : Vals xs us) (z : xs.length ≤ sizeLine) :
    Inv X pins σ (upd H s.heap.objs.size (.frz (tObj us) (.tup xs))) { s with heap := s.heap.push (tObj us), toks := t } :=
  I.laid (fun b o e => Heap.get?_push_of_some _ e) (Nat.le_refl _) ⟨Heap.get?_push_size _ rfl, z, us, r, IsTup.new _ _⟩
def tTupS (t : TA) : TE := fun σ H Q => t σ H fun xs H1 => xs.length ≤ sizeLine ∧ ∀ p o, H1 p = none → o.dict = none → Q (.ref p) (upd H1 p (.frz o (.tup xs)))
theorem pe_tupS {es : List Expr} {t : TA} {x1} {pos : Pos} (h : PA X es t) : PE X (.Tuple es x1 pos) (tTupS t) :=
  ⟨fun pins s σ H Q I hq => wpAny_Tuple_spliced (thn (h.run pos pins s σ H _ I hq) fun us s1 ⟨xs, H1, I1, r, z, q⟩ => ⟨by rw [← r.length]; exact z,
    ⟨.ref _, _, laidT (t := s1.toks) I1 r z, rfl, q _ (tObj us) (I1.hok.fresh (Nat.le_refl _)) rfl⟩⟩)⟩
def rCatS (K : PySem.W.Frag) : R2 := fun x y H Q => ∃ a b xs ys, x = .ref a ∧ y = .ref b ∧ SqT K H a xs ∧ SqT K H b ys ∧ xs ≠ [] ∧ ys ≠ [] ∧ xs.length + ys.length ≤ sizeLine ∧
  ∀ p o, H p = none → o.dict = none → Q (.ref p) (upd H p (.frz o (.tup (xs ++ ys))))
theorem op_catS : OpR X (binaryOp .Add) (rCatS X.K) := fun pins s σ H x y v u Q I rx ry ⟨a, b, xs, ys, ex, ey, ha, hb, nx, ny, hz, q⟩ => by
  subst ex ey
  cases rx
  cases ry
  obtain ⟨as, ra, pa, za⟩ := I.tuple ha
  obtain ⟨bs, rb, pb, zb⟩ := I.tuple hb
  exact HT.cat_tup pa pb (fun e => nx (ra.nil_iff.mp e)) (fun e => absurd (rb.nil_iff.mp e) ny)
    (fun _ => ⟨.ref _, _, laidT (t := s.toks) I (ra.append rb) (by rw [List.length_append]; exact hz), rfl, q _ (tObj (as ++ bs)) (I.hok.fresh (Nat.le_refl _)) rfl⟩) (by rw [← ra.length, ← rb.length]; exact hz)
def rSlTS (K : PySem.W.Frag) : V → Option Int → Option Int → Hp → VK → Prop := fun x lo hi H Q => ∃ a xs, x = .ref a ∧ SqT K H a xs ∧
  ¬ (HT.sIx xs.length 0 lo = 0 ∧ HT.sIx xs.length xs.length hi = xs.length) ∧ ∀ p o, H p = none → o.dict = none → Q (.ref p) (upd H p (.frz o (.tup (cutV xs lo hi))))
theorem sl_tupS : SlR X (rSlTS X.K) := fun pins s σ H x v vl vu lo hi sl Q I rx hs pl pu ⟨a, xs, ex, hx, nw, q⟩ => by
  subst ex
  cases rx
  obtain ⟨as, ra, pa, za⟩ := I.tuple hx
  have hl : as.toArray.size = xs.length := by rw [List.size_toArray, ra.length]
  refine ⟨"tuple", _, PyProof.Rows.slot_tuple_getitem.lookup, pa.typeIs, HT.getItem_tuple_cut pa hs pl pu (by rw [hl]; exact nw) ?_ (by rw [hl]; exact za)⟩
  rw [hl]
  exact ⟨.ref _, _, laidT (t := s.toks) I ((ra.drop (HT.sIx xs.length 0 lo)).take (HT.sIx xs.length xs.length hi - HT.sIx xs.length 0 lo)) (Nat.le_trans (cutV_length xs lo hi) za), rfl,
    q _ (tObj _) (I.hok.fresh (Nat.le_refl _)) rfl⟩
theorem call_tupleS : CallR X (.type "tuple") (fun xs H Q => ∃ p ys, xs = [.ref p] ∧ SqL X.K H p ys ∧ ∀ l o, H l = none → o.dict = none → Q (.ref l) (upd H l (.frz o (.tup ys)))) := fun pins s σ H xs us Q I r ⟨p, ys, ex, hq, q⟩ => by
  subst ex
  obtain ⟨u, e, rx⟩ := vals1 r
  subst e
  cases rx
  obtain ⟨as, ra, pa, za⟩ := I.list hq
  have hl := ra.length
  refine call_tuple_list pa.isList (fun h' kp => ?_) (by simp only [List.size_toArray] <;> omega)
  have I1 : Inv X pins σ H { s with heap := h' } := I.kept (t' := s.toks) kp
  exact ⟨.ref _, _, laidT (t := s.toks) I1 ra za, rfl, q _ (tObj as) (I1.hok.fresh (Nat.le_refl _)) rfl⟩
theorem o_add : OpR X (binaryOp .Add) (rD addD) := by
  refine OpR.imp ((((op_add.or op_add_str).or op_cat).or op_catA).or op_catS) fun x y H Q h => ?_
  obtain ⟨Hf, d, e, z, ex, rx, ry, g, q⟩ := h
  cases rx with
  | int i =>
    cases ry with
    | int j =>
      cases g
      exact .inl (.inl (.inl (.inl ⟨i, j, rfl, rfl, fin_int q⟩)))
    | _ => cases g
  | str i =>
    cases ry with
    | str j =>
      simp only [addD] at g
      split at g
      · cases g
        exact .inl (.inl (.inl (.inr ⟨i, j, rfl, rfl, by assumption, fin_str q⟩)))
      · cases g
    | _ => cases g
  | lst h hs =>
    cases ry with
    | lst k ks =>
      simp only [addD] at g
      split at g
      · cases g
        exact .inl (.inl (.inr ⟨_, _, _, _, rfl, rfl, ex _ _ h, ex _ _ k, by rw [hs.len, ks.len]; assumption, fin_lst ex (hs.append ks) q⟩))
      · cases g
    | _ => cases g
  | tup h hd hs =>
    cases ry with
    | tup k kd ks =>
      simp only [addD] at g
      split at g
      · cases g
        rename_i xs ds _ _ ys es hz
        by_cases e1 : xs = []
        · subst e1
          cases hs
          refine .inl (.inr ⟨_, _, _, _, rfl, rfl, .inl (.inr ⟨_, ex _ _ h⟩), .inl (.inr ⟨_, ex _ _ k⟩), by rw [ks.len]; simpa using hz, fun _ => ?_, fun z => absurd rfl z, fun z => absurd rfl z⟩)
          exact q _ _ _ .refl (.tup k kd ks)
        · by_cases e2 : ys = []
          · subst e2
            cases ks
            rw [List.append_nil] at q
            refine .inl (.inr ⟨_, _, _, _, rfl, rfl, .inl (.inr ⟨_, ex _ _ h⟩), .inl (.inr ⟨_, ex _ _ k⟩), by rw [hs.len]; simpa using hz, fun z => absurd z e1, fun _ _ => ?_, fun _ z => absurd rfl z⟩)
            exact q _ _ _ .refl (.tup h hd hs)
          · exact .inr ⟨_, _, _, _, rfl, rfl, .inl (.inr ⟨_, ex _ _ h⟩), .inl (.inr ⟨_, ex _ _ k⟩), e1, e2, by rw [hs.len, ks.len]; exact hz, fin_tup ex (hs.append ks) q⟩
      · cases g
    | _ => cases g
  | _ => cases g
theorem o_sub : OpR X (binaryOp .Sub) (rD subD) := by
  refine OpR.imp op_sub fun x y H Q h => ?_
  obtain ⟨Hf, d, e, z, ex, rx, ry, g, q⟩ := h
  cases rx with
  | int i =>
    cases ry with
    | int j =>
      cases g
      exact ⟨i, j, rfl, rfl, fin_int q⟩
    | _ => cases g
  | _ => cases g
theorem op_mulS : OpR X (binaryOp .Mult) (fun x y H Q => ∃ z k, x = .str z ∧ y = .int k ∧ (z.length ≤ 100 ∧ 0 ≤ k ∧ k ≤ 100) ∧ Q (.str (Txt.mul z k)) H) := by
  intro pins s σ H x y v u Q I rx ry h
  obtain ⟨z, k, rfl, rfl, ⟨h1, h2, h3⟩, q⟩ := h
  obtain ⟨t, rfl⟩ := rx
  obtain ⟨t', rfl⟩ := ry
  refine SB.mul ⟨?_, fun a b => ?_, fun a b => ?_⟩ fun t' k' => ⟨.str _, H, I.tok _, ⟨_, rfl⟩, q⟩
  · rw [decide_eq_false (by omega), decide_eq_false (by omega)]
    rfl
  · have hk : 0 < k := by omega
    have : (100 : Int) ≤ (2 ^ 63 - 1) / k := (Int.le_ediv_iff_mul_le hk).mpr (by omega)
    omega
  · unfold Builtin.Str.tooLong
    have : z.length * k.toNat ≤ 100 * 100 := Nat.mul_le_mul h1 (by omega)
    simp only [decide_eq_false_iff_not]
    have := PySem.sizeLine_eq
    omega
theorem o_mul : OpR X (binaryOp .Mult) (rD mulD) := by
  refine OpR.imp (op_mul.or op_mulS) fun x y H Q h => ?_
  obtain ⟨Hf, d, e, z, ex, rx, ry, g, q⟩ := h
  cases rx with
  | int i =>
    cases ry with
    | int j =>
      simp only [mulD] at g
      split at g
      · rename_i hb
        cases g
        exact .inl ⟨i, j, rfl, rfl, by unfold CMul; omega, fin_int q⟩
      · cases g
    | _ => cases g
  | str i =>
    cases ry with
    | int j =>
      simp only [mulD] at g
      split at g
      · cases g
        exact .inr ⟨i, j, rfl, rfl, by assumption, fin_str q⟩
      · cases g
    | _ => cases g
  | _ => cases g
theorem o_mod : OpR X (binaryOp .Mod) (rD modD) := by
  refine OpR.imp op_mod fun x y H Q h => ?_
  obtain ⟨Hf, d, e, z, ex, rx, ry, g, q⟩ := h
  cases rx with
  | int i =>
    cases ry with
    | int j =>
      simp only [modD] at g
      split at g
      · cases g
        exact ⟨i, j, rfl, rfl, by assumption, fin_int q⟩
      · cases g
    | _ => cases g
  | _ => cases g
theorem o_fdiv : OpR X (binaryOp .FloorDiv) (rD fdivD) := by
  refine OpR.imp op_fdiv fun x y H Q h => ?_
  obtain ⟨Hf, d, e, z, ex, rx, ry, g, q⟩ := h
  cases rx with
  | int i =>
    cases ry with
    | int j =>
      simp only [fdivD] at g
      split at g
      · cases g
        exact ⟨i, j, rfl, rfl, by assumption, fin_int q⟩
      · cases g
    | _ => cases g
  | _ => cases g
/-! ### comparisons -/
def bD (f : PyData → PyData → Option Bool) : PyData → PyData → Option PyData := fun a b => (f a b).map .bool
theorem bD_some {f : PyData → PyData → Option Bool} {a b z : PyData} (h : bD f a b = some z) : ∃ k, f a b = some k ∧ z = .bool k := by
  unfold bD at h
  cases e : f a b with
  | none =>
    rw [e] at h
    cases h
  | some k =>
    rw [e] at h
    cases h
    exact ⟨k, rfl, rfl⟩
theorem eqD_cases {d e : PyData} {k : Bool} (h : eqD d e = some k) : (∃ a b, d = .str a ∧ e = .str b ∧ k = (a == b)) ∨ (∃ a b, d = .int a ∧ e = .int b ∧ k = (a == b)) ∨ (∃ a b, d = .bool a ∧ e = .bool b ∧ k = (a == b)) ∨ (SeqAt.shaped d = true ∧ SeqAt.shaped e = true ∧ k = PyData.eqv d e) := by
  unfold eqD at h
  split at h
  · cases h
    exact .inl ⟨_, _, rfl, rfl, rfl⟩
  · cases h
    exact .inr (.inl ⟨_, _, rfl, rfl, rfl⟩)
  · cases h
    exact .inr (.inr (.inl ⟨_, _, rfl, rfl, rfl⟩))
  · split at h
    · rename_i hs
      cases h
      rw [Bool.and_eq_true] at hs
      exact .inr (.inr (.inr ⟨hs.1, hs.2, rfl⟩))
    · cases h
theorem o_eq (hu : X.A.units + 64 < cLine) : OpR X (compareOp .Eq) (rD (bD eqD)) := by
  refine OpR.imp (op_eq.or (op_eqD hu)) fun x y H Q h => ?_
  obtain ⟨Hf, d, e, z, ex, rx, ry, g, q⟩ := h
  obtain ⟨k, gk, rfl⟩ := bD_some g
  have q := fin_bool q
  rcases eqD_cases gk with ⟨a, b, rfl, rfl, rfl⟩ | ⟨a, b, rfl, rfl, rfl⟩ | ⟨a, b, rfl, rfl, rfl⟩ | ⟨h1, h2, rfl⟩
  · cases rx
    cases ry
    exact .inl ⟨rfl, by rw [dec_str]; exact q⟩
  · cases rx
    cases ry
    exact .inl ⟨rfl, by rw [dec_int]; exact q⟩
  · cases rx
    cases ry
    exact .inl ⟨rfl, by rw [dec_bl]; exact q⟩
  · exact .inr ⟨d, e, Rp.dp _ _ (Rp.mono ex _ _ rx), Rp.dp _ _ (Rp.mono ex _ _ ry), h1, h2, q⟩
theorem o_ne (hu : X.A.units + 64 < cLine) : OpR X (compareOp .NotEq) (rD (bD fun a b => (eqD a b).map (!·))) := by
  refine OpR.imp (op_ne.or (op_neD hu)) fun x y H Q h => ?_
  obtain ⟨Hf, d, e, z, ex, rx, ry, g, q⟩ := h
  obtain ⟨k, gk, rfl⟩ := bD_some g
  have q := fin_bool q
  cases g0 : eqD d e with
  | none =>
    rw [g0] at gk
    cases gk
  | some k0 =>
    rw [g0] at gk
    cases gk
    rcases eqD_cases g0 with ⟨a, b, rfl, rfl, rfl⟩ | ⟨a, b, rfl, rfl, rfl⟩ | ⟨a, b, rfl, rfl, rfl⟩ | ⟨h1, h2, rfl⟩
    · cases rx
      cases ry
      exact .inl ⟨rfl, by rw [dec_str]; exact q⟩
    · cases rx
      cases ry
      exact .inl ⟨rfl, by rw [dec_int]; exact q⟩
    · cases rx
      cases ry
      exact .inl ⟨rfl, by rw [dec_bl]; exact q⟩
    · exact .inr ⟨d, e, Rp.dp _ _ (Rp.mono ex _ _ rx), Rp.dp _ _ (Rp.mono ex _ _ ry), h1, h2, q⟩
theorem o_ord {op : CmpOp} {p : Int → Int → Bool} (h : OpR X (compareOp op) (rI0 fun i j => .bl (p i j))) : OpR X (compareOp op) (rD (bD (ordD p))) := by
  refine OpR.imp h fun x y H Q h => ?_
  obtain ⟨Hf, d, e, z, ex, rx, ry, g, q⟩ := h
  obtain ⟨k, gk, rfl⟩ := bD_some g
  cases rx with
  | int i =>
    cases ry with
    | int j =>
      cases gk
      exact ⟨i, j, rfl, rfl, fin_bool q⟩
    | _ => cases g
  | _ => cases g
theorem inD_cases {x y : PyData} {k : Bool} (h : inD x y = some k) : (∃ ys, y = .list ys ∧ ((flatD x = true ∧ ys.all flatD = true) ∨ (SeqAt.shaped x = true ∧ SeqAt.shaped (.list ys) = true)) ∧ k = ys.any fun z => PyData.eqv z x) ∨
    (∃ ys, y = .tuple ys ∧ (flatD x = true ∧ ys.all flatD = true) ∧ k = ys.any fun z => PyData.eqv z x) ∨ (∃ c z, x = .str ⟨#[c]⟩ ∧ y = .str z ∧ k = decide (c ∈ z.cps.toList)) := by
  cases y with
  | list ys =>
    simp only [inD] at h
    split at h
    · rename_i hs
      cases h
      rw [Bool.and_eq_true] at hs
      exact .inl ⟨ys, rfl, .inl hs, rfl⟩
    · split at h
      · rename_i hs
        cases h
        rw [Bool.and_eq_true] at hs
        exact .inl ⟨ys, rfl, .inr hs, rfl⟩
      · cases h
  | tuple ys =>
    simp only [inD] at h
    split at h
    · rename_i hs
      cases h
      rw [Bool.and_eq_true] at hs
      exact .inr (.inl ⟨ys, rfl, hs, rfl⟩)
    · cases h
  | str z =>
    cases x with
    | str w =>
      simp only [inD] at h
      split at h
      · rename_i c hc
        cases h
        have : w = ⟨#[c]⟩ := by
          cases w with
          | mk cps =>
            congr 1
            rw [← Array.toArray_toList (xs := cps), show cps.toList = [c] from hc]
        exact .inr (.inr ⟨c, z, by rw [this], rfl, rfl⟩)
      · cases h
    | _ => simp [inD] at h
  | _ => simp [inD] at h
theorem o_in (hu : X.A.units + 65 < cLine) : OpR X (compareOp .In) (rDr X.K (bD inD)) := by
  refine OpR.imp ((op_in_seq.or (op_inD hu)).or op_in_sign) fun x y H Q h => ?_
  obtain ⟨Hf, d, e, z, ex, rx, ry, g, q⟩ := h
  obtain ⟨k, gk, rfl⟩ := bD_some g
  have q := fin_bool q
  rcases inD_cases gk with ⟨ys, rfl, hs, rfl⟩ | ⟨ys, rfl, hs, rfl⟩ | ⟨c, z, rfl, rfl, rfl⟩
  · rcases hs with ⟨h1, h2⟩ | ⟨h1, h2⟩
    · obtain ⟨l, vs, rfl, sq, rs⟩ := ry.list ex
      refine .inl (.inl ⟨l, vs, rfl, .inl sq, rx.flat h1, rs.flat h2, ?_⟩)
      rw [RpAll.inV rx h1 rs h2]
      exact q
    · exact .inl (.inr ⟨d, ys, Rp.dp _ _ (Rp.mono ex _ _ rx), ry.dp ex, h1, h2, q⟩)
  · obtain ⟨l, vs, rfl, sq, rs⟩ := ry.tuple ex
    refine .inl (.inl ⟨l, vs, rfl, .inr sq, rx.flat hs.1, rs.flat hs.2, ?_⟩)
    rw [RpAll.inV rx hs.1 rs hs.2]
    exact q
  · cases rx
    have := ry.str
    subst this
    exact .inr ⟨c, z, rfl, rfl, q⟩
theorem o_notin (hu : X.A.units + 65 < cLine) : OpR X (compareOp .NotIn) (rDr X.K (bD fun a b => (inD a b).map (!·))) := by
  refine OpR.imp ((op_notIn_seq.or (op_notInD hu)).or op_notIn_sign) fun x y H Q h => ?_
  obtain ⟨Hf, d, e, z, ex, rx, ry, g, q⟩ := h
  obtain ⟨k, gk, rfl⟩ := bD_some g
  have q := fin_bool q
  cases g0 : inD d e with
  | none =>
    rw [g0] at gk
    cases gk
  | some k0 =>
    rw [g0] at gk
    cases gk
    rcases inD_cases g0 with ⟨ys, rfl, hs, rfl⟩ | ⟨ys, rfl, hs, rfl⟩ | ⟨c, z, rfl, rfl, rfl⟩
    · rcases hs with ⟨h1, h2⟩ | ⟨h1, h2⟩
      · obtain ⟨l, vs, rfl, sq, rs⟩ := ry.list ex
        refine .inl (.inl ⟨l, vs, rfl, .inl sq, rx.flat h1, rs.flat h2, ?_⟩)
        rw [if_pos rfl, RpAll.inV rx h1 rs h2]
        exact q
      · exact .inl (.inr ⟨d, ys, Rp.dp _ _ (Rp.mono ex _ _ rx), ry.dp ex, h1, h2, q⟩)
    · obtain ⟨l, vs, rfl, sq, rs⟩ := ry.tuple ex
      refine .inl (.inl ⟨l, vs, rfl, .inr sq, rx.flat hs.1, rs.flat hs.2, ?_⟩)
      rw [if_pos rfl, RpAll.inV rx hs.1 rs hs.2]
      exact q
    · cases rx
      have := ry.str
      subst this
      exact .inr ⟨c, z, rfl, rfl, q⟩
/-! ### subscripts -/
theorem i_any : IxR X (rDl X.K idxD) := by
  refine IxR.imp ((ix_list.or ix_tup).or ix_str) fun x y H Q h => ?_
  obtain ⟨Hf, d, e, z, ex, rx, ry, g, q⟩ := h
  cases d with
  | list xs =>
    cases e with
    | int i =>
      cases ry
      obtain ⟨l, vs, rfl, sq, rs⟩ := rx.list ex
      obtain ⟨v, e1, r⟩ := rs.at (show atI xs i = some z from g)
      exact .inl (.inl ⟨l, vs, i, v, rfl, rfl, sq, e1, q _ _ _ .refl r⟩)
    | _ => cases g
  | tuple xs =>
    cases e with
    | int i =>
      cases ry
      obtain ⟨l, vs, rfl, sq, rs⟩ := rx.tuple ex
      obtain ⟨v, e1, r⟩ := rs.at (show atI xs i = some z from g)
      exact .inl (.inr ⟨l, vs, i, v, rfl, rfl, sq, e1, q _ _ _ .refl r⟩)
    | _ => cases g
  | str w =>
    cases e with
    | int i =>
      cases ry
      have := rx.str
      subst this
      simp only [idxD] at g
      split at g
      · cases e1 : atI w.cps.toList i with
        | none =>
          rw [e1] at g
          cases g
        | some c =>
          rw [e1] at g
          cases g
          exact .inr ⟨w, i, c, rfl, rfl, by assumption, e1, q _ _ _ .refl (.str _)⟩
      · cases g
    | _ => cases g
  | _ => cases g
def rSD (K : PySem.W.Frag) : V → Option Int → Option Int → Hp → VK → Prop := fun x lo hi H Q => ∃ Hf d z, Ex Hf H ∧ Rb K Hf H x d ∧ slcD d lo hi = some z ∧ ∀ v Hf' H', Ad Hf H Hf' H' → Rp Hf' v z → Q v H'
theorem s_any : SlR X (rSD X.K) := by
  refine SlR.imp (((sl_list.or sl_tupA).or sl_str).or sl_tupS) fun x lo hi H Q h => ?_
  obtain ⟨Hf, d, z, ex, rx, g, q⟩ := h
  cases d with
  | list xs =>
    cases g
    obtain ⟨l, vs, rfl, sq, rs⟩ := rx.list ex
    exact .inl (.inl (.inl ⟨l, vs, rfl, sq, fin_lst ex (rs.cut lo hi) q⟩))
  | tuple xs =>
    cases g
    have rx' := rx
    obtain ⟨l, vs, rfl, sq, rs⟩ := rx.tuple ex
    by_cases hw : HT.sIx vs.length 0 lo = 0 ∧ HT.sIx vs.length vs.length hi = vs.length
    · refine .inl (.inl (.inr ⟨l, vs, rfl, sq, fun e => ?_, fun z => absurd hw z⟩))
      have ec : cutD xs lo hi = xs := by
        unfold cutD
        rw [← rs.len, e.1, e.2, List.drop_zero, Nat.sub_zero, rs.len, List.take_length]
      rw [ec] at q
      rcases rx' with r | ⟨_, _, _, _, e2, _⟩
      · exact q _ _ _ .refl r
      · cases e2
    · exact .inr ⟨l, vs, rfl, sq, hw, fin_tup ex (rs.cut lo hi) q⟩
  | str w =>
    have := rx.str
    subst this
    simp only [slcD] at g
    split at g
    · cases g
      exact .inl (.inr ⟨w, rfl, by assumption, fin_str q⟩)
    · cases g
  | _ => cases g
end
end Pl

set_option Elab.async false
set_option linter.all false
set_option maxRecDepth 100000
set_option maxHeartbeats 1000000
/-! Pl: built-ins and methods by data. -/
namespace Pl
open PySem PySem.Spec PyProof.Rows L2

def rC (K : PySem.W.Frag) (g : List PyData → Option PyData) : List V → Hp → VK → Prop := fun xs H Q => ∃ Hf ds z, Ex Hf H ∧ Paired (Rb K Hf H) xs ds ∧ g ds = some z ∧ ∀ v Hf' H', Ad Hf H Hf' H' → Rp Hf' v z → Q v H'
def rM (K : PySem.W.Frag) (g : PyData → PyData → Option PyData) : V → List V → Hp → VK → Prop := fun x xs H Q => ∃ Hf d y e z, Ex Hf H ∧ Rb K Hf H x d ∧ xs = [y] ∧ Rp Hf y e ∧ g d e = some z ∧ ∀ v Hf' H', Ad Hf H Hf' H' → Rp Hf' v z → Q v H'
theorem one_of {K : PySem.W.Frag} {Hf H : Hp} {xs : List V} {d : PyData} (r : Paired (Rb K Hf H) xs [d]) : ∃ x, xs = [x] ∧ Rb K Hf H x d := by
  cases r with
  | cons h t =>
    cases t
    exact ⟨_, rfl, h⟩
theorem two_of {K : PySem.W.Frag} {Hf H : Hp} {xs : List V} {d e : PyData} (r : Paired (Rb K Hf H) xs [d, e]) : ∃ x y, xs = [x, y] ∧ Rb K Hf H x d ∧ Rb K Hf H y e := by
  cases r with
  | cons h t =>
    obtain ⟨y, e, r⟩ := one_of t
    subst e
    exact ⟨_, y, rfl, h, r⟩
theorem minI_spec : ∀ (r : List Int) (x : Int), minI x r ∈ x :: r ∧ ∀ y ∈ x :: r, minI x r ≤ y
  | [], x => ⟨by simp [minI], fun y h => by simp at h; subst h; simp [minI]⟩
  | z :: r, x => by
    obtain ⟨h1, h2⟩ := minI_spec r (if z < x then z else x)
    unfold minI
    refine ⟨?_, fun y hy => ?_⟩
    · rcases List.mem_cons.mp h1 with e | e
      · rw [e]
        split
        · simp
        · simp
      · simp [e]
    · have hc : ∀ m, m = (if z < x then z else x) → m ≤ x ∧ m ≤ z := fun m hm => by
        subst hm
        split <;> omega
      have hm := hc _ rfl
      generalize (if z < x then z else x) = m at h1 h2 hm ⊢
      have h0 := h2 _ (List.mem_cons_self)
      rcases List.mem_cons.mp hy with rfl | hy
      · omega
      · rcases List.mem_cons.mp hy with rfl | hy
        · omega
        · exact h2 y (List.mem_cons_of_mem _ hy)
theorem maxI_spec : ∀ (r : List Int) (x : Int), maxI x r ∈ x :: r ∧ ∀ y ∈ x :: r, y ≤ maxI x r
  | [], x => ⟨by simp [maxI], fun y h => by simp at h; subst h; simp [maxI]⟩
  | z :: r, x => by
    obtain ⟨h1, h2⟩ := maxI_spec r (if x < z then z else x)
    unfold maxI
    refine ⟨?_, fun y hy => ?_⟩
    · rcases List.mem_cons.mp h1 with e | e
      · rw [e]
        split
        · simp
        · simp
      · simp [e]
    · have hc : ∀ m, m = (if x < z then z else x) → x ≤ m ∧ z ≤ m := fun m hm => by
        subst hm
        split <;> omega
      have hm := hc _ rfl
      generalize (if x < z then z else x) = m at h1 h2 hm ⊢
      have h0 := h2 _ (List.mem_cons_self)
      rcases List.mem_cons.mp hy with rfl | hy
      · omega
      · rcases List.mem_cons.mp hy with rfl | hy
        · omega
        · exact h2 y (List.mem_cons_of_mem _ hy)
theorem insI_perm (x : Int) : ∀ r : List Int, (insI x r).Perm (x :: r)
  | [] => List.Perm.refl _
  | y :: r => by
    unfold insI
    split
    · exact List.Perm.refl _
    · exact ((insI_perm x r).cons y).trans (List.Perm.swap x y r)
theorem sortI_perm : ∀ r : List Int, (sortI r).Perm r
  | [] => List.Perm.refl _
  | x :: r => (insI_perm x (sortI r)).trans ((sortI_perm r).cons x)
theorem insI_sorted (x : Int) : ∀ r : List Int, r.Pairwise (· ≤ ·) → (insI x r).Pairwise (· ≤ ·)
  | [], _ => List.pairwise_singleton _ _
  | y :: r, h => by
    have h' := List.pairwise_cons.mp h
    unfold insI
    split
    · rename_i hxy
      refine List.pairwise_cons.mpr ⟨fun z hz => ?_, h⟩
      rcases List.mem_cons.mp hz with rfl | hz
      · exact hxy
      · exact Int.le_trans hxy (h'.1 z hz)
    · rename_i hxy
      refine List.pairwise_cons.mpr ⟨fun z hz => ?_, insI_sorted x r h'.2⟩
      rcases List.mem_cons.mp ((insI_perm x r).mem_iff.mp hz) with rfl | hz
      · omega
      · exact h'.1 z hz
theorem sortI_sorted : ∀ r : List Int, (sortI r).Pairwise (· ≤ ·)
  | [] => List.Pairwise.nil
  | x :: r => insI_sorted x _ (sortI_sorted r)
theorem sortI_uniq {a b : List Int} (h : a.Perm b) (hs : a.Pairwise (· ≤ ·)) : a = sortI b := PySem.W.ksm_same (h.trans (sortI_perm b).symm) hs (sortI_sorted b)
theorem findI_spec (d : PyData) : ∀ (ds : List PyData) (j : Nat), findI d ds = some j → ∃ z, ds[j]? = some z ∧ PyData.eqv z d = true ∧ ∀ (m : Nat) (z' : PyData), m < j → ds[m]? = some z' → PyData.eqv z' d = false
  | [], j, h => by cases h
  | x :: r, j, h => by
    unfold findI at h
    split at h
    · rename_i hx
      cases h
      exact ⟨x, rfl, hx, fun m z hm => absurd hm (Nat.not_lt_zero m)⟩
    · rename_i hx
      cases e : findI d r with
      | none =>
        rw [e] at h
        cases h
      | some k =>
        rw [e] at h
        have hj : k + 1 = j := Option.some.inj h
        subst hj
        obtain ⟨z, h1, h2, h3⟩ := findI_spec d r k e
        refine ⟨z, by simpa using h1, h2, fun m z' hm hz => ?_⟩
        cases m with
        | zero =>
          simp at hz
          subst hz
          simpa using hx
        | succ m => exact h3 m z' (by omega) (by simpa using hz)
section
variable {X : Cx}
theorem c_len : CallR X (.builtin "len") (rC X.K (bltD .len)) := by
  refine CallR.imp (call_len_seq.or call_len_str) fun xs H Q h => ?_
  obtain ⟨Hf, ds, z, ex, rs, g, q⟩ := h
  unfold bltD at g
  split at g <;> first | cases g | skip
  all_goals (try rename_i e; try cases e)
  all_goals (obtain ⟨x, rfl, r⟩ := one_of rs)
  · obtain ⟨l, vs, rfl, sq, rv⟩ := r.list ex
    exact .inl ⟨l, vs, rfl, .inl sq, by rw [rv.len]; exact fin_int q⟩
  · obtain ⟨l, vs, rfl, sq, rv⟩ := r.tuple ex
    exact .inl ⟨l, vs, rfl, .inr sq, by rw [rv.len]; exact fin_int q⟩
  · have := r.str
    subst this
    split at g
    · cases g
      exact .inr ⟨_, rfl, by assumption, fin_int q⟩
    · cases g

theorem c_int : CallR X (.type "int") (rC X.K (bltD .int)) := by
  refine CallR.imp call_int1 fun xs H Q h => ?_
  obtain ⟨Hf, ds, z, ex, rs, g, q⟩ := h
  unfold bltD at g
  split at g <;> first | cases g | skip
  all_goals (try rename_i e; try cases e)
  all_goals (obtain ⟨x, rfl, r⟩ := one_of rs)
  · have := r.int
    subst this
    exact .inl ⟨_, rfl, fin_int q⟩
  · have := r.bool
    subst this
    exact .inr ⟨_, rfl, fin_int q⟩
theorem call_list_str1 (hc : X.calm = true) : CallR X (.type "list") (fun xs H Q => ∃ z : Str, xs = [.str z] ∧ z.length ≤ sizeLine ∧ ∀ l, H l = none → Q (.ref l) (upd H l (.lst (z.cps.toList.map fun c => V.str ⟨#[c]⟩)))) := by
  intro pins s σ H xs us Q I r h
  obtain ⟨z, rfl, hz, q⟩ := h
  obtain ⟨u, rfl, rx⟩ := vals1 r
  obtain ⟨t, rfl⟩ := rx
  refine call_list_str (I.ok.hd hc) z t (hn := hz) fun h' tk acc' c' hk hS' hacc => ?_
  have hf : H s.heap.objs.size = none := I.hok.fresh (Nat.le_refl _)
  refine ⟨.ref s.heap.objs.size, _, I.laid (t' := tk) (o := .lst (z.cps.toList.map fun c => V.str ⟨#[c]⟩)) hk (Nat.le_refl _) ?_, rfl, q _ hf⟩
  refine ⟨by rw [List.length_map, Array.length_toList]; exact hz, acc'.toList, c', ?_, by simpa using hS'⟩
  have main : ∀ (cs : List Nat) (as : List Value), as.length = cs.length → (∀ (j : Nat) (v : Value), as[j]? = some v → ∃ c u, cs[j]? = some c ∧ v = Value.str ⟨#[c]⟩ u) → Vals (cs.map fun c => V.str ⟨#[c]⟩) as := by
    intro cs
    induction cs with
    | nil =>
      intro as hl _
      cases as with
      | nil => exact .nil
      | cons => simp at hl
    | cons c cs ih =>
      intro as hl ha
      cases as with
      | nil => simp at hl
      | cons v as =>
        obtain ⟨c1, u1, e1, e2⟩ := ha 0 v rfl
        simp at e1
        subst e1
        refine .cons ⟨u1, e2⟩ (ih as (by simpa using hl) fun j v hv => ?_)
        obtain ⟨c2, u2, e3, e4⟩ := ha (j + 1) v (by simpa using hv)
        exact ⟨c2, u2, by simpa using e3, e4⟩
  refine main _ _ (by rw [Array.length_toList, Array.length_toList]; exact hacc.1) fun j v hv => ?_
  obtain ⟨c, u, hc, e⟩ := hacc.2 j v (by simpa using hv)
  exact ⟨c, u, by simpa using hc, e⟩
theorem c_list (hc : X.calm = true) : CallR X (.type "list") (rC X.K (bltD .list)) := by
  refine CallR.imp (call_list_of.or (call_list_str1 hc)) fun xs H Q h => ?_
  obtain ⟨Hf, ds, z, ex, rs, g, q⟩ := h
  unfold bltD at g
  split at g <;> first | cases g | skip
  all_goals (try rename_i e; try cases e)
  all_goals (obtain ⟨x, rfl, r⟩ := one_of rs)
  · obtain ⟨l, vs, rfl, sq, rv⟩ := r.list ex
    exact .inl ⟨l, vs, rfl, .inl sq, fin_lst ex rv q⟩
  · obtain ⟨l, vs, rfl, sq, rv⟩ := r.tuple ex
    exact .inl ⟨l, vs, rfl, .inr sq, fin_lst ex rv q⟩
  · have := r.str
    subst this
    split at g
    · cases g
      exact .inr ⟨_, rfl, by assumption, fin_lst ex (rp_signs _) q⟩
    · cases g
theorem c_tuple : CallR X (.type "tuple") (rC X.K (bltD .tuple)) := by
  refine CallR.imp (call_tuple_of.or call_tupleS) fun xs H Q h => ?_
  obtain ⟨Hf, ds, z, ex, rs, g, q⟩ := h
  unfold bltD at g
  split at g <;> first | cases g | skip
  all_goals (try rename_i e; try cases e)
  all_goals (obtain ⟨x, rfl, r⟩ := one_of rs)
  · obtain ⟨l, vs, rfl, sq, rv⟩ := r.list ex
    exact .inr ⟨l, vs, rfl, sq, fin_tup ex rv q⟩
  · have r' := r
    obtain ⟨l, vs, rfl, sq, rv⟩ := r.tuple ex
    refine .inl ⟨l, vs, rfl, .inr ⟨sq, ?_⟩⟩
    rcases r' with r' | ⟨_, _, _, _, e2, _⟩
    · exact q _ _ _ .refl r'
    · cases e2
theorem c_min (hc : X.calm = true) : CallR X (.builtin "min") (rC X.K (bltD .min)) := by
  refine CallR.imp ((call_min2 hc).or (cr_min hc)) fun xs H Q h => ?_
  obtain ⟨Hf, ds, z, ex, rs, g, q⟩ := h
  unfold bltD at g
  split at g <;> first | cases g | skip
  all_goals (try rename_i e; try cases e)
  · obtain ⟨x, y, rfl, r, r2⟩ := two_of rs
    have := r.int
    subst this
    have := r2.int
    subst this
    exact .inl ⟨_, _, rfl, fin_int q⟩
  · obtain ⟨x, rfl, r⟩ := one_of rs
    split at g
    · rename_i i rr hi
      cases g
      obtain ⟨l, vs, rfl, sq, rv⟩ := r.list ex
      rw [rv.ints hi] at sq
      obtain ⟨m1, m2⟩ := minI_spec rr i
      refine .inr ⟨l, i :: rr, rfl, sq, by simp, fun m h1 h2 => ?_⟩
      have : m = minI i rr := Int.le_antisymm (h2 _ m1) (m2 m h1)
      rw [this]
      exact fin_int q
    · cases g
theorem c_max (hc : X.calm = true) : CallR X (.builtin "max") (rC X.K (bltD .max)) := by
  refine CallR.imp ((call_max2 hc).or (cr_max hc)) fun xs H Q h => ?_
  obtain ⟨Hf, ds, z, ex, rs, g, q⟩ := h
  unfold bltD at g
  split at g <;> first | cases g | skip
  all_goals (try rename_i e; try cases e)
  · obtain ⟨x, y, rfl, r, r2⟩ := two_of rs
    have := r.int
    subst this
    have := r2.int
    subst this
    exact .inl ⟨_, _, rfl, fin_int q⟩
  · obtain ⟨x, rfl, r⟩ := one_of rs
    split at g
    · rename_i i rr hi
      cases g
      obtain ⟨l, vs, rfl, sq, rv⟩ := r.list ex
      rw [rv.ints hi] at sq
      obtain ⟨m1, m2⟩ := maxI_spec rr i
      refine .inr ⟨l, i :: rr, rfl, sq, by simp, fun m h1 h2 => ?_⟩
      have : m = maxI i rr := Int.le_antisymm (m2 m h1) (h2 _ m1)
      rw [this]
      exact fin_int q
    · cases g
theorem c_any (hc : X.calm = true) : CallR X (.builtin "any") (rC X.K (bltD .any)) := by
  refine CallR.imp (cr_any hc) fun xs H Q h => ?_
  obtain ⟨Hf, ds, z, ex, rs, g, q⟩ := h
  unfold bltD at g
  split at g <;> first | cases g | skip
  all_goals (try rename_i e; try cases e)
  obtain ⟨x, rfl, r⟩ := one_of rs
  rename_i xs
  cases hi : boolsOf xs with
  | none =>
    rw [hi] at g
    cases g
  | some bs =>
    rw [hi] at g
    cases g
    obtain ⟨l, vs, rfl, sq, rv⟩ := r.list ex
    rw [rv.bools hi] at sq
    exact ⟨l, bs, rfl, sq, fin_bool q⟩
theorem c_all (hc : X.calm = true) : CallR X (.builtin "all") (rC X.K (bltD .all)) := by
  refine CallR.imp (cr_all hc) fun xs H Q h => ?_
  obtain ⟨Hf, ds, z, ex, rs, g, q⟩ := h
  unfold bltD at g
  split at g <;> first | cases g | skip
  all_goals (try rename_i e; try cases e)
  obtain ⟨x, rfl, r⟩ := one_of rs
  rename_i xs
  cases hi : boolsOf xs with
  | none =>
    rw [hi] at g
    cases g
  | some bs =>
    rw [hi] at g
    cases g
    obtain ⟨l, vs, rfl, sq, rv⟩ := r.list ex
    rw [rv.bools hi] at sq
    exact ⟨l, bs, rfl, sq, fin_bool q⟩
theorem c_sorted : CallR X (.builtin "sorted") (rC X.K (bltD .sorted)) := by
  refine CallR.imp cr_sortedI fun xs H Q h => ?_
  obtain ⟨Hf, ds, z, ex, rs, g, q⟩ := h
  unfold bltD at g
  split at g <;> first | cases g | skip
  all_goals (try rename_i e; try cases e)
  obtain ⟨x, rfl, r⟩ := one_of rs
  rename_i xs
  cases hi : intsOf xs with
  | none =>
    rw [hi] at g
    cases g
  | some bs =>
    rw [hi] at g
    cases g
    obtain ⟨l, vs, rfl, sq, rv⟩ := r.list ex
    rw [rv.ints hi] at sq
    refine ⟨l, bs, rfl, sq, fun ns' p hp hs hn => ?_⟩
    rw [sortI_uniq hp hs]
    exact fin_lst ex (rp_ints _) q p hn
/-! ### isinstance -/
theorem c_isi {n : String} {g : List PyData → Option PyData} (hg : ∀ ds z, g ds = some z → ∃ d b, ds = [d] ∧ z = .bool b ∧
      (match d with
        | .none => kitB "NoneType" n = some b
        | .bool _ => kitB "bool" n = some b
        | .int _ => kitB "int" n = some b
        | .str _ => kitB "str" n = some b
        | .list _ => kitB "list" n = some b
        | .tuple _ => kitB "tuple" n = some b
        | .dict _ => False)) : CallR X (.builtin "isinstance") (fun xs H Q => ∃ x, xs = [x, .ty n] ∧ rC X.K g [x] H Q) := by
  refine CallR.imp call_isi fun xs H Q h => ?_
  obtain ⟨x, rfl, Hf, ds, z, ex, rs, g, q⟩ := h
  obtain ⟨d, b, rfl, rfl, hd⟩ := hg _ _ g
  obtain ⟨x', e, r⟩ := one_of rs
  cases e
  have q := fin_bool q
  rcases r with r | ⟨l, vs, ys, e, e2, h, hs⟩
  · cases r with
    | non => exact ⟨_, _, _, _, b, rfl, .ty n, .base .non, kit_ty hd, q⟩
    | bl k => exact ⟨_, _, _, _, b, rfl, .ty n, .base (.bl k), kit_ty hd, q⟩
    | int k => exact ⟨_, _, _, _, b, rfl, .ty n, .base (.int k), kit_ty hd, q⟩
    | str k => exact ⟨_, _, _, _, b, rfl, .ty n, .base (.str k), kit_ty hd, q⟩
    | lst h _ => exact ⟨_, _, _, _, b, rfl, .ty n, .base (.lst (ex _ _ h)), kit_ty hd, q⟩
    | tup h _ _ => exact ⟨_, _, _, _, b, rfl, .ty n, .fTuple (ex _ _ h), kit_ty hd, q⟩
  · subst e e2
    rcases h with (h | ⟨o, h⟩) | ⟨o, its, n', h, hc, _⟩
    · exact ⟨_, _, _, _, b, rfl, .ty n, .base (.lst h), kit_ty hd, q⟩
    · exact ⟨_, _, _, _, b, rfl, .ty n, .base (.frz h), kit_ty hd, q⟩
    · exact ⟨_, _, _, _, b, rfl, .ty n, .kList h hc, kit_ty hd, q⟩
theorem c_isStr : CallR X (.builtin "isinstance") (fun xs H Q => ∃ x, xs = [x, .ty "str"] ∧ rC X.K (bltD .isStr) [x] H Q) := c_isi fun ds z h => by
  cases ds with
  | nil => cases h
  | cons d t =>
    cases t with
    | cons e t => cases h
    | nil => cases d <;> first | exact ⟨_, _, rfl, (Option.some.inj h).symm, by first | (show _ = some false; decide +kernel) | (show _ = some true; decide +kernel)⟩ | cases h
theorem c_isInt : CallR X (.builtin "isinstance") (fun xs H Q => ∃ x, xs = [x, .ty "int"] ∧ rC X.K (bltD .isInt) [x] H Q) := c_isi fun ds z h => by
  cases ds with
  | nil => cases h
  | cons d t =>
    cases t with
    | cons e t => cases h
    | nil => cases d <;> first | exact ⟨_, _, rfl, (Option.some.inj h).symm, by first | (show _ = some false; decide +kernel) | (show _ = some true; decide +kernel)⟩ | cases h
theorem c_isBool : CallR X (.builtin "isinstance") (fun xs H Q => ∃ x, xs = [x, .ty "bool"] ∧ rC X.K (bltD .isBool) [x] H Q) := c_isi fun ds z h => by
  cases ds with
  | nil => cases h
  | cons d t =>
    cases t with
    | cons e t => cases h
    | nil => cases d <;> first | exact ⟨_, _, rfl, (Option.some.inj h).symm, by first | (show _ = some false; decide +kernel) | (show _ = some true; decide +kernel)⟩ | cases h
theorem c_isTuple : CallR X (.builtin "isinstance") (fun xs H Q => ∃ x, xs = [x, .ty "tuple"] ∧ rC X.K (bltD .isTuple) [x] H Q) := c_isi fun ds z h => by
  cases ds with
  | nil => cases h
  | cons d t =>
    cases t with
    | cons e t => cases h
    | nil => cases d <;> first | exact ⟨_, _, rfl, (Option.some.inj h).symm, by first | (show _ = some false; decide +kernel) | (show _ = some true; decide +kernel)⟩ | cases h
theorem c_isList : CallR X (.builtin "isinstance") (fun xs H Q => ∃ x, xs = [x, .ty "list"] ∧ rC X.K (bltD .isList) [x] H Q) := c_isi fun ds z h => by
  cases ds with
  | nil => cases h
  | cons d t =>
    cases t with
    | cons e t => cases h
    | nil => cases d <;> first | exact ⟨_, _, rfl, (Option.some.inj h).symm, by first | (show _ = some false; decide +kernel) | (show _ = some true; decide +kernel)⟩ | cases h
end
end Pl

set_option Elab.async false
set_option linter.all false
set_option maxRecDepth 100000
set_option maxHeartbeats 1000000
/-! Pl: methods by data; the terms' soundness. -/
namespace Pl
open PySem PySem.Spec PyProof.Rows L2

/-! ### t.index(x), t a tuple whose object is known -/
def rIxTD (K : PySem.W.Frag) : V → List V → Hp → VK → Prop := fun x xs H Q => ∃ (a : Addr) (o : Obj) (vs : List V) (y : V) (d : PyData) (ds : List PyData) (j : Nat), x = .ref a ∧ xs = [y] ∧ H a = some (.frz o (.tup vs)) ∧ o.dict = none ∧ DpAll K H vs ds ∧ Dp K H y d ∧
  SeqAt.shaped (.list ds) = true ∧ SeqAt.shaped d = true ∧ findI d ds = some j ∧ Q (.int (j : Nat)) H
section
variable {X : Cx}
theorem mt_indexT (hu : X.A.units + 65 < cLine) : MtR X "tuple.index" (rIxTD X.K) := fun pins s σ H x xs v us Q I rx rxs ⟨a, o, vs, y, d, ds, j, ex, exs, ha, hd, hvs, hy, sl, sd, hf, q⟩ => by
  subst ex exs
  cases rx
  obtain ⟨uy, eu, ry⟩ := vals1 rxs
  subst eu
  obtain ⟨bs, r1⟩ := Dp.reads I d y uy hy ry
  have hxs : PyData.canLayAll0 ds = true := SeqAt.canLay_of_shaped sl
  obtain ⟨ho, hz, its, rv, o2, ho2, hc, n, hdt⟩ := I.hok a _ ha
  rw [ho] at ho2
  cases ho2
  obtain ⟨cls, dd, data, sls⟩ := o
  simp only at hc hdt hd
  subst hc hdt hd
  obtain ⟨as, h4⟩ := Dp.readsAll I ds _ its hvs rv
  have hn : its.length = ds.length := SeqAt.ReadsAll.length ds its as h4
  have hmap : its.map (SeqAt.readOf s.heap) = ds := SeqAt.readsAll_map ds its as hxs h4
  obtain ⟨z, hzj, hze, hno⟩ := findI_spec d ds j hf
  have hjd : j < ds.length := (List.getElem?_eq_some_iff.mp hzj).1
  have hj : j < its.toArray.size := by
    rw [List.size_toArray]
    omega
  have at_ : ∀ (m : Nat) (hm : m < its.toArray.size) (z' : PyData), ds[m]? = some z' → SeqAt.readOf s.heap its.toArray[m] = z' := fun m hm z' hz' => by
    have hml : m < its.length := by simpa using hm
    rw [← hmap, List.getElem?_map, List.getElem?_eq_getElem hml] at hz'
    have e1 := Option.some.inj hz'
    simpa using e1
  refine call_meets F.slot_tuple_index ⟨_, ho, rfl⟩ F.entry_tuple_index (F.args_tuple_index_2 _ _) (TI.tuple_indexAt a its.toArray n none sls uy (fun u => PyData.eqv (SeqAt.readOf s.heap u) d) j hj ?_ ?_)
    ⟨ho, SeqAt.items_eqAt (vs := its.toArray) (xs := ds) (by simpa using h4) r1 hxs (SeqAt.canLay_of_shaped sd) (room_in_shaped sd hu), ⟨.int (j : Nat), H, I.tok _, ⟨_, rfl⟩, q⟩⟩
  · show PyData.eqv (SeqAt.readOf s.heap its.toArray[j]) d = true
    rw [at_ j hj z hzj]
    exact hze
  · intro m hm hmj
    have hz' : ds[m]? = some (ds[m]'(by omega)) := List.getElem?_eq_getElem _
    show PyData.eqv (SeqAt.readOf s.heap its.toArray[m]) d = false
    rw [at_ m hm _ hz']
    exact hno m _ hmj hz'
def tBMT (r : V → List V → Hp → VK → Prop) (to : TE) (t : TA) : TE := fun σ H Q => to σ H fun x H1 => (∃ p o xs, x = .ref p ∧ H1 p = some (.frz o (.tup xs)) ∧ o.dict = none) ∧ t σ H1 fun xs H2 => r x xs H2 Q
theorem pe_bmT {o e : Expr} {es : List Expr} {to : TE} {t : TA} {name : Str} {apos cpos : Pos} {id : String} {r : V → List V → Hp → VK → Prop} (slot : Slot "tuple" name id) (hty : typeOf (.builtin id) = pure (.type "method_descriptor")) (hm : MtR X id r) (ho : PE X o to) (ha : PA X (e :: es) t)
    (hbase : attributeBase o name X.env (eval o X.env) = eval o X.env) (hfew : ((backTo cpos (starEach (e :: es) X.env)).all (fun x => !x.1) && (backToKw cpos (keywordEach [] X.env)).all (fun x => x.1.isSome) && decide ((e :: es).length + ([] : List Keyword).length + (if ([] : List Keyword).isEmpty then 0 else 1) < 30)) = true)
    (hline : (apos.endLine == cpos.line) = true) (hs : starEach (e :: es) X.env = (false, eval e X.env) :: starEach es X.env) (hplain : (backTo cpos (starEach es X.env)).any (·.1) = false) : PE X (.Call (.Attribute o name apos) (e :: es) [] cpos) (tBMT r to t) :=
  ⟨fun pins s σ H Q I h => wpAny_Call_method_late hbase hfew hline rfl (thn (ho.run pins s σ H _ I h) fun v s1 ⟨x, H1, I1, r1, ⟨p, ob, xs, ex, hp, hd⟩, q1⟩ => by
    subst ex
    obtain ⟨g1, _, _, _, o2, g2, hc, _⟩ := I1.hok p _ hp
    rw [g1] at g2
    cases g2
    have er : v = .ref p := r1
    subst er
    refine ⟨"tuple", id, F.plainAttrs_tuple, slot, hty, ⟨ob, g1, hc⟩, fun a e => by cases e; exact ⟨ob, g1, hd⟩, ?_⟩
    have hA := ha.run cpos pins s1 σ H1 _ I1 q1
    rw [hs] at hA ⊢
    exact Calls.callWith_builtin (by show (false || (backTo cpos (starEach es X.env)).any (fun z => z.1)) = false; rw [hplain] <;> rfl) (Calls.evalArgs_plain (thn hA fun us s2 ⟨vs, H2, I2, r2, q2⟩ => hm pins s2 σ H2 _ vs _ us Q I2 r1 r2 q2)))⟩
end

/-! ### the terms' readings -/
section
variable (K : PySem.W.Frag) (C : CallF) (T : Addr) (H0 Hf0 : Hp)
def tE (m : M) : TE := fun σ H Q => ∃ Hf env t d t', Abs K T H0 Hf0 Hf env t σ H ∧ ev C env m t = some (d, t') ∧ ∀ v Hf' H', Abs K T H0 Hf0 Hf' env t' σ H' → Kp T Hf H Hf' H' → Rp Hf' v d → Q v H'
/-- a term that is read at once: what may still change is read then -/
def tR (m : M) : TE := fun σ H Q => ∃ Hf env t d t', Abs K T H0 Hf0 Hf env t σ H ∧ ev C env m t = some (d, t') ∧ ∀ v Hf' H', Abs K T H0 Hf0 Hf' env t' σ H' → Kp T Hf H Hf' H' → (∀ Hf2 H2 t2, Abs K T H0 Hf0 Hf2 env t2 σ H2 → Kp T Hf' H' Hf2 H2 → Rb K Hf2 H2 v d) → Q v H'
def tT (m : M) : TT := fun σ H Q => ∃ Hf env t b t', Abs K T H0 Hf0 Hf env t σ H ∧ ev C env m t = some (.bool b, t') ∧ ∀ Hf' H', Abs K T H0 Hf0 Hf' env t' σ H' → Kp T Hf H Hf' H' → Q b H'
def ArgOK (Hf : Hp) (v : V) : LV → Prop
  | .d x => Rp Hf v x
  | .tp => v = .ref T
  | .scr ns => ∃ l, v = .ref l ∧ SqL K Hf l (ns.map V.int)
  | .gd kvs => ∃ l vs, v = .ref l ∧ Hf l = some (.dK vs) ∧ KvAll Hf vs kvs
  | _ => False
def tA (m : M) : TA := fun σ H Q => ∃ Hf env t lvs t', Abs K T H0 Hf0 Hf env t σ H ∧ evs C env m t = some (lvs, t') ∧ ∀ vs Hf' H', Abs K T H0 Hf0 Hf' env t' σ H' → Kp T Hf H Hf' H' → Paired (ArgOK K T Hf') vs lvs → Q vs H'
end
/-- the term m says what the expression e is worth -/
structure SemE (C : CallF) (X : Cx) (e : Expr) (m : M) : Prop where
  run : ∀ T H0 Hf0, PE X e (tE X.K C T H0 Hf0 m)
/-- what is said besides of a result, against the heap at the def's entry -/
abbrev NwP := Hp → Hp → V → Prop
def NwT : NwP := fun _ _ _ => True
def tEN (K : PySem.W.Frag) (C : CallF) (T : Addr) (H0 Hf0 : Hp) (m : M) (P : NwP) : TE := fun σ H Q => ∃ Hf env t d t', Abs K T H0 Hf0 Hf env t σ H ∧ ev C env m t = some (d, t') ∧ ∀ v Hf' H', Abs K T H0 Hf0 Hf' env t' σ H' → Kp T Hf H Hf' H' → Rp Hf' v d → P H0 Hf' v → Q v H'
structure SemN (C : CallF) (X : Cx) (e : Expr) (m : M) (P : NwP) : Prop where
  run : ∀ T H0 Hf0, PE X e (tEN X.K C T H0 Hf0 m P)
theorem SemE.sayT {C : CallF} {X : Cx} {e : Expr} {m : M} (h : SemE C X e m) : SemN C X e m NwT := ⟨fun T H0 Hf0 => PE.imp (h.run T H0 Hf0) fun σ H Q ⟨Hf, env, t, d, t', A, e, k⟩ => ⟨Hf, env, t, d, t', A, e, fun v Hf' H' A' k' r => k v Hf' H' A' k' r True.intro⟩⟩
structure SemR (C : CallF) (X : Cx) (e : Expr) (m : M) : Prop where
  run : ∀ T H0 Hf0, PE X e (tR X.K C T H0 Hf0 m)
structure SemT (C : CallF) (X : Cx) (e : Expr) (m : M) : Prop where
  run : ∀ T H0 Hf0, PT X e (tT X.K C T H0 Hf0 m)
structure SemA (C : CallF) (X : Cx) (es : List Expr) (m : M) : Prop where
  run : ∀ T H0 Hf0, PA X es (tA X.K C T H0 Hf0 m)
section
variable {C : CallF} {X : Cx} {a b c e : Expr} {es : List Expr} {ma mb mc m : M} {pos : Pos} {K : PySem.W.Frag} {T : Addr} {H0 Hf0 Hf : Hp} {env : Env} {t t1 t2 : Int} {σ : L2.St} {H : Hp} {d1 d2 : PyData}
theorem ArgOK.kp {Hf' H' : Hp} {v : V} (k : Kp T Hf H Hf' H') : ∀ {lv : LV}, ArgOK K T Hf v lv → ArgOK K T Hf' v lv
  | .d x, h => Rp.mono k.ex _ _ h
  | .tp, h => h
  | .scr ns, ⟨l, e, h⟩ => ⟨l, e, Same.seq k.ex h⟩
  | .own _, h => h
  | .dk _ _, h => h
  | .gd _, ⟨l, vs, e, a, c⟩ => ⟨l, vs, e, k.ex _ _ a, KvAll.mono k.ex c⟩
  | .dt _, h => h
theorem SemE.r (h : SemE C X e m) : SemR C X e m := ⟨fun T H0 Hf0 => PE.imp (h.run T H0 Hf0) fun σ H Q ⟨Hf, env, t, d, t', A, e, k⟩ => ⟨Hf, env, t, d, t', A, e, fun v Hf' H' A' kp r => k v Hf' H' A' kp fun Hf2 H2 t2 A2 k2 => .inl (Rp.mono k2.ex _ _ r)⟩⟩
/-- two operands -/
theorem two (A : Abs K T H0 Hf0 Hf env t σ H) (e1 : ev C env ma t = some (d1, t1)) (e2 : ev C env mb t1 = some (d2, t2)) {R : V → V → Hp → Prop}
    (h : ∀ v1 v2 Hf2 H2, Abs K T H0 Hf0 Hf2 env t2 σ H2 → Kp T Hf H Hf2 H2 → Rp Hf2 v1 d1 → Rp Hf2 v2 d2 → R v1 v2 H2) : tE K C T H0 Hf0 ma σ H fun x H1 => tE K C T H0 Hf0 mb σ H1 fun y H2 => R x y H2 :=
  ⟨Hf, env, t, d1, t1, A, e1, fun v Hf1 H1 A1 k1 r1 => ⟨Hf1, env, t1, d2, t2, A1, e2, fun w Hf2 H2 A2 k2 r2 => h v w Hf2 H2 A2 (k1.trans k2) (Rp.mono k2.ex _ _ r1) r2⟩⟩
theorem twoL (A : Abs K T H0 Hf0 Hf env t σ H) (e1 : ev C env ma t = some (d1, t1)) (e2 : ev C env mb t1 = some (d2, t2)) {R : V → V → Hp → Prop}
    (h : ∀ v1 v2 Hf2 H2, Abs K T H0 Hf0 Hf2 env t2 σ H2 → Kp T Hf H Hf2 H2 → Rb K Hf2 H2 v1 d1 → Rp Hf2 v2 d2 → R v1 v2 H2) : tR K C T H0 Hf0 ma σ H fun x H1 => tE K C T H0 Hf0 mb σ H1 fun y H2 => R x y H2 :=
  ⟨Hf, env, t, d1, t1, A, e1, fun v Hf1 H1 A1 k1 r1 => ⟨Hf1, env, t1, d2, t2, A1, e2, fun w Hf2 H2 A2 k2 r2 => h v w Hf2 H2 A2 (k1.trans k2) (r1 Hf2 H2 t2 A2 k2) r2⟩⟩
theorem twoR (A : Abs K T H0 Hf0 Hf env t σ H) (e1 : ev C env ma t = some (d1, t1)) (e2 : ev C env mb t1 = some (d2, t2)) {R : V → V → Hp → Prop}
    (h : ∀ v1 v2 Hf2 H2, Abs K T H0 Hf0 Hf2 env t2 σ H2 → Kp T Hf H Hf2 H2 → Rp Hf2 v1 d1 → Rb K Hf2 H2 v2 d2 → R v1 v2 H2) : tE K C T H0 Hf0 ma σ H fun x H1 => tR K C T H0 Hf0 mb σ H1 fun y H2 => R x y H2 :=
  ⟨Hf, env, t, d1, t1, A, e1, fun v Hf1 H1 A1 k1 r1 => ⟨Hf1, env, t1, d2, t2, A1, e2, fun w Hf2 H2 A2 k2 r2 => h v w Hf2 H2 A2 (k1.trans k2) (Rp.mono k2.ex _ _ r1) (r2 Hf2 H2 t2 A2 (Kp.refl _ _ _))⟩⟩
theorem map_some {α β : Type} {o : Option α} {f : α → β} {z : β} (h : o.map f = some z) : ∃ x, o = some x ∧ f x = z := by
  cases o with
  | none => cases h
  | some x => exact ⟨x, rfl, Option.some.inj h⟩
theorem ev2 {α : Type} {f : PyData → PyData → Int → Option α} {z : α} (h : (match ev C env ma t with
    | some (x, t1) => match ev C env mb t1 with
      | some (y, t2) => f x y t2
      | none => none
    | none => none) = some z) : ∃ d1 t1 d2 t2, ev C env ma t = some (d1, t1) ∧ ev C env mb t1 = some (d2, t2) ∧ f d1 d2 t2 = some z := by
  cases e1 : ev C env ma t with
  | none =>
    rw [e1] at h
    cases h
  | some p1 =>
    obtain ⟨d1, t1⟩ := p1
    rw [e1] at h
    cases e2 : ev C env mb t1 with
    | none =>
      simp only [e2] at h
      cases h
    | some p2 =>
      obtain ⟨d2, t2⟩ := p2
      simp only [e2] at h
      exact ⟨d1, t1, d2, t2, rfl, e2, h⟩
theorem ev1 {α : Type} {f : PyData → Int → Option α} {z : α} (h : (match ev C env ma t with
    | some (x, t1) => f x t1
    | none => none) = some z) : ∃ d1 t1, ev C env ma t = some (d1, t1) ∧ f d1 t1 = some z := by
  cases e1 : ev C env ma t with
  | none =>
    rw [e1] at h
    cases h
  | some p1 =>
    obtain ⟨d1, t1⟩ := p1
    rw [e1] at h
    exact ⟨d1, t1, rfl, h⟩
/-! ### names, constants -/
theorem se_var (i : Nat) {x : Str} (hN : X.N[i]? = some x) (hv : Vis X.env.scope x) (hd : (x == ("__debug__" : Str)) = false := by decide) (hcd : (x == ("__classdict__" : Str)) = false := by decide) : SemE C X (.Name x pos) (.var i) :=
  ⟨fun T H0 Hf0 => PE.imp (pe_var hN hv hd hcd) fun σ H Q ⟨Hf, env, t, d, t', A, e, k⟩ => by
    unfold ev at e
    split at e
    · rename_i x hx
      cases e
      obtain ⟨v, hs, r⟩ := A.loc i _ hx
      exact ⟨v, hs, k v Hf H A (Kp.refl _ _ _) r⟩
    · cases e⟩
theorem sr_bor (i : Nat) {x : Str} (hN : X.N[i]? = some x) (hv : Vis X.env.scope x) (hd : (x == ("__debug__" : Str)) = false := by decide) (hcd : (x == ("__classdict__" : Str)) = false := by decide) : SemR C X (.Name x pos) (.bor i) :=
  ⟨fun T H0 Hf0 => PE.imp (pe_var hN hv hd hcd) fun σ H Q ⟨Hf, env, t, d, t', A, e, k⟩ => by
    unfold ev at e
    split at e
    · rename_i x hx
      cases e
      obtain ⟨v, hs, r⟩ := A.loc i _ hx
      exact ⟨v, hs, k v Hf H A (Kp.refl _ _ _) fun Hf2 H2 t2 A2 k2 => .inl (Rp.mono k2.ex _ _ r)⟩
    · rename_i xs hx
      cases e
      obtain ⟨v, hs, r⟩ := A.loc i _ hx
      refine ⟨v, hs, k v Hf H A (Kp.refl _ _ _) fun Hf2 H2 t2 A2 k2 => ?_⟩
      obtain ⟨v2, hs2, l, vs, e1, e2, e3, e4⟩ := A2.loc i _ hx
      rw [hs] at hs2
      cases hs2
      exact .inr ⟨l, vs, xs, e1, rfl, SqL.of e3, e4⟩
    · rename_i ns hx
      cases e
      obtain ⟨v, hs, r⟩ := A.loc i _ hx
      refine ⟨v, hs, k v Hf H A (Kp.refl _ _ _) fun Hf2 H2 t2 A2 k2 => ?_⟩
      obtain ⟨v2, hs2, l, e1, e2⟩ := A2.loc i _ hx
      rw [hs] at hs2
      cases hs2
      exact .inr ⟨l, _, _, e1, rfl, Same.seq A2.ex e2, rp_ints ns⟩
    · cases e⟩
theorem se_lit {v : V} {d : PyData} (h : PE X e (tC v)) (r : ∀ Hf, Rp Hf v d) : SemE C X e (.lit d) :=
  ⟨fun T H0 Hf0 => PE.imp h fun σ H Q ⟨Hf, env, t, d', t', A, e, k⟩ => by
    cases e
    exact k v Hf H A (Kp.refl _ _ _) (r Hf)⟩
theorem se_int {i j} : SemE C X (.Constant (.int i) j pos) (.lit (.int i)) := se_lit pe_int fun _ => .int i
theorem se_str {i j} : SemE C X (.Constant (.str i) j pos) (.lit (.str i)) := se_lit pe_str fun _ => .str i
theorem se_bool {i j} : SemE C X (.Constant (.bool i) j pos) (.lit (.bool i)) := se_lit pe_bl fun _ => .bl i
theorem se_none {j} : SemE C X (.Constant .none j pos) (.lit .none) := se_lit pe_non fun _ => .non
/-! ### operators -/
theorem se_op {op : Operator} {o : Op2} (ho : OpR X (binaryOp op) (rD (binD o))) (ha : SemE C X a ma) (hb : SemE C X b mb) : SemE C X (.BinOp a op b pos) (.bin o ma mb) :=
  ⟨fun T H0 Hf0 => PE.imp (pe_op ho (ha.run T H0 Hf0) (hb.run T H0 Hf0)) fun σ H Q ⟨Hf, env, t, d, t', A, e, k⟩ => by
    unfold ev at e
    obtain ⟨d1, t1, d2, t2, e1, e2, g⟩ := ev2 (f := fun x y t2 => (binD o x y).map (·, t2)) e
    obtain ⟨z, gz, ez⟩ := map_some g
    cases ez
    exact two A e1 e2 fun v1 v2 Hf2 H2 A2 k2 r1 r2 => ⟨Hf2, d1, d2, d, A2.ex, r1, r2, gz, fun v Hf' H' ad r => k v Hf' H' (ad.abs A2).1 (k2.trans (ad.abs A2).2) r⟩⟩
theorem se_add (ha : SemE C X a ma) (hb : SemE C X b mb) : SemE C X (.BinOp a .Add b pos) (.bin .add ma mb) := se_op o_add ha hb
theorem se_sub (ha : SemE C X a ma) (hb : SemE C X b mb) : SemE C X (.BinOp a .Sub b pos) (.bin .sub ma mb) := se_op o_sub ha hb
theorem se_mul (ha : SemE C X a ma) (hb : SemE C X b mb) : SemE C X (.BinOp a .Mult b pos) (.bin .mul ma mb) := se_op o_mul ha hb
theorem se_mod (ha : SemE C X a ma) (hb : SemE C X b mb) : SemE C X (.BinOp a .Mod b pos) (.bin .mod ma mb) := se_op o_mod ha hb
theorem se_fdiv (ha : SemE C X a ma) (hb : SemE C X b mb) : SemE C X (.BinOp a .FloorDiv b pos) (.bin .fdiv ma mb) := se_op o_fdiv ha hb
theorem se_neg (ha : SemE C X a ma) : SemE C X (.UnaryOp .USub a pos) (.neg ma) :=
  ⟨fun T H0 Hf0 => PE.imp (pe_un un_neg (ha.run T H0 Hf0)) fun σ H Q ⟨Hf, env, t, d, t', A, e, k⟩ => by
    unfold ev at e
    split at e
    · rename_i i t1 e1
      cases e
      refine ⟨Hf, env, t, .int i, _, A, e1, fun v Hf' H' A' kp r => ?_⟩
      cases r
      exact ⟨i, rfl, k _ _ _ A' kp (.int _)⟩
    · cases e⟩
/-! ### comparisons, as values and as tests -/
structure SemC (C : CallF) (X : Cx) (e : Expr) (m : M) : Prop where
  val : SemE C X e m
  tst : SemT C X e m
theorem sc_op {op : CmpOp} {o : Cm} (ho : OpR X (compareOp op) (rD (bD (cmpD o)))) (ha : SemE C X a ma) (hb : SemE C X b mb) (hm : behindInMarks op b = false) : SemC C X (.Compare a [op] [b] pos) (.cmp o ma mb) := by
  refine ⟨⟨fun T H0 Hf0 => PE.imp (pe_cmpR ho (ha.run T H0 Hf0) (hb.run T H0 Hf0) hm) fun σ H Q ⟨Hf, env, t, d, t', A, e, k⟩ => ?_⟩, ⟨fun T H0 Hf0 => PT.imp (pt_cmpR ho (ha.run T H0 Hf0) (hb.run T H0 Hf0) hm) fun σ H Q ⟨Hf, env, t, d, t', A, e, k⟩ => ?_⟩⟩
  · unfold ev at e
    obtain ⟨d1, t1, d2, t2, e1, e2, g⟩ := ev2 (f := fun x y t2 => (cmpD o x y).map (PyData.bool ·, t2)) e
    obtain ⟨z, gz, ez⟩ := map_some g
    cases ez
    exact two A e1 e2 fun v1 v2 Hf2 H2 A2 k2 r1 r2 => ⟨Hf2, d1, d2, .bool _, A2.ex, r1, r2, by unfold bD; rw [gz] <;> rfl, fun v Hf' H' ad r => k v Hf' H' (ad.abs A2).1 (k2.trans (ad.abs A2).2) r⟩
  · unfold ev at e
    obtain ⟨d1, t1, d2, t2, e1, e2, g⟩ := ev2 (f := fun x y t2 => (cmpD o x y).map (PyData.bool ·, t2)) e
    obtain ⟨z, gz, ez⟩ := map_some g
    cases ez
    exact two A e1 e2 fun v1 v2 Hf2 H2 A2 k2 r1 r2 => ⟨Hf2, d1, d2, .bool _, A2.ex, r1, r2, by unfold bD; rw [gz] <;> rfl, fun v Hf' H' ad r => by
      cases r
      exact ⟨_, rfl, k Hf' H' (ad.abs A2).1 (k2.trans (ad.abs A2).2)⟩⟩
theorem sc_opR {op : CmpOp} {o : Cm} (ho : OpR X (compareOp op) (rDr X.K (bD (cmpD o)))) (ha : SemE C X a ma) (hb : SemR C X b mb) (hm : behindInMarks op b = false) : SemC C X (.Compare a [op] [b] pos) (.cmp o ma mb) := by
  refine ⟨⟨fun T H0 Hf0 => PE.imp (pe_cmpR ho (ha.run T H0 Hf0) (hb.run T H0 Hf0) hm) fun σ H Q ⟨Hf, env, t, d, t', A, e, k⟩ => ?_⟩, ⟨fun T H0 Hf0 => PT.imp (pt_cmpR ho (ha.run T H0 Hf0) (hb.run T H0 Hf0) hm) fun σ H Q ⟨Hf, env, t, d, t', A, e, k⟩ => ?_⟩⟩
  · unfold ev at e
    obtain ⟨d1, t1, d2, t2, e1, e2, g⟩ := ev2 (f := fun x y t2 => (cmpD o x y).map (PyData.bool ·, t2)) e
    obtain ⟨z, gz, ez⟩ := map_some g
    cases ez
    exact twoR A e1 e2 fun v1 v2 Hf2 H2 A2 k2 r1 r2 => ⟨Hf2, d1, d2, .bool _, A2.ex, r1, r2, by unfold bD; rw [gz] <;> rfl, fun v Hf' H' ad r => k v Hf' H' (ad.abs A2).1 (k2.trans (ad.abs A2).2) r⟩
  · unfold ev at e
    obtain ⟨d1, t1, d2, t2, e1, e2, g⟩ := ev2 (f := fun x y t2 => (cmpD o x y).map (PyData.bool ·, t2)) e
    obtain ⟨z, gz, ez⟩ := map_some g
    cases ez
    exact twoR A e1 e2 fun v1 v2 Hf2 H2 A2 k2 r1 r2 => ⟨Hf2, d1, d2, .bool _, A2.ex, r1, r2, by unfold bD; rw [gz] <;> rfl, fun v Hf' H' ad r => by
      cases r
      exact ⟨_, rfl, k Hf' H' (ad.abs A2).1 (k2.trans (ad.abs A2).2)⟩⟩
theorem sc_eq (hu : X.A.units + 64 < cLine) (ha : SemE C X a ma) (hb : SemE C X b mb) : SemC C X (.Compare a [.Eq] [b] pos) (.cmp .eq ma mb) := sc_op (o_eq hu) ha hb (nomark _)
theorem sc_ne (hu : X.A.units + 64 < cLine) (ha : SemE C X a ma) (hb : SemE C X b mb) : SemC C X (.Compare a [.NotEq] [b] pos) (.cmp .ne ma mb) := sc_op (o_ne hu) ha hb (nomark _)
theorem sc_lt (ha : SemE C X a ma) (hb : SemE C X b mb) : SemC C X (.Compare a [.Lt] [b] pos) (.cmp .lt ma mb) := sc_op (o_ord op_lt) ha hb (nomark _)
theorem sc_le (ha : SemE C X a ma) (hb : SemE C X b mb) : SemC C X (.Compare a [.LtE] [b] pos) (.cmp .le ma mb) := sc_op (o_ord op_le) ha hb (nomark _)
theorem sc_gt (ha : SemE C X a ma) (hb : SemE C X b mb) : SemC C X (.Compare a [.Gt] [b] pos) (.cmp .gt ma mb) := sc_op (o_ord op_gt) ha hb (nomark _)
theorem sc_ge (ha : SemE C X a ma) (hb : SemE C X b mb) : SemC C X (.Compare a [.GtE] [b] pos) (.cmp .ge ma mb) := sc_op (o_ord op_ge) ha hb (nomark _)
theorem sc_in (hu : X.A.units + 65 < cLine) (ha : SemE C X a ma) (hb : SemR C X b mb) (hm : behindInMarks .In b = false := by with_unfolding_all rfl) : SemC C X (.Compare a [.In] [b] pos) (.cmp .isin ma mb) := sc_opR (o_in hu) ha hb hm
theorem sc_notin (hu : X.A.units + 65 < cLine) (ha : SemE C X a ma) (hb : SemR C X b mb) (hm : behindInMarks .NotIn b = false := by with_unfolding_all rfl) : SemC C X (.Compare a [.NotIn] [b] pos) (.cmp .notin ma mb) := sc_opR (o_notin hu) ha hb hm
theorem rp_none {v : V} {d : PyData} (r : Rp Hf v d) : decide (v = .non) = isNone d := by
  cases r <;> simp [isNone]
theorem sc_isN {j p} (ha : SemE C X a ma) : SemC C X (.Compare a [.Is] [.Constant .none j p] pos) (.isN false ma) := by
  refine ⟨⟨fun T H0 Hf0 => PE.imp (pe_cmp (pc_isN (ha.run T H0 Hf0))) fun σ H Q ⟨Hf, env, t, d, t', A, e, k⟩ => ?_⟩, ⟨fun T H0 Hf0 => PT.imp (pt_cmp (pc_isN (ha.run T H0 Hf0))) fun σ H Q ⟨Hf, env, t, d, t', A, e, k⟩ => ?_⟩⟩
  · unfold ev at e
    obtain ⟨d1, t1, e1, g⟩ := ev1 (f := fun x t1 => some (PyData.bool (if false = true then !isNone x else isNone x), t1)) e
    cases g
    exact ⟨Hf, env, t, d1, _, A, e1, fun v Hf' H' A' kp r => k _ _ _ A' kp (by rw [rp_none r]; exact .bl _)⟩
  · unfold ev at e
    obtain ⟨d1, t1, e1, g⟩ := ev1 (f := fun x t1 => some (PyData.bool (if false = true then !isNone x else isNone x), t1)) e
    cases g
    exact ⟨Hf, env, t, d1, _, A, e1, fun v Hf' H' A' kp r => ⟨_, by rw [rp_none r]; rfl, k _ _ A' kp⟩⟩
theorem sc_notN {j p} (ha : SemE C X a ma) : SemC C X (.Compare a [.IsNot] [.Constant .none j p] pos) (.isN true ma) := by
  refine ⟨⟨fun T H0 Hf0 => PE.imp (pe_cmp (pc_notN (ha.run T H0 Hf0))) fun σ H Q ⟨Hf, env, t, d, t', A, e, k⟩ => ?_⟩, ⟨fun T H0 Hf0 => PT.imp (pt_cmp (pc_notN (ha.run T H0 Hf0))) fun σ H Q ⟨Hf, env, t, d, t', A, e, k⟩ => ?_⟩⟩
  · unfold ev at e
    obtain ⟨d1, t1, e1, g⟩ := ev1 (f := fun x t1 => some (PyData.bool (if true = true then !isNone x else isNone x), t1)) e
    cases g
    exact ⟨Hf, env, t, d1, _, A, e1, fun v Hf' H' A' kp r => k _ _ _ A' kp (by rw [rp_none r]; exact .bl _)⟩
  · unfold ev at e
    obtain ⟨d1, t1, e1, g⟩ := ev1 (f := fun x t1 => some (PyData.bool (if true = true then !isNone x else isNone x), t1)) e
    cases g
    exact ⟨Hf, env, t, d1, _, A, e1, fun v Hf' H' A' kp r => ⟨_, by rw [rp_none r]; rfl, k _ _ A' kp⟩⟩
/-! ### tests -/
theorem st_val (h : SemE C X e m) (he : ∀ whole, isTrue e X.env whole = (do let v ← whole; standAt e.pos; holding [v] (truthy v)) := by intro _; rfl) : SemT C X e m :=
  ⟨fun T H0 Hf0 => PT.imp (pt_val (h.run T H0 Hf0) he) fun σ H Q ⟨Hf, env, t, d, t', A, e, k⟩ => ⟨Hf, env, t, _, _, A, e, fun v Hf' H' A' kp r => by
    cases r
    exact ⟨_, rfl, k _ _ A' kp⟩⟩⟩
theorem st_not (h : SemT C X e m) : SemT C X (.UnaryOp .Not e pos) (.not m) :=
  ⟨fun T H0 Hf0 => PT.imp (pt_not (h.run T H0 Hf0)) fun σ H Q ⟨Hf, env, t, d, t', A, e, k⟩ => by
    unfold ev at e
    split at e
    · rename_i i t1 e1
      cases e
      exact ⟨Hf, env, t, i, _, A, e1, fun Hf' H' A' kp => k _ _ A' kp⟩
    · cases e⟩
structure SemW (C : CallF) (X : Cx) (e : Expr) (m : M) : Prop where
  run : ∀ T H0 Hf0, PW X e (tT X.K C T H0 Hf0 m)
theorem SemW.tst (h : SemW C X e m) : SemT C X e m := ⟨fun T H0 Hf0 => (h.run T H0 Hf0).pt⟩
theorem sw_and1 (h : SemT C X e m) : SemW C X (.BoolOp .And [e] pos) m := ⟨fun T H0 Hf0 => pw_and1 (h.run T H0 Hf0)⟩
theorem sw_or1 (h : SemT C X e m) : SemW C X (.BoolOp .Or [e] pos) m := ⟨fun T H0 Hf0 => pw_or1 (h.run T H0 Hf0)⟩
theorem PW.imp {X : Cx} {e : Expr} {t t' : TT} (h : PW X e t) (i : ∀ σ H Q, t' σ H Q → t σ H Q) : PW X e t' := ⟨fun w pins s σ H Q I q => h.run w pins s σ H Q I (i σ H Q q)⟩
theorem tT_and : tT K C T H0 Hf0 (.and ma mb) σ H Q → tAnd (tT K C T H0 Hf0 ma) (tT K C T H0 Hf0 mb) σ H Q := fun ⟨Hf, env, t, d, t', A, e, k⟩ => by
  unfold ev at e
  split at e
  · rename_i t1 e1
    exact ⟨Hf, env, t, true, t1, A, e1, fun Hf1 H1 A1 k1 => ⟨Hf1, env, t1, d, t', A1, e, fun Hf2 H2 A2 k2 => k _ _ A2 (k1.trans k2)⟩⟩
  · rename_i t1 e1
    cases e
    exact ⟨Hf, env, t, false, _, A, e1, fun Hf1 H1 A1 k1 => k _ _ A1 k1⟩
  · cases e
theorem tT_or : tT K C T H0 Hf0 (.or ma mb) σ H Q → tOr (tT K C T H0 Hf0 ma) (tT K C T H0 Hf0 mb) σ H Q := fun ⟨Hf, env, t, d, t', A, e, k⟩ => by
  unfold ev at e
  split at e
  · rename_i t1 e1
    exact ⟨Hf, env, t, false, t1, A, e1, fun Hf1 H1 A1 k1 => ⟨Hf1, env, t1, d, t', A1, e, fun Hf2 H2 A2 k2 => k _ _ A2 (k1.trans k2)⟩⟩
  · rename_i t1 e1
    cases e
    exact ⟨Hf, env, t, true, _, A, e1, fun Hf1 H1 A1 k1 => k _ _ A1 k1⟩
  · cases e
theorem sw_and (ha : SemT C X a ma) (hb : SemW C X (.BoolOp .And (b :: es) pos) mb) : SemW C X (.BoolOp .And (a :: b :: es) pos) (.and ma mb) := ⟨fun T H0 Hf0 => PW.imp (pw_and (ha.run T H0 Hf0) (hb.run T H0 Hf0)) fun _ _ _ => tT_and⟩
theorem sw_or (ha : SemT C X a ma) (hb : SemW C X (.BoolOp .Or (b :: es) pos) mb) : SemW C X (.BoolOp .Or (a :: b :: es) pos) (.or ma mb) := ⟨fun T H0 Hf0 => PW.imp (pw_or (ha.run T H0 Hf0) (hb.run T H0 Hf0)) fun _ _ _ => tT_or⟩
/-! ### and, or, not as values -/
theorem se_one {op} (h : SemE C X e m) : SemE C X (.BoolOp op [e] pos) m := ⟨fun T H0 Hf0 => pe_one (h.run T H0 Hf0)⟩
theorem se_and (ha : SemE C X a ma) (hb : SemE C X (.BoolOp .And (b :: es) pos) mb) : SemE C X (.BoolOp .And (a :: b :: es) pos) (.and ma mb) :=
  ⟨fun T H0 Hf0 => PE.imp (pe_and (ha.run T H0 Hf0) (hb.run T H0 Hf0)) fun σ H Q ⟨Hf, env, t, d, t', A, e, k⟩ => by
    unfold ev at e
    split at e
    · rename_i t1 e1
      refine ⟨Hf, env, t, .bool true, t1, A, e1, fun v Hf1 H1 A1 k1 r => ?_⟩
      cases r
      exact ⟨true, rfl, ⟨Hf1, env, t1, d, t', A1, e, fun v Hf2 H2 A2 k2 r => k _ _ _ A2 (k1.trans k2) r⟩⟩
    · rename_i t1 e1
      cases e
      refine ⟨Hf, env, t, .bool false, _, A, e1, fun v Hf1 H1 A1 k1 r => ?_⟩
      cases r
      exact ⟨false, rfl, k _ _ _ A1 k1 (.bl _)⟩
    · cases e⟩
theorem se_or (ha : SemE C X a ma) (hb : SemE C X (.BoolOp .Or (b :: es) pos) mb) : SemE C X (.BoolOp .Or (a :: b :: es) pos) (.or ma mb) :=
  ⟨fun T H0 Hf0 => PE.imp (pe_or (ha.run T H0 Hf0) (hb.run T H0 Hf0)) fun σ H Q ⟨Hf, env, t, d, t', A, e, k⟩ => by
    unfold ev at e
    split at e
    · rename_i t1 e1
      refine ⟨Hf, env, t, .bool false, t1, A, e1, fun v Hf1 H1 A1 k1 r => ?_⟩
      cases r
      exact ⟨false, rfl, ⟨Hf1, env, t1, d, t', A1, e, fun v Hf2 H2 A2 k2 r => k _ _ _ A2 (k1.trans k2) r⟩⟩
    · rename_i t1 e1
      cases e
      refine ⟨Hf, env, t, .bool true, _, A, e1, fun v Hf1 H1 A1 k1 r => ?_⟩
      cases r
      exact ⟨true, rfl, k _ _ _ A1 k1 (.bl _)⟩
    · cases e⟩
theorem se_not (ha : SemE C X a ma) : SemE C X (.UnaryOp .Not a pos) (.not ma) :=
  ⟨fun T H0 Hf0 => PE.imp (pe_not (ha.run T H0 Hf0)) fun σ H Q ⟨Hf, env, t, d, t', A, e, k⟩ => by
    unfold ev at e
    split at e
    · rename_i i t1 e1
      cases e
      refine ⟨Hf, env, t, .bool i, _, A, e1, fun v Hf1 H1 A1 k1 r => ?_⟩
      cases r
      exact ⟨i, rfl, k _ _ _ A1 k1 (.bl _)⟩
    · cases e⟩
end
end Pl

set_option Elab.async false
set_option linter.all false
set_option maxRecDepth 100000
set_option maxHeartbeats 1000000
/-! Pl: subscripts, displays, calls, comprehensions. -/
namespace Pl
open PySem PySem.Spec PyProof.Rows L2
section
variable {C : CallF} {X : Cx} {a b c e : Expr} {es : List Expr} {ma mb mc m : M} {pos : Pos} {K : PySem.W.Frag} {T : Addr} {H0 Hf0 Hf : Hp} {env : Env} {t t1 t2 : Int} {σ : L2.St} {H : Hp} {d1 d2 : PyData}
theorem se_idx (ha : SemR C X a ma) (hb : SemE C X b mb) (hs : PlainIx b) : SemE C X (.Subscript a b pos) (.idx ma mb) :=
  ⟨fun T H0 Hf0 => PE.imp (pe_ix i_any (ha.run T H0 Hf0) (hb.run T H0 Hf0) hs) fun σ H Q ⟨Hf, env, t, d, t', A, e, k⟩ => by
    unfold ev at e
    obtain ⟨d1, t1, d2, t2, e1, e2, g⟩ := ev2 (f := fun x y t2 => (idxD x y).map (·, t2)) e
    obtain ⟨z, gz, ez⟩ := map_some g
    cases ez
    exact twoL A e1 e2 fun v1 v2 Hf2 H2 A2 k2 r1 r2 => ⟨Hf2, d1, d2, d, A2.ex, r1, r2, gz, fun v Hf' H' ad r => k v Hf' H' (ad.abs A2).1 (k2.trans (ad.abs A2).2) r⟩⟩
/-- the tape's item -/
theorem se_tape (i : Nat) {x : Str} {p1 p2 : Pos} {j} (hN : X.N[i]? = some x) (hv : Vis X.env.scope x) (hd : (x == ("__debug__" : Str)) = false := by decide) (hcd : (x == ("__classdict__" : Str)) = false := by decide) : SemE C X (.Subscript (.Name x p1) (.Constant (.int 0) j p2) pos) (.tape i) :=
  ⟨fun T H0 Hf0 => PE.imp (pe_ix ix_list (pe_var hN hv hd hcd) pe_int (fun _ _ => rfl)) fun σ H Q ⟨Hf, env, t, d, t', A, e, k⟩ => by
    unfold ev at e
    split at e
    · rename_i hx
      cases e
      obtain ⟨v, hs, r⟩ := A.loc i _ hx
      have r : v = .ref T := r
      subst r
      exact ⟨_, hs, T, [.int t], 0, .int t, rfl, rfl, SqL.of A.th, atI_nat (j := 0) rfl, k _ _ _ A (Kp.refl _ _ _) (.int t)⟩
    · cases e⟩
/-! ### slices -/
structure SemO (C : CallF) (X : Cx) (e : Option Expr) (m : M) : Prop where
  run : ∀ T H0 Hf0, PO X e (fun σ H Q => ∃ Hf env t d t' o, Abs X.K T H0 Hf0 Hf env t σ H ∧ ev C env m t = some (d, t') ∧ partD d = some o ∧ ∀ Hf' H', Abs X.K T H0 Hf0 Hf' env t' σ H' → Kp T Hf H Hf' H' → Q o H')
theorem PO.imp {X : Cx} {e : Option Expr} {t t' : TO} (h : PO X e t) (i : ∀ σ H Q, t' σ H Q → t σ H Q) : PO X e t' := ⟨fun pins s σ H Q I q => h.run pins s σ H Q I (i σ H Q q)⟩
theorem so_none : SemO C X none (.lit .none) := ⟨fun T H0 Hf0 => PO.imp po_none fun σ H Q ⟨Hf, env, t, d, t', o, A, e, p, k⟩ => by
  cases e
  cases p
  exact k _ _ A (Kp.refl _ _ _)⟩
theorem so_some (h : SemE C X e m) : SemO C X (some e) (.part m) := ⟨fun T H0 Hf0 => PO.imp (po_some (h.run T H0 Hf0)) fun σ H Q ⟨Hf, env, t, d, t', o, A, e, p, k⟩ => by
  unfold ev at e
  split at e
  · rename_i i t1 e1
    cases e
    cases p
    refine ⟨Hf, env, t, _, _, A, e1, fun v Hf' H' A' kp r => ?_⟩
    cases r
    exact ⟨i, rfl, k _ _ A' kp⟩
  · cases e⟩
theorem se_slc {lo hi : Option Expr} {ml mh : M} {p2 : Pos} (ha : SemR C X a ma) (hl : SemO C X lo ml) (hh : SemO C X hi mh) : SemE C X (.Subscript a (.Slice lo hi none p2) pos) (.slc ma ml mh) :=
  ⟨fun T H0 Hf0 => PE.imp (pe_slice s_any (ha.run T H0 Hf0) (hl.run T H0 Hf0) (hh.run T H0 Hf0)) fun σ H Q ⟨Hf, env, t, d, t', A, e, k⟩ => by
    unfold ev at e
    split at e
    · rename_i x t1 e1
      split at e
      · rename_i l t2 e2
        split at e
        · rename_i h t3 e3
          split at e
          · rename_i l' h' pl ph
            obtain ⟨z, gz, ez⟩ := map_some e
            cases ez
            exact ⟨Hf, env, t, x, t1, A, e1, fun v Hf1 H1 A1 k1 r1 => ⟨Hf1, env, t1, l, t2, l', A1, e2, pl, fun Hf2 H2 A2 k2 => ⟨Hf2, env, t2, h, t', h', A2, e3, ph, fun Hf3 H3 A3 k3 =>
              ⟨Hf3, x, d, A3.ex, r1 Hf3 H3 t' A3 (k2.trans k3), gz, fun w Hf' H' ad r => k w Hf' H' (ad.abs A3).1 (k1.trans (k2.trans (k3.trans (ad.abs A3).2))) r⟩⟩⟩⟩
          · cases e
        · cases e
      · cases e
    · cases e⟩
/-! ### argument lists -/
theorem sa_nil : SemA C X [] .nil := ⟨fun T H0 Hf0 => PA.imp pa_nil fun σ H Q ⟨Hf, env, t, d, t', A, e, k⟩ => by
  unfold evs at e
  cases e
  exact k _ _ _ A (Kp.refl _ _ _) .nil⟩
theorem evs_cons (h : ∀ i, ma ≠ .tape i) (h2 : ma ≠ .edict) {lvs : List LV} (e : evs C env (.cons ma mb) t = some (lvs, t2)) : ∃ d t1 r, ev C env ma t = some (d, t1) ∧ evs C env mb t1 = some (r, t2) ∧ lvs = .d d :: r := by
  cases ma with
  | tape i => exact absurd rfl (h i)
  | edict => exact absurd rfl h2
  | _ =>
    unfold evs at e
    split at e
    · rename_i x t1 e1
      split at e
      · rename_i r t2 e2
        cases e
        exact ⟨x, t1, r, e1, e2, rfl⟩
      · cases e
    · cases e
theorem paired_kp {Hf' H' : Hp} (k : Kp T Hf H Hf' H') : ∀ {vs : List V} {lvs : List LV}, Paired (ArgOK K T Hf) vs lvs → Paired (ArgOK K T Hf') vs lvs
  | _, _, .nil => .nil
  | _, _, .cons h t => .cons (h.kp k) (paired_kp k t)
theorem sa_cons (ha : SemE C X a ma) (hb : SemA C X es mb) (hn : ∀ i, ma ≠ .tape i := by intro _ h; cases h) (hn2 : ma ≠ .edict := by intro h; cases h) (hs : starEach (a :: es) X.env = (false, eval a X.env) :: starEach es X.env := by rfl) : SemA C X (a :: es) (.cons ma mb) :=
  ⟨fun T H0 Hf0 => PA.imp (pa_cons (ha.run T H0 Hf0) (hb.run T H0 Hf0) hs) fun σ H Q ⟨Hf, env, t, lvs, t', A, e, k⟩ => by
    obtain ⟨d, t1, r, e1, e2, rfl⟩ := evs_cons hn hn2 e
    exact ⟨Hf, env, t, d, t1, A, e1, fun v Hf1 H1 A1 k1 r1 => ⟨Hf1, env, t1, r, t', A1, e2, fun vs Hf2 H2 A2 k2 r2 => k _ _ _ A2 (k1.trans k2) (.cons (Rp.mono k2.ex _ _ r1) r2)⟩⟩⟩
theorem sa_pass (i : Nat) {x : Str} {p1 : Pos} (hN : X.N[i]? = some x) (hv : Vis X.env.scope x) (hb : SemA C X es mb) (hd : (x == ("__debug__" : Str)) = false := by decide) (hcd : (x == ("__classdict__" : Str)) = false := by decide) (hs : starEach (.Name x p1 :: es) X.env = (false, eval (.Name x p1) X.env) :: starEach es X.env := by rfl) :
    SemA C X (.Name x p1 :: es) (.cons (.tape i) mb) :=
  ⟨fun T H0 Hf0 => PA.imp (pa_cons (pe_var hN hv hd hcd) (hb.run T H0 Hf0) hs) fun σ H Q ⟨Hf, env, t, lvs, t', A, e, k⟩ => by
    unfold evs at e
    split at e
    · rename_i hx
      split at e
      · rename_i r t2 e2
        cases e
        obtain ⟨v, hs, ok⟩ := A.loc i _ hx
        exact ⟨v, hs, ⟨Hf, env, t, r, _, A, e2, fun vs Hf2 H2 A2 k2 r2 => k _ _ _ A2 k2 (.cons ok r2)⟩⟩
      · cases e
    · rename_i ns hx
      split at e
      · rename_i r t2 e2
        cases e
        obtain ⟨v, hs, l, e1, h1⟩ := A.loc i _ hx
        exact ⟨v, hs, ⟨Hf, env, t, r, _, A, e2, fun vs Hf2 H2 A2 k2 r2 => k _ _ _ A2 k2 (.cons ⟨l, e1, Same.seq k2.ex h1⟩ r2)⟩⟩
      · cases e
    · rename_i kvs hx
      split at e
      · rename_i r t2 e2
        cases e
        obtain ⟨v, hs, l, ws, e1, h1, h2⟩ := A.loc i _ hx
        exact ⟨v, hs, ⟨Hf, env, t, r, _, A, e2, fun vs Hf2 H2 A2 k2 r2 => k _ _ _ A2 k2 (.cons ⟨l, ws, e1, k2.ex _ _ h1, KvAll.mono k2.ex h2⟩ r2)⟩⟩
      · cases e
    · cases e⟩
/-- {} as an argument -/
theorem sa_edict {p1 : Pos} (hb : SemA C X es mb) (hs : starEach (.Dict [] [] p1 :: es) X.env = (false, eval (.Dict [] [] p1) X.env) :: starEach es X.env := by rfl) : SemA C X (.Dict [] [] p1 :: es) (.cons .edict mb) :=
  ⟨fun T H0 Hf0 => PA.imp (pa_cons pe_dnewK (hb.run T H0 Hf0) hs) fun σ H Q ⟨Hf, env, t, lvs, t', A, e, k⟩ => by
    unfold evs at e
    split at e
    · rename_i r t2 e2
      cases e
      exact fun p hp => ⟨upd Hf p (.dK []), env, t, r, _, A.newd hp, e2, fun vs Hf2 H2 A2 k2 r2 => k _ _ _ A2 ((A.kpn hp).trans k2) (.cons ⟨p, [], rfl, k2.ex _ _ upd_same, .nil⟩ r2)⟩
    · cases e⟩
theorem args_data : ∀ {vs : List V} {lvs : List LV} {ds : List PyData}, Paired (ArgOK K T Hf) vs lvs → dsOf lvs = some ds → RpAll Hf vs ds
  | _, _, _, .nil, e => by
    cases e
    exact .nil
  | v :: vs, lv :: lvs, ds, .cons h t, e => by
    cases lv with
    | d x =>
      unfold dsOf at e
      obtain ⟨r, e1, e2⟩ := map_some e
      subst e2
      exact .cons h (args_data t e1)
    | _ => cases e
theorem rb_all : ∀ {vs : List V} {ds : List PyData}, RpAll Hf vs ds → Paired (Rb K Hf H) vs ds
  | _, _, .nil => .nil
  | _, _, .cons h t => .cons (.inl h) (rb_all t)
theorem le1000 {n : Nat} (h : n ≤ 1000) : n ≤ sizeLine := Nat.le_of_lt (small1000 h)
theorem se_tup {x1} (h : SemA C X es m) : SemE C X (.Tuple es x1 pos) (.tup m) :=
  ⟨fun T H0 Hf0 => PE.imp (pe_tupS (h.run T H0 Hf0)) fun σ H Q ⟨Hf, env, t, d, t', A, e, k⟩ => by
    unfold ev at e
    split at e
    · rename_i lvs t1 e1
      split at e
      · rename_i ds e2
        split at e
        · rename_i hl
          cases e
          refine ⟨Hf, env, t, lvs, _, A, e1, fun vs Hf1 H1 A1 k1 r1 => ?_⟩
          have rr := args_data r1 e2
          exact ⟨by rw [rr.len]; exact le1000 hl, fin_tup A1.ex rr fun v Hf' H' ad r => k v Hf' H' (ad.abs A1).1 (k1.trans (ad.abs A1).2) r⟩
        · cases e
      · cases e
    · cases e⟩
theorem se_lst (h : SemA C X es m) : SemE C X (.List es pos) (.lst m) :=
  ⟨fun T H0 Hf0 => PE.imp (pe_lst (h.run T H0 Hf0)) fun σ H Q ⟨Hf, env, t, d, t', A, e, k⟩ => by
    unfold ev at e
    split at e
    · rename_i lvs t1 e1
      split at e
      · rename_i ds e2
        split at e
        · rename_i hl
          cases e
          refine ⟨Hf, env, t, lvs, _, A, e1, fun vs Hf1 H1 A1 k1 r1 => ?_⟩
          have rr := args_data r1 e2
          exact ⟨by rw [rr.len]; exact le1000 hl, fin_lst A1.ex rr fun v Hf' H' ad r => k v Hf' H' (ad.abs A1).1 (k1.trans (ad.abs A1).2) r⟩
        · cases e
      · cases e
    · cases e⟩
/-! ### built-ins by their names -/
theorem se_blt {id : String} {o : Bl} {x : Str} {p : Pos} (hc : CallR X (.builtin id) (rC X.K (bltD o))) (hg : Gl X x) (hm : X.mg x = none) (hv : bootBuiltins x = some (.builtin id)) (ha : SemA C X (e :: es) m) (hn : x ≠ "__name__" := by decide) (hdb : (x == ("__debug__" : Str)) = false := by decide)
    (he : starEach (e :: es) X.env = (false, eval e X.env) :: starEach es X.env := by rfl) (hpl : (backTo pos (starEach es X.env)).any (·.1) = false := by rfl) : SemE C X (.Call (.Name x p) (e :: es) [] pos) (.blt o m) :=
  ⟨fun T H0 Hf0 => PE.imp (pe_callB hc hg hm hv (ha.run T H0 Hf0) hn hdb he hpl) fun σ H Q ⟨Hf, env, t, d, t', A, e, k⟩ => by
    unfold ev at e
    split at e
    · rename_i lvs t1 e1
      split at e
      · rename_i ds e2
        obtain ⟨z, gz, ez⟩ := map_some e
        cases ez
        exact ⟨Hf, env, t, lvs, _, A, e1, fun vs Hf1 H1 A1 k1 r1 => ⟨Hf1, ds, d, A1.ex, rb_all (args_data r1 e2), gz, fun v Hf' H' ad r => k v Hf' H' (ad.abs A1).1 (k1.trans (ad.abs A1).2) r⟩⟩
      · cases e
    · cases e⟩
theorem se_bty {id : String} {o : Bl} {x : Str} {p : Pos} (hc : CallR X (.type id) (rC X.K (bltD o))) (hg : Gl X x) (hm : X.mg x = none) (hv : bootBuiltins x = some (.type id)) (ha : SemA C X (e :: es) m) (hn : x ≠ "__name__" := by decide) (hdb : (x == ("__debug__" : Str)) = false := by decide)
    (he : starEach (e :: es) X.env = (false, eval e X.env) :: starEach es X.env := by rfl) (hpl : (backTo pos (starEach es X.env)).any (·.1) = false := by rfl) : SemE C X (.Call (.Name x p) (e :: es) [] pos) (.blt o m) :=
  ⟨fun T H0 Hf0 => PE.imp (pe_callTy hc hg hm hv (ha.run T H0 Hf0) hn hdb he hpl) fun σ H Q ⟨Hf, env, t, d, t', A, e, k⟩ => by
    unfold ev at e
    split at e
    · rename_i lvs t1 e1
      split at e
      · rename_i ds e2
        obtain ⟨z, gz, ez⟩ := map_some e
        cases ez
        exact ⟨Hf, env, t, lvs, _, A, e1, fun vs Hf1 H1 A1 k1 r1 => ⟨Hf1, ds, d, A1.ex, rb_all (args_data r1 e2), gz, fun v Hf' H' ad r => k v Hf' H' (ad.abs A1).1 (k1.trans (ad.abs A1).2) r⟩⟩
      · cases e
    · cases e⟩
/-- len(x), list(x), .. of what may be read -/
theorem evs_one {lvs : List LV} (h : ∀ i, ma ≠ .tape i) (h2 : ma ≠ .edict) (e : evs C env (.cons ma .nil) t = some (lvs, t2)) : ∃ d, ev C env ma t = some (d, t2) ∧ lvs = [.d d] := by
  obtain ⟨d, t1, r, e1, e2, rfl⟩ := evs_cons h h2 e
  unfold evs at e2
  cases e2
  exact ⟨d, e1, rfl⟩
theorem se_blt1 {id : String} {o : Bl} {x : Str} {p : Pos} (hc : CallR X (.builtin id) (rC X.K (bltD o))) (hg : Gl X x) (hm : X.mg x = none) (hv : bootBuiltins x = some (.builtin id)) (ha : SemR C X e m) (ht : ∀ i, m ≠ .tape i := by intro _ h; cases h) (ht2 : m ≠ .edict := by intro h; cases h) (hn : x ≠ "__name__" := by decide) (hdb : (x == ("__debug__" : Str)) = false := by decide)
    (he : starEach [e] X.env = (false, eval e X.env) :: starEach [] X.env := by rfl) : SemE C X (.Call (.Name x p) [e] [] pos) (.blt o (.cons m .nil)) :=
  ⟨fun T H0 Hf0 => PE.imp (pe_callB hc hg hm hv (pa_cons (ha.run T H0 Hf0) pa_nil he) hn hdb he) fun σ H Q ⟨Hf, env, t, d, t', A, e, k⟩ => by
    unfold ev at e
    split at e
    · rename_i lvs t1 e1
      obtain ⟨d0, e0, rfl⟩ := evs_one ht ht2 e1
      obtain ⟨z, gz, ez⟩ := map_some (show (bltD o [d0]).map (·, t1) = some (d, t') from e)
      cases ez
      exact ⟨Hf, env, t, d0, _, A, e0, fun v Hf1 H1 A1 k1 r1 => ⟨Hf1, [d0], d, A1.ex, .cons (r1 Hf1 H1 t' A1 (Kp.refl _ _ _)) .nil, gz, fun v Hf' H' ad r => k v Hf' H' (ad.abs A1).1 (k1.trans (ad.abs A1).2) r⟩⟩
    · cases e⟩
theorem se_bty1 {id : String} {o : Bl} {x : Str} {p : Pos} (hc : CallR X (.type id) (rC X.K (bltD o))) (hg : Gl X x) (hm : X.mg x = none) (hv : bootBuiltins x = some (.type id)) (ha : SemR C X e m) (ht : ∀ i, m ≠ .tape i := by intro _ h; cases h) (ht2 : m ≠ .edict := by intro h; cases h) (hn : x ≠ "__name__" := by decide) (hdb : (x == ("__debug__" : Str)) = false := by decide)
    (he : starEach [e] X.env = (false, eval e X.env) :: starEach [] X.env := by rfl) : SemE C X (.Call (.Name x p) [e] [] pos) (.blt o (.cons m .nil)) :=
  ⟨fun T H0 Hf0 => PE.imp (pe_callTy hc hg hm hv (pa_cons (ha.run T H0 Hf0) pa_nil he) hn hdb he) fun σ H Q ⟨Hf, env, t, d, t', A, e, k⟩ => by
    unfold ev at e
    split at e
    · rename_i lvs t1 e1
      obtain ⟨d0, e0, rfl⟩ := evs_one ht ht2 e1
      obtain ⟨z, gz, ez⟩ := map_some (show (bltD o [d0]).map (·, t1) = some (d, t') from e)
      cases ez
      exact ⟨Hf, env, t, d0, _, A, e0, fun v Hf1 H1 A1 k1 r1 => ⟨Hf1, [d0], d, A1.ex, .cons (r1 Hf1 H1 t' A1 (Kp.refl _ _ _)) .nil, gz, fun v Hf' H' ad r => k v Hf' H' (ad.abs A1).1 (k1.trans (ad.abs A1).2) r⟩⟩
    · cases e⟩
/-- isinstance(x, T) -/
theorem se_isi {n : String} {o : Bl} {x y : Str} {p p2 : Pos} (hc : CallR X (.builtin "isinstance") (fun xs H Q => ∃ x, xs = [x, .ty n] ∧ rC X.K (bltD o) [x] H Q)) (hg : Gl X x) (hm : X.mg x = none) (hv : bootBuiltins x = some (.builtin "isinstance")) (hgy : Gl X y) (hmy : X.mg y = none) (hvy : bootBuiltins y = some (.type n)) (ha : SemR C X e m)
    (ht : ∀ i, m ≠ .tape i := by intro _ h; cases h) (ht2 : m ≠ .edict := by intro h; cases h) (hn : x ≠ "__name__" := by decide) (hdb : (x == ("__debug__" : Str)) = false := by decide) (hny : y ≠ "__name__" := by decide) (hdy : (y == ("__debug__" : Str)) = false := by decide)
    (he : starEach [e, .Name y p2] X.env = (false, eval e X.env) :: starEach [.Name y p2] X.env := by rfl) : SemE C X (.Call (.Name x p) [e, .Name y p2] [] pos) (.blt o (.cons m .nil)) :=
  ⟨fun T H0 Hf0 => PE.imp (pe_callB hc hg hm hv (pa_cons (ha.run T H0 Hf0) (pa_cons (pe_bltn hgy hmy hvy (v := .ty n) rfl hny hdy) pa_nil) he) hn hdb he) fun σ H Q ⟨Hf, env, t, d, t', A, e, k⟩ => by
    unfold ev at e
    split at e
    · rename_i lvs t1 e1
      obtain ⟨d0, e0, rfl⟩ := evs_one ht ht2 e1
      obtain ⟨z, gz, ez⟩ := map_some (show (bltD o [d0]).map (·, t1) = some (d, t') from e)
      cases ez
      exact ⟨Hf, env, t, d0, _, A, e0, fun v Hf1 H1 A1 k1 r1 => ⟨v, rfl, Hf1, [d0], d, A1.ex, .cons (r1 Hf1 H1 t' A1 (Kp.refl _ _ _)) .nil, gz, fun v Hf' H' ad r => k v Hf' H' (ad.abs A1).1 (k1.trans (ad.abs A1).2) r⟩⟩
    · cases e⟩
/-! ### x.index(y), s.join(xs) -/
theorem se_index {apos cpos : Pos} (hu : X.A.units + 65 < cLine) (ha : SemR C X a ma) (hb : SemE C X b mb) (hbase : attributeBase a "index" X.env (eval a X.env) = eval a X.env := by rfl)
    (hfew : ((backTo cpos (starEach [b] X.env)).all (fun x => !x.1) && (backToKw cpos (keywordEach [] X.env)).all (fun x => x.1.isSome) && decide ([b].length + ([] : List Keyword).length + (if ([] : List Keyword).isEmpty then 0 else 1) < 30)) = true := by rfl)
    (hline : (apos.endLine == cpos.line) = true := by rfl) (hs : starEach [b] X.env = (false, eval b X.env) :: starEach [] X.env := by rfl) : SemE C X (.Call (.Attribute a "index" apos) [b] [] cpos) (.index ma mb) := by
  refine ⟨fun T H0 Hf0 => PE.imp (PE.or (pe_bm F.plainAttrs_list F.slot_list_index F.type_list_index (mt_indexD hu) (ha.run T H0 Hf0) (pa_cons (hb.run T H0 Hf0) pa_nil hs) hbase hfew hline hs)
    (pe_bmT F.slot_tuple_index F.type_tuple_index (mt_indexT hu) (ha.run T H0 Hf0) (pa_cons (hb.run T H0 Hf0) pa_nil hs) hbase hfew hline hs rfl)) fun σ H Q ⟨Hf, env, t, d, t', A, e, k⟩ => ?_⟩
  unfold ev at e
  obtain ⟨d1, t1, d2, t2, e1, e2, g⟩ := ev2 (f := fun x y t2 => (indexD x y).map (·, t2)) e
  obtain ⟨z, gz, ez⟩ := map_some g
  cases ez
  cases d1 with
  | list ds =>
    simp only [indexD] at gz
    split at gz
    · rename_i hsh
      rw [Bool.and_eq_true] at hsh
      obtain ⟨j, gj, ej⟩ := map_some gz
      subst ej
      obtain ⟨w, h1, h2, h3⟩ := findI_spec d2 ds j gj
      refine .inl ⟨Hf, env, t, _, t1, A, e1, fun v Hf1 H1 A1 k1 r1 => ?_⟩
      obtain ⟨l, vs, rfl, sq, rs⟩ := (r1 Hf1 H1 t1 A1 (Kp.refl _ _ _)).list A1.ex
      refine ⟨.inl ⟨rfl, _, sq⟩, ⟨Hf1, env, t1, d2, t', A1, e2, fun y Hf2 H2 A2 k2 r2 => ?_⟩⟩
      exact ⟨l, y, d2, ds, j, w, rfl, rfl, (r1 Hf2 H2 t' A2 k2).dp A2.ex, Rp.dp _ _ (Rp.mono A2.ex _ _ r2), hsh.1, hsh.2, h1, h2, h3, k _ _ _ A2 (k1.trans k2) (.int _)⟩
    · cases gz
  | tuple ds =>
    simp only [indexD] at gz
    split at gz
    · rename_i hsh
      rw [Bool.and_eq_true] at hsh
      obtain ⟨j, gj, ej⟩ := map_some gz
      subst ej
      refine .inr ⟨Hf, env, t, _, t1, A, e1, fun v Hf1 H1 A1 k1 r1 => ?_⟩
      rcases r1 Hf1 H1 t1 A1 (Kp.refl _ _ _) with r | ⟨_, _, _, _, e3, _⟩
      · cases r with
        | @tup l o vs ds h hd hvs =>
          refine ⟨⟨l, o, vs, rfl, A1.ex _ _ h, hd⟩, ⟨Hf1, env, t1, d2, t', A1, e2, fun y Hf2 H2 A2 k2 r2 => ?_⟩⟩
          have ex2 : Ex Hf1 H2 := k2.ex.trans A2.ex
          exact ⟨l, o, vs, y, d2, ds, j, rfl, rfl, ex2 _ _ h, hd, RpAll.dp _ _ (RpAll.mono ex2 _ _ hvs), Rp.dp _ _ (Rp.mono A2.ex _ _ r2), hsh.1, hsh.2, gj, k _ _ _ A2 (k1.trans k2) (.int _)⟩
      · cases e3
    · cases gz
  | _ => cases gz
theorem se_join {apos cpos : Pos} (ha : SemE C X a ma) (hb : SemE C X b mb) (hs : starEach [b] X.env = [(false, eval b X.env)] := by rfl) (hbase : attributeBase a "join" X.env (eval a X.env) = eval a X.env := by rfl) (hline : (apos.endLine == cpos.line) = true := by rfl) :
    SemE C X (.Call (.Attribute a "join" apos) [b] [] cpos) (.join ma mb) :=
  ⟨fun T H0 Hf0 => PE.imp (pe_join (ha.run T H0 Hf0) (hb.run T H0 Hf0) hs hbase hline) fun σ H Q ⟨Hf, env, t, d, t', A, e, k⟩ => by
    unfold ev at e
    obtain ⟨d1, t1, d2, t2, e1, e2, g⟩ := ev2 (f := fun x y t2 => (joinD x y).map (·, t2)) e
    obtain ⟨z, gz, ez⟩ := map_some g
    cases ez
    unfold joinD at gz
    split at gz
    · split at gz
      · rename_i ys hy
        split at gz
        · rename_i hz
          cases gz
          refine ⟨Hf, env, t, _, t1, A, e1, fun v Hf1 H1 A1 k1 r1 => ?_⟩
          cases r1
          refine ⟨⟨_, rfl⟩, ⟨Hf1, env, t1, _, t', A1, e2, fun y Hf2 H2 A2 k2 r2 => ?_⟩⟩
          cases r2 with
          | @lst l vs ds h hvs =>
            have ev := hvs.strs hy
            subst ev
            exact ⟨_, l, ys, rfl, rfl, .inl (SqL.of (A2.ex _ _ h)), hz, k _ _ _ A2 (k1.trans k2) (.str _)⟩
        · cases gz
      · cases gz
    · cases gz⟩
end
end Pl

set_option Elab.async false
set_option linter.all false
set_option maxRecDepth 100000
set_option maxHeartbeats 1000000
/-! Pl: what is walked, targets, comprehensions. -/
namespace Pl
open PySem PySem.Spec PyProof.Rows L2
section
variable (K : PySem.W.Frag) (C : CallF) (T : Addr) (H0 Hf0 : Hp)
def tI (k : IK) (m : M) : TI := fun σ H R => ∃ Hf env t d t' items, Abs K T H0 Hf0 Hf env t σ H ∧ ev C env m t = some (d, t') ∧ itemsD k d = some items ∧
  ∀ (J : It) (vs : List V) Hf' H', Abs K T H0 Hf0 Hf' env t' σ H' → Kp T Hf H Hf' H' → RpAll Hf' vs items → Walk J vs.length (fun H => Ex Hf' H) (YAt vs) → R J H'
def tgIx : Tg → List Nat
  | .nm i => [i]
  | .tp is => is
def tG (tg : Tg) : TG := fun v σ H Q => ∃ Hf env t d env', Abs K T H0 Hf0 Hf env t σ H ∧ Rp Hf v d ∧ setTg tg d env = some env' ∧
  ∀ σ', Abs K T H0 Hf0 Hf env' t σ' H → (∀ js, (∀ i ∈ tgIx tg, i ∈ js) → wipe σ' js = wipe σ js) → Q σ' H
end
structure SemI (C : CallF) (X : Cx) (tg e : Expr) (k : IK) (m : M) : Prop where
  run : ∀ T H0 Hf0, PI X tg e (tI X.K C T H0 Hf0 k m)
structure SemG (X : Cx) (e : Expr) (tg : Tg) : Prop where
  run : ∀ T H0 Hf0, PG X e (tG X.K T H0 Hf0 tg)
section
variable {C : CallF} {X : Cx} {a b c e tg : Expr} {es : List Expr} {ma mb mc m : M} {pos : Pos} {K : PySem.W.Frag} {T : Addr} {H0 Hf0 Hf : Hp} {env : Env} {t t1 t2 : Int} {σ : L2.St} {H : Hp} {d1 d2 : PyData}
/-! ### what is walked -/
theorem walk_conv {J : It} {n m : Nat} {G G' : Hp → Prop} {Y Y' : Nat → Hp → V → Hp → Prop} (w : Walk J n G Y) (hn : n = m) (hg : ∀ H, G' H → G H) (hy : ∀ i H x H', i < n → Y i H x H' → Y' i H x H') : Walk J m G' Y' := by
  subst hn
  exact w.mono hg fun i H x H' hi _ y => hy i H x H' hi y
theorem rp_intf (f : Nat → Int) : ∀ ns : List Nat, RpAll Hf (ns.map fun i => V.int (f i)) (ns.map fun i => PyData.int (f i))
  | [] => .nil
  | i :: r => .cons (.int _) (rp_intf f r)
theorem si_seq (h : SemE C X e m) : SemI C X tg e .seq m :=
  ⟨fun T H0 Hf0 => PI.imp (PI.or (PI.or (pi_list (h.run T H0 Hf0)) (pi_tup (h.run T H0 Hf0))) (pi_str (h.run T H0 Hf0))) fun σ H R ⟨Hf, env, t, d, t', items, A, e, hi, k⟩ => by
    cases d with
    | list xs =>
      cases hi
      refine .inl (.inl ⟨Hf, env, t, _, t', A, e, fun v Hf1 H1 A1 k1 r1 => ?_⟩)
      cases r1 with
      | @lst l vs ds h hs =>
        exact ⟨l, rfl, ⟨vs, SqL.of (A1.ex _ _ h)⟩, k _ vs _ _ A1 k1 hs (walk_conv walk_list rfl (fun H' e' => SqL.of (e' _ _ h)) fun _ _ _ _ _ y => y)⟩
    | tuple xs =>
      cases hi
      refine .inl (.inr ⟨Hf, env, t, _, t', A, e, fun v Hf1 H1 A1 k1 r1 => ?_⟩)
      cases r1 with
      | @tup l o vs ds h hd hs =>
        exact ⟨l, rfl, ⟨vs, .inl (.inr ⟨o, A1.ex _ _ h⟩)⟩, k _ vs _ _ A1 k1 hs (walk_conv walk_tup rfl (fun H' e' => .inl (.inr ⟨o, e' _ _ h⟩)) fun _ _ _ _ _ y => y)⟩
    | str z =>
      cases hi
      refine .inr ⟨Hf, env, t, _, t', A, e, fun v Hf1 H1 A1 k1 r1 => ?_⟩
      cases r1
      refine ⟨z, rfl, k _ _ _ _ A1 k1 (rp_signs z.cps.toList) (walk_conv walk_str (by simp) (fun _ _ => True.intro) fun i H x H' hi ⟨h1, c, h2, h3⟩ => ⟨h1, ?_⟩)⟩
      rw [List.getElem?_map, Array.getElem?_toList, h2, h3] <;> rfl
    | _ => cases hi⟩
theorem si_range {p : Pos} (hg : Gl X "range") (hm : X.mg "range" = none) (h : SemE C X e m) (hs : starEach [e] X.env = [(false, eval e X.env)] := by rfl) : SemI C X tg (.Call (.Name "range" p) [e] [] pos) .range m :=
  ⟨fun T H0 Hf0 => PI.imp (pi_range1 hg hm (pa_cons (h.run T H0 Hf0) pa_nil hs) hs) fun σ H R ⟨Hf, env, t, d, t', items, A, e, hi, k⟩ => by
    cases d with
    | int n =>
      simp only [itemsD] at hi
      split at hi
      · rename_i hb
        cases hi
        refine ⟨Hf, env, t, _, t', A, e, fun v Hf1 H1 A1 k1 r1 => ?_⟩
        cases r1
        refine ⟨n, rfl, by omega, by omega, k _ ((List.range n.toNat).map fun i => V.int (i : Nat)) _ _ A1 k1 (rp_intf (fun i => (i : Int)) _) (walk_conv walk_range (by simp) (fun _ _ => True.intro) fun i H x H' hi ⟨h1, h2⟩ => ⟨h1, ?_⟩)⟩
        rw [h2, List.getElem?_map, List.getElem?_range hi]
        simp
      · cases hi
    | _ => cases hi⟩
theorem si_revr {p p2 pos2 : Pos} (hg : Gl X "reversed") (hm : X.mg "reversed" = none) (hg2 : Gl X "range") (hm2 : X.mg "range" = none) (h : SemE C X e m) (hs : starEach [e] X.env = (false, eval e X.env) :: starEach [] X.env := by rfl)
    (hs2 : starEach [.Call (.Name "range" p2) [e] [] pos2] X.env = (false, eval (.Call (.Name "range" p2) [e] [] pos2) X.env) :: starEach [] X.env := by rfl) : SemI C X tg (.Call (.Name "reversed" p) [.Call (.Name "range" p2) [e] [] pos2] [] pos) .revr m :=
  ⟨fun T H0 Hf0 => PI.imp (pi_revR hg hm (prg_1 hg2 hm2 (h.run T H0 Hf0) hs) hs2) fun σ H R ⟨Hf, env, t, d, t', items, A, e, hi, k⟩ => by
    cases d with
    | int n =>
      simp only [itemsD] at hi
      split at hi
      · rename_i hb
        cases hi
        refine ⟨Hf, env, t, _, t', A, e, fun v Hf1 H1 A1 k1 r1 => ?_⟩
        cases r1
        refine ⟨n, rfl, by decide, by decide, by omega, by omega, k _ ((List.range n.toNat).map fun i => V.int (n - 1 - (i : Nat))) _ _ A1 k1 (rp_intf (fun i => n - 1 - (i : Int)) _) (walk_conv walk_rangeC (by simp) (fun _ _ => True.intro) fun i H x H' hi ⟨h1, h2⟩ => ⟨h1, ?_⟩)⟩
        rw [h2, List.getElem?_map, List.getElem?_range (by simpa using hi)]
        have hi' : i < n.toNat := by simpa using hi
        simp only [Option.map_some]
        congr 2
        omega
      · cases hi
    | _ => cases hi⟩
theorem RpAll.rev : ∀ {vs : List V} {ds : List PyData}, RpAll Hf vs ds → RpAll Hf vs.reverse ds.reverse
  | _, _, .nil => .nil
  | v :: vs, d :: ds, .cons h t => by
    rw [List.reverse_cons, List.reverse_cons]
    exact t.rev.append (.cons h .nil)
theorem si_rev {p : Pos} (hg : Gl X "reversed") (hm : X.mg "reversed" = none) (h : SemE C X e m) (hs : starEach [e] X.env = (false, eval e X.env) :: starEach [] X.env := by rfl) : SemI C X tg (.Call (.Name "reversed" p) [e] [] pos) .rev m :=
  ⟨fun T H0 Hf0 => PI.imp (RT.pi_revA hg hm (h.run T H0 Hf0) hs) fun σ H R ⟨Hf, env, t, d, t', items, A, e, hi, k⟩ => by
    cases d with
    | list xs =>
      cases hi
      refine ⟨Hf, env, t, _, t', A, e, fun v Hf1 H1 A1 k1 r1 => ?_⟩
      cases r1 with
      | @lst l vs ds h hs =>
        refine ⟨l, vs, rfl, .inl ⟨SqL.of (A1.ex _ _ h), k _ vs.reverse _ _ A1 k1 hs.rev (walk_conv walk_rev (by simp) (fun H' e' => SqL.of (e' _ _ h)) fun i H x H' hi ⟨h1, h2⟩ => ⟨h1, ?_⟩)⟩⟩
        rw [List.getElem?_reverse hi]
        exact h2
    | tuple xs =>
      cases hi
      refine ⟨Hf, env, t, _, t', A, e, fun v Hf1 H1 A1 k1 r1 => ?_⟩
      cases r1 with
      | @tup l o vs ds h hd hs =>
        have sq : ∀ H', Ex Hf1 H' → SqT X.K H' l vs := fun H' e' => .inl (.inr ⟨o, e' _ _ h⟩)
        refine ⟨l, vs, rfl, .inr ⟨sq _ A1.ex, k _ vs.reverse _ _ A1 k1 hs.rev ⟨fun i H' hi e' => ?_, fun H' e' => ?_, fun i H' x H'' hi e' y => ?_⟩⟩⟩
        · rw [List.length_reverse] at hi
          exact ⟨hi, vs, vs[vs.length - 1 - i]'(by omega), sq _ e', List.getElem?_eq_getElem _⟩
        · exact Nat.le_of_eq (by simp)
        · rw [List.length_reverse] at hi
          refine ⟨y.1, ?_⟩
          rw [List.getElem?_reverse hi]
          exact y.2 vs (sq _ e')
    | _ => cases hi⟩
/-! ### targets -/
theorem wipe_get (σ : L2.St) (j : Nat) : ∀ vs : List Nat, (wipe σ vs)[j]? = if j ∈ vs then (if j < σ.length then some none else none) else σ[j]?
  | [] => by simp [wipe]
  | v :: vs => by
    unfold wipe
    by_cases e : v = j
    · subst e
      rw [if_pos List.mem_cons_self, List.getElem?_set, if_pos rfl, wipe_length]
    · rw [List.getElem?_set_ne e, wipe_get σ j vs]
      by_cases hj : j ∈ vs
      · rw [if_pos hj, if_pos (List.mem_cons_of_mem _ hj)]
      · rw [if_neg hj, if_neg fun h => (List.mem_cons.mp h).elim (fun z => e z.symm) hj]
theorem wipe_set {σ : L2.St} {i : Nat} {x : Option V} {js : List Nat} (h : i ∈ js) : wipe (σ.set i x) js = wipe σ js := by
  apply List.ext_getElem?
  intro j
  rw [wipe_get, wipe_get, List.length_set]
  by_cases hj : j ∈ js
  · rw [if_pos hj, if_pos hj]
  · rw [if_neg hj, if_neg hj, List.getElem?_set_ne (fun e => hj (by rw [← e]; exact h))]
theorem sg_name (i : Nat) {x : Str} (hN : X.N.Nodup) (hi : X.N[i]? = some x) (hx : Loc X.env.scope x) (hf : X.fn x = true ∨ X.env.scope.names.lookup x = some .local) : SemG X (.Name x pos) (.nm i) :=
  ⟨fun T H0 Hf0 => PG.imp (pg_name hN hi hx hf) fun v σ H Q ⟨Hf, env, t, d, env', A, r, e, k⟩ => by
    cases e
    exact k _ (A.set r) fun js h => wipe_set (h i List.mem_cons_self)⟩
def gsOf : List Nat → TGs
  | [] => gNil
  | i :: r => gCons (gName i) (gsOf r)
theorem gs_run : ∀ {is : List Nat} {vs : List V} {ds : List PyData} {env env' : Env} {σ : L2.St} {Q : L2.St → Hp → Prop}, Abs K T H0 Hf0 Hf env t σ H → RpAll Hf vs ds → setIs is ds env = some env' →
    (∀ σ', Abs K T H0 Hf0 Hf env' t σ' H → (∀ js, (∀ i ∈ is, i ∈ js) → wipe σ' js = wipe σ js) → Q σ' H) → gsOf is vs σ H Q
  | [], _, _, env, env', σ, Q, A, .nil, e, k => by
    cases e
    exact ⟨rfl, k _ A fun _ _ => rfl⟩
  | i :: is, v :: vs, d :: ds, env, env', σ, Q, A, .cons h hs, e, k =>
    ⟨v, vs, rfl, gs_run (A.set h) hs e fun σ' A' hw => k σ' A' fun js hj => by
      rw [hw js fun i hi => hj i (List.mem_cons_of_mem _ hi), wipe_set (hj i List.mem_cons_self)]⟩
  | [], _, _ :: _, env, env', σ, Q, A, .cons h hs, e, k => by cases e
  | i :: is, _, [], env, env', σ, Q, A, .nil, e, k => by cases e
theorem setIs_len : ∀ {is : List Nat} {ds : List PyData} {env env' : Env}, setIs is ds env = some env' → ds.length = is.length
  | [], [], _, _, _ => rfl
  | _ :: is, _ :: ds, env, env', h => by
    rw [List.length_cons, List.length_cons, setIs_len (is := is) (ds := ds) h]
  | [], _ :: _, _, _, h => by cases h
  | _ :: _, [], _, _, h => by cases h
theorem sg_tup {is : List Nat} {k} (hc : X.calm = true) (h : PGs X es (gsOf is)) (hn : (assignEach es X.env).length = is.length := by rfl) (hst : (assignEach es X.env).findIdx? (·.1) = none := by rfl) : SemG X (.Tuple es k pos) (.tp is) :=
  ⟨fun T H0 Hf0 => PG.imp (pg_tup hc h hn hst) fun v σ H Q ⟨Hf, env, t, d, env', A, r, e, k⟩ => by
    cases d with
    | tuple ds =>
      cases r with
      | @tup l o vs _ hh hd hs =>
        have e : setIs is ds env = some env' := e
        exact ⟨l, vs, rfl, .inl (.inr ⟨o, A.ex _ _ hh⟩), by rw [hs.len, setIs_len e], gs_run A hs e k⟩
    | _ => cases e⟩
/-! ### a new list that grows on the way -/
theorem Abs.other (A : Abs K T H0 Hf0 Hf env t σ H) {D : Addr} {o : HO} (h1 : D ≠ T) (h2 : Hf D = none) (h3 : H0 D = none) (h4 : ∀ (i : Nat) (lv : LV), env[i]? = some (some lv) → lv.mut = true → σ[i]? ≠ some (some (.ref D))) :
    Abs K T H0 Hf0 Hf env t σ (upd H D o) := by
  refine ⟨fun a u e => by rw [upd_ne (ne_of_none e h2)]; exact A.ex a u e, ⟨A.kp.ex, fun b u n e => by rw [upd_ne (ne_of_none e h3)]; exact A.kp.same b u n e, A.kp.away, fun h => by rw [upd_ne h1.symm]; exact A.kp.tt h⟩, A.len, fun j l h => ?_, A.new, A.sep, A.tf, by rw [upd_ne h1.symm]; exact A.th, A.t0⟩
  obtain ⟨v, hv, okv⟩ := A.loc j l h
  refine ⟨v, hv, ?_⟩
  have nep : l.mut = true → v ≠ .ref D := fun ml z => by
    subst z
    exact h4 j l h ml hv
  cases l with
  | d x => exact okv
  | tp => exact okv
  | scr ns => exact okv
  | own xs =>
    obtain ⟨q, vs, e1, e2, e3, e4⟩ := okv
    exact ⟨q, vs, e1, e2, by rw [upd_ne (fun z => nep rfl (by rw [e1, z]))]; exact e3, e4⟩
  | gd xs => exact okv
  | dk n xs =>
    obtain ⟨q, vs, e1, e2, e3, e4⟩ := okv
    exact ⟨q, vs, e1, e2, by rw [upd_ne (fun z => nep rfl (by rw [e1, z]))]; exact e3, e4⟩
  | dt xs =>
    obtain ⟨q, vs, e1, e2, e3, e4⟩ := okv
    exact ⟨q, vs, e1, e2, by rw [upd_ne (fun z => nep rfl (by rw [e1, z]))]; exact e3, e4⟩
theorem Abs.notmut (A : Abs K T H0 Hf0 Hf env t σ H) {D : Addr} (h : H D = none) : ∀ (i : Nat) (lv : LV), env[i]? = some (some lv) → lv.mut = true → σ[i]? ≠ some (some (.ref D)) := fun i lv he hm hs => by
  obtain ⟨v, hv, ok⟩ := A.loc i lv he
  rw [hs] at hv
  cases hv
  cases lv with
  | own xs =>
    obtain ⟨l, vs, e, _, b, _⟩ := ok
    cases e
    rw [h] at b
    cases b
  | dk n xs =>
    obtain ⟨l, vs, e, _, b, _⟩ := ok
    cases e
    rw [h] at b
    cases b
  | dt xs =>
    obtain ⟨l, vs, e, _, b, _⟩ := ok
    cases e
    rw [h] at b
    cases b
  | _ => cases hm
theorem Kp.grow {Hf' H' : Hp} {D : Addr} {o : HO} (k : Kp T Hf H Hf' H') (hD : D ≠ T) (h : H D = none) : Kp T Hf H Hf' (upd H' D o) :=
  ⟨k.ex, fun b u n e => by rw [upd_ne (ne_of_none e h)]; exact k.same b u n e, k.away, fun ht => by rw [upd_ne hD.symm]; exact k.tt ht⟩
/-! ### comprehensions -/
def lcF (C : CallF) (env : Env) (vs : List Nat) (tg : Tg) (c e : M) : PyData → Int → Option (Option PyData × Int) := fun y t => match setTg tg y (wipeE env vs) with
  | some env2 => match ev C env2 c t with
    | some (.bool true, t2) => match ev C env2 e t2 with
      | some (z, t3) => some (some z, t3)
      | none => none
    | some (.bool false, t2) => some (none, t2)
    | _ => none
  | none => none
theorem ev_lc {k : IK} {it : M} {tgt : Tg} {vs : List Nat} {c e : M} {d : PyData} {t' : Int} (h : ev C env (.lc k it tgt vs c e) t = some (d, t')) :
    ∃ x t1 xs ys, ev C env it t = some (x, t1) ∧ itemsD k x = some xs ∧ xs.length < sizeLine ∧ lcLoop (lcF C env vs tgt c e) xs t1 = some (ys, t') ∧ d = .list ys := by
  unfold ev at h
  split at h
  · rename_i x t1 e1
    split at h
    · rename_i xs e2
      split at h
      · rename_i hl
        obtain ⟨⟨ys, t3⟩, e3, e4⟩ := map_some h
        cases e4
        exact ⟨x, t1, xs, ys, e1, e2, hl, e3, rfl⟩
      · cases h
    · cases h
  · cases h
theorem lc_read {k : IK} {it : M} {tgt : Tg} {vs : List Nat} {mc me : M} (hv : ∀ i ∈ tgIx tgt, i ∈ vs) {Q : VK} (h : tE K C T H0 Hf0 (.lc k it tgt vs mc me) σ H Q) :
    tLc (tI K C T H0 Hf0 k it) (tG K T H0 Hf0 tgt) (tT K C T H0 Hf0 mc) (tE K C T H0 Hf0 me) vs σ H Q := by
  obtain ⟨Hf, env, t, d, t', A, e, q⟩ := h
  obtain ⟨x, t1, xs, ys, e1, e2, hl, e3, rfl⟩ := ev_lc e
  refine ⟨Hf, env, t, x, t1, xs, A, e1, e2, fun J vL Hf1 H1 A1 k1 r1 w D hD => ?_⟩
  obtain ⟨f1, f2, f3⟩ := A1.fresh hD
  have nm := A1.notmut hD
  refine lc_it w (fun i Hc => ∃ Hfc tc accV accD rest, Abs K T H0 Hf0 Hfc env tc σ Hc ∧ Kp T Hf1 H1 Hfc Hc ∧ Hfc D = none ∧ Hc D = some (.lst accV) ∧ RpAll Hfc accV accD ∧ lcLoop (lcF C env vs tgt mc me) (xs.drop i) tc = some (rest, t') ∧ accD ++ rest = ys ∧ accV.length ≤ i) ?_ ?_ ?_ ?_
  · exact ⟨Hf1, t1, [], [], ys, A1.other f3 f1 f2 nm, (Kp.refl _ _ _).grow f3 hD, f1, upd_same, .nil, e3, rfl, Nat.le_refl _⟩
  · rintro i Hc _ ⟨Hfc, tc, accV, accD, rest, Ac, kc, _⟩
    exact kc.ex.trans Ac.ex
  · rintro i xv Hc H' hi ⟨Hfc, tc, accV, accD, rest, Ac, kc, hfD, hcD, ra, hloop, hys, hlen⟩ ⟨rfl, hxv⟩
    have hi2 : i < xs.length := by
      rw [← r1.len]
      exact hi
    obtain ⟨dx, hdx, rx⟩ := r1.getV hxv
    have hdrop : xs.drop i = dx :: xs.drop (i + 1) := by
      rw [List.drop_eq_getElem_cons hi2]
      congr 1
      have := (List.getElem?_eq_some_iff.mp hdx).2
      exact this
    rw [hdrop] at hloop
    unfold lcLoop at hloop
    split at hloop
    · cases hloop
    · rename_i o tn hf
      unfold lcF at hf
      split at hf
      · rename_i env2 hset
        have Aw := Ac.wipe vs
        refine ⟨Hfc, wipeE env vs, tc, dx, env2, Aw, Rp.mono kc.ex _ _ rx, hset, fun σ2 A2 hw => ⟨?_, ?_⟩⟩
        · rw [hw vs hv]
          apply List.ext_getElem?
          intro j
          rw [wipe_get, wipe_length, wipe_get]
          split <;> rfl
        · split at hf
          · rename_i t2 hc
            split at hf
            · rename_i z t3 he
              cases hf
              refine ⟨Hfc, env2, tc, true, t2, A2, hc, fun Hf3 H3 A3 k3 => ?_⟩
              refine iteT ⟨Hf3, env2, t2, z, _, A3, he, fun v Hf4 H4 A4 k4 r4 => ?_⟩
              have k34 := k3.trans k4
              have B : Abs K T H0 Hf0 Hf4 env tn σ H4 := Ac.kept k34 A4.ex A4.th
              have hD4 : H4 D = some (.lst accV) := k34.same D _ f3 hcD
              have hf4 : Hf4 D = none := k34.away D _ hcD hfD
              split at hloop
              · cases hloop
              · rename_i ys2 t4 hl2
                cases hloop
                refine ⟨accV, hD4, by omega, ⟨Hf4, tn, accV ++ [v], accD ++ [z], ys2, B.other f3 hf4 f2 nm, (kc.trans k34).grow f3 hD, hf4, upd_same, (RpAll.mono k34.ex _ _ ra).append (.cons r4 .nil), hl2, ?_, ?_⟩⟩
                · rw [List.append_assoc]
                  exact hys
                · rw [List.length_append]
                  simp
                  omega
            · cases hf
          · rename_i t2 hc
            cases hf
            refine ⟨Hfc, env2, tc, false, _, A2, hc, fun Hf3 H3 A3 k3 => ?_⟩
            refine iteF ?_
            have B : Abs K T H0 Hf0 Hf3 env tn σ H3 := Ac.kept k3 A3.ex A3.th
            split at hloop
            · cases hloop
            · rename_i ys2 t4 hl2
              cases hloop
              exact ⟨Hf3, tn, accV, accD, _, B, kc.trans k3, k3.away D _ hcD hfD, k3.same D _ f3 hcD, RpAll.mono k3.ex _ _ ra, hl2, hys, by omega⟩
          · cases hf
      · cases hf
  · rintro Hc ⟨Hfc, tc, accV, accD, rest, Ac, kc, hfD, hcD, ra, hloop, hys, hlen⟩
    rw [r1.len, List.drop_length] at hloop
    unfold lcLoop at hloop
    cases hloop
    rw [List.append_nil] at hys
    subst hys
    have ex2 : Ex Hfc (upd Hfc D (.lst accV)) := Ex.new hfD
    have kk : Kp T Hfc Hc (upd Hfc D (.lst accV)) Hc ∨ True := .inr True.intro
    have kk : Kp T Hf1 H1 (upd Hfc D (.lst accV)) Hc := ⟨kc.ex.trans ex2, kc.same, fun b o h1 h2 => by rw [upd_ne (ne_of_none h1 hD)]; exact kc.away b o h1 h2, kc.tt⟩
    have exh : Ex (upd Hfc D (.lst accV)) Hc := fun a u e => by
      by_cases hp : a = D
      · subst hp
        rw [upd_same] at e
        cases e
        exact hcD
      · rw [upd_ne hp] at e
        exact Ac.ex a u e
    exact q (.ref D) _ Hc (A1.kept kk exh Ac.th) (k1.trans kk) (.lst upd_same (RpAll.mono ex2 _ _ ra))
theorem se_lc {elt iter : Expr} {ifs : List Expr} {scope : Scope} {own : List (Str × Nat)} {k : IK} {it mc me : M} {tgt : Tg} (hc : X.calm = true) (hN : X.N.Nodup) (hi : SemI C X tg iter k it) (ok : BlkOk X.N X.env.scope scope own) (hv : ∀ i ∈ tgIx tgt, i ∈ own.map (·.2))
    (hg : ∀ (s : Shared) (H : Hp) (L : Addr) (cl : List (Str × Addr)) (fp : List Addr), SemG (X.blk s H scope (compEnvC scope cl L X.env) fp) tg tgt)
    (ht : ∀ (s : Shared) (H : Hp) (L : Addr) (cl : List (Str × Addr)) (fp : List Addr) T H0 Hf0, PTs (X.blk s H scope (compEnvC scope cl L X.env) fp) ifs (tT X.K C T H0 Hf0 mc))
    (he : ∀ (s : Shared) (H : Hp) (L : Addr) (cl : List (Str × Addr)) (fp : List Addr), SemE C (X.blk s H scope (compEnvC scope cl L X.env) fp) elt me) (hs : ∀ x, foldedSetIterable iter X.env x = pure x := by intro _; rfl) :
    SemE C X (.ListComp elt [⟨tg, iter, ifs, 0⟩] scope pos) (.lc k it tgt (own.map (·.2)) mc me) :=
  ⟨fun T H0 Hf0 => PE.imp (pe_lc hc hN (hi.run T H0 Hf0) ok (fun s H L cl fp => (hg s H L cl fp).run T H0 Hf0) (fun s H L cl fp => ht s H L cl fp T H0 Hf0) (fun s H L cl fp => (he s H L cl fp).run T H0 Hf0) hs) fun σ H Q h => lc_read hv h⟩
theorem pts_all (T : Addr) (H0 Hf0 : Hp) : PTs X [] (tT X.K C T H0 Hf0 (.lit (.bool true))) := ⟨fun pins s σ H Q I ⟨Hf, env, t, b, t', A, e, k⟩ => by
  cases e
  exact pts_nil.run pins s σ H Q I (k _ _ A (Kp.refl _ _ _))⟩
theorem pts_if (h : SemT C X c mc) (T : Addr) (H0 Hf0 : Hp) : PTs X [c] (tT X.K C T H0 Hf0 mc) := pts_one (h.run T H0 Hf0)
end
end Pl

set_option Elab.async false
set_option linter.all false
set_option maxRecDepth 100000
set_option maxHeartbeats 1000000
/-! Pl: statements, defs. -/
namespace Pl
open PySem PySem.Spec PyProof.Rows L2
inductive S where
  | nop
  | seq (a b : S)
  | asg (tg : Tg) (e : M)
  | own (i : Nat) (l : M)
  | app (i : Nat) (e : M)
  | seti (i : Nat) (ix e : M)
  | pop0 (j i : Nat)
  | tape (i : Nat) (e : M)
  | frz (i : Nat)
  | ife (c : M) (a b : S)
  | for (k : IK) (it : M) (tg : Tg) (b : S)
  | forG (i : Nat) (tg : Tg) (b : S)
  | while (c : M) (b : S)
  | whileL (i : Nat) (b : S)
  | ret (e : M)
  | drop (e : M)
  | new0 (i : Nat) (t : Bool)
  | newK (i : Nat) (k v : M)
  | newD (i j : Nat)
  | frzD (i : Nat)
  | dput (i : Nat) (k e : M)
  | dputN (i : Nat) (k e : M)
  | tail (i f : Nat) (l : M) (qs : List M) (r : S)
  | tail2 (i f : Nat) (l : M) (qs : List M) (c : M) (r1 r2 : S)
  | never
inductive Out where
  | nx (env : Env) (t : Int)
  | rt (d : PyData) (t : Int)
def forL (f : Env → Int → Option Out) (tg : Tg) : List PyData → Env → Int → Option Out
  | [], env, t => some (.nx env t)
  | d :: ds, env, t => match setTg tg d env with
    | none => none
    | some env1 => match f env1 t with
      | some (.nx env2 t2) => forL f tg ds env2 t2
      | o => o
/-- a loop over a list of one's own that may grow on the way: from the place j on -/
def forO (f : Env → Int → Option Out) (tg : Tg) (i : Nat) : Nat → Nat → Env → Int → Option Out
  | 0, _, _, _ => none
  | w + 1, j, env, t => match env[i]? with
    | some (some (.own xs)) => match xs[j]? with
      | none => some (.nx env t)
      | some d => match setTg tg d env with
        | none => none
        | some env1 => match f env1 t with
          | some (.nx env2 t2) => forO f tg i w (j + 1) env2 t2
          | o => o
    | _ => none
def whl (c : Env → Int → Option (PyData × Int)) (f : Env → Int → Option Out) : Nat → Env → Int → Option Out
  | 0, _, _ => none
  | w + 1, env, t => match c env t with
    | some (.bool true, t1) => match f env t1 with
      | some (.nx env2 t2) => whl c f w env2 t2
      | o => o
    | some (.bool false, t1) => some (.nx env t1)
    | _ => none
def ownAt (env : Env) (i : Nat) : Option (List PyData) := match env[i]? with
  | some (some (.own xs)) => some xs
  | _ => none
def isListD : PyData → Bool
  | .list _ => true
  | _ => false
/-- three parts: something, a list of lists that is not empty, a list; none of them long -/
def new3B : PyData → Bool
  | .tuple [_, .list (.list ws :: _), .list gs] => decide (ws.length < 1000000) && decide (gs.length < 1000000)
  | _ => false
/-- a pair whose second part is a list that is not long -/
def new2B : PyData → Bool
  | .tuple [_, .list gs] => decide (gs.length < 1000000)
  | _ => false
def nomutB (env : Env) : Bool := env.all fun | some lv => !lv.mut | none => true
/-- tests that are false, one behind the other -/
def qtest (C : CallF) (env : Env) : List M → Int → Option Int
  | [], t => some t
  | c :: r, t => match ev C env c t with
    | some (.bool false, t1) => qtest C env r t1
    | _ => none
def exs (C : CallF) (W : Nat) : S → Env → Int → Option Out
  | .nop, env, t => some (.nx env t)
  | .seq a b, env, t => match exs C W a env t with
    | some (.nx env1 t1) => exs C W b env1 t1
    | o => o
  | .asg tg e, env, t => match ev C env e t with
    | some (d, t1) => (setTg tg d env).map fun env1 => .nx env1 t1
    | none => none
  | .own i l, env, t => match evs C env l t with
    | some (lvs, t1) => match dsOf lvs with
      | some ds => if ds.length ≤ 1000 ∧ i < env.length then some (.nx (env.set i (some (.own ds))) t1) else none
      | none => none
    | none => none
  | .app i e, env, t => match ev C env e t with
    | some (d, t1) => match ownAt env i with
      | some xs => if xs.length < sizeLine then some (.nx (env.set i (some (.own (xs ++ [d])))) t1) else none
      | none => none
    | none => none
  | .seti i ix e, env, t => match ev C env e t with
    | some (d, t1) => match ev C env ix t1 with
      | some (.int k, t2) => match ownAt env i with
        | some xs => (ixN xs.length k).map fun j => .nx (env.set i (some (.own (xs.set j d)))) t2
        | none => none
      | _ => none
    | none => none
  | .pop0 j i, env, t => match ownAt env i with
    | some (x :: xs) => if i ≠ j then some (.nx ((env.set i (some (.own xs))).set j (some (.d x))) t) else none
    | _ => none
  | .tape i e, env, t => match ev C env e t with
    | some (.int n, t1) => match env[i]? with
      | some (some .tp) => some (.nx env n)
      | _ => none
    | _ => none
  | .frz i, env, t => match ownAt env i with
    | some xs => some (.nx (env.set i (some (.d (.list xs)))) t)
    | none => none
  | .ife c a b, env, t => match ev C env c t with
    | some (.bool true, t1) => exs C W a env t1
    | some (.bool false, t1) => exs C W b env t1
    | _ => none
  | .for k it tg b, env, t => match ev C env it t with
    | some (x, t1) => match itemsD k x with
      | some xs => forL (exs C W b) tg xs env t1
      | none => none
    | none => none
  | .forG i tg b, env, t => forO (exs C W b) tg i W 0 env t
  | .while c b, env, t => whl (fun env t => ev C env c t) (exs C W b) W env t
  | .whileL i b, env, t => whl (fun env t => (ownAt env i).map fun xs => (.bool (!xs.isEmpty), t)) (exs C W b) W env t
  | .ret e, env, t => match ev C env e t with
    | some (d, t1) => some (.rt d t1)
    | none => none
  | .drop e, env, t => match ev C env e t with
    | some (_, t1) => some (.nx env t1)
    | none => none
  | .new0 i b, env, t => if i < env.length then some (.nx (env.set i (some (if b then .dt [] else .dk false []))) t) else none
  | .newK i k v, env, t => match ev C env k t with
    | some (x, t1) => match ev C env v t1 with
      | some (y, t2) => match keyD x with
        | some key => if i < env.length ∧ (flatD y || isListD y) = true then some (.nx (env.set i (some (.dk true [(key, y)]))) t2) else none
        | none => none
      | none => none
    | none => none
  | .newD i j, env, t => match env[j]? with
    | some (some (.gd kvs)) => if i < env.length then some (.nx (env.set i (some (.dk false kvs))) t) else none
    | _ => none
  | .frzD i, env, t => match env[i]? with
    | some (some (.dk _ kvs)) => some (.nx (env.set i (some (.gd kvs))) t)
    | _ => none
  | .dput i k e, env, t => match ev C env e t with
    | some (y, t1) => match ev C env k t1 with
      | some (x, t2) => match env[i]? with
        | some (some (.dk n kvs)) => match keyD x with
          | some key => if kvs.length < sizeLine ∧ (!n || flatD y) = true then some (.nx (env.set i (some (.dk n (putD kvs key y)))) t2) else none
          | none => none
        | _ => none
      | none => none
    | none => none
  | .dputN i k e, env, t => match ev C env e t with
    | some (y, t1) => match ev C env k t1 with
      | some (x, t2) => match env[i]? with
        | some (some (.dk n kvs)) => match keyD x with
          | some key => if kvs.length < sizeLine ∧ isListD y = true then some (.nx (env.set i (some (.dk n (putD kvs key y)))) t2) else none
          | none => none
        | _ => none
      | none => none
    | none => none
  | .tail i f l qs r, env, t => match evs C env l t with
    | some (lvs, t1) => match C f lvs t1 with
      | some (x, t2) => if nomutB (env.set i none) = true ∧ i < env.length ∧ new3B x = true then match qtest C (env.set i (some (.d x))) qs t2 with
        | some t3 => exs C W r (env.set i none) t3
        | none => none
        else none
      | none => none
    | none => none
  | .tail2 i f l qs c r1 r2, env, t => match evs C env l t with
    | some (lvs, t1) => match C f lvs t1 with
      | some (x, t2) => if nomutB (env.set i none) = true ∧ i < env.length ∧ new2B x = true then match qtest C (env.set i (some (.d x))) qs t2 with
        | some t3 => match ev C (env.set i (some (.d x))) c t3 with
          | some (.bool true, t4) => match exs C W r1 (env.set i none) t4 with
            | some (.rt d t5) => some (.rt d t5)
            | _ => none
          | some (.bool false, t4) => exs C W r2 (env.set i (some (.d x))) t4
          | _ => none
        | none => none
        else none
      | none => none
    | none => none
  | .never, _, _ => none
def tail2 (C : CallF) (W : Nat) (c : M) (r1 r2 : S) (env1 env2 : Env) (t3 : Int) : Option Out := match ev C env2 c t3 with
  | some (.bool true, t4) => match exs C W r1 env1 t4 with
    | some (.rt d t5) => some (.rt d t5)
    | _ => none
  | some (.bool false, t4) => exs C W r2 env2 t4
  | _ => none
/-! ### the statements' readings -/
structure Fin (T : Addr) (H0 Hf0 Hf : Hp) (t : Int) (H : Hp) : Prop where
  ex : Ex Hf H
  kp : Kp T Hf0 H0 Hf H
  tf : Hf T = none
  th : H T = some (.lst [.int t])
theorem Abs.fin {K : PySem.W.Frag} {T : Addr} {H0 Hf0 Hf : Hp} {env : Env} {t : Int} {σ : L2.St} {H : Hp} (A : Abs K T H0 Hf0 Hf env t σ H) : Fin T H0 Hf0 Hf t H := ⟨A.ex, A.kp, A.tf, A.th⟩
section
variable (N : NwP) (K : PySem.W.Frag) (C : CallF) (W : Nat) (T : Addr) (H0 Hf0 : Hp)
def Wants (Hf : Hp) (D : Ends) : Out → Prop
  | .nx env t => ∀ σ Hf' H', Abs K T H0 Hf0 Hf' env t σ H' → Ex Hf Hf' → D.nx σ H'
  | .rt d t => ∀ v Hf' H', Fin T H0 Hf0 Hf' t H' → Ex Hf Hf' → Rp Hf' v d → N H0 Hf' v → D.rt v H'
def tS (s : S) : TS := fun D σ H => ∃ Hf env t o, Abs K T H0 Hf0 Hf env t σ H ∧ exs C W s env t = some o ∧ Wants N K T H0 Hf0 Hf D o
end
structure SemS (N : NwP) (C : CallF) (W : Nat) (X : Cx) (st : Stmt) (s : S) : Prop where
  run : ∀ T H0 Hf0, PS X st (tS N X.K C W T H0 Hf0 s)
structure SemB (N : NwP) (C : CallF) (W : Nat) (X : Cx) (sts : List Stmt) (s : S) : Prop where
  run : ∀ T H0 Hf0, PSs X sts (tS N X.K C W T H0 Hf0 s)
section
variable {N : NwP} {C : CallF} {W : Nat} {X : Cx} {a b c e tg : Expr} {es : List Expr} {ma mb mc m : M} {pos : Pos} {K : PySem.W.Frag} {T : Addr} {H0 Hf0 Hf : Hp} {env : Env} {t t1 t2 : Int} {σ : L2.St} {H : Hp} {d1 d2 : PyData} {st : Stmt} {sts : List Stmt} {s1 s2 : S}
theorem Wants.mono {Hf' : Hp} {D : Ends} {o : Out} (h : Wants N K T H0 Hf0 Hf D o) (e : Ex Hf Hf') : Wants N K T H0 Hf0 Hf' D o := by
  cases o with
  | nx env t => exact fun σ Hf2 H2 A e2 => h σ Hf2 H2 A (e.trans e2)
  | rt d t => exact fun v Hf2 H2 A e2 r n => h v Hf2 H2 A (e.trans e2) r n
theorem sb_nil : SemB N C W X [] .nop := ⟨fun T H0 Hf0 => PSs.imp pss_nil fun D σ H ⟨Hf, env, t, o, A, e, k⟩ => by
  cases e
  exact k _ _ _ A (Ex.refl _)⟩
theorem sb_cons (h1 : SemS N C W X st s1) (h2 : SemB N C W X sts s2) : SemB N C W X (st :: sts) (.seq s1 s2) := ⟨fun T H0 Hf0 => PSs.imp (pss_cons (h1.run T H0 Hf0) (h2.run T H0 Hf0)) fun D σ H ⟨Hf, env, t, o, A, e, k⟩ => by
  unfold exs at e
  cases e1 : exs C W s1 env t with
  | none =>
    rw [e1] at e
    cases e
  | some o1 =>
    rw [e1] at e
    refine ⟨Hf, env, t, o1, A, e1, ?_⟩
    cases o1 with
    | nx env1 t1 => exact fun σ1 Hf1 H1 A1 ex1 => ⟨Hf1, env1, t1, o, A1, e, k.mono ex1⟩
    | rt d t1 =>
      cases e
      exact k⟩
theorem ownAt_some {i : Nat} {xs : List PyData} (h : ownAt env i = some xs) : env[i]? = some (some (.own xs)) := by
  unfold ownAt at h
  split at h
  · cases h
    assumption
  · cases h
theorem exs_seq {a b : S} : exs C W (.seq a b) env t = match exs C W a env t with
    | some (.nx env1 t1) => exs C W b env1 t1
    | o => o := by rw [exs]
theorem exs_frz {i : Nat} : exs C W (.frz i) env t = match ownAt env i with
    | some xs => some (.nx (env.set i (some (.d (.list xs)))) t)
    | none => none := by rw [exs]
theorem sb_frz (i : Nat) (h2 : SemB N C W X sts s2) : SemB N C W X sts (.seq (.frz i) s2) := ⟨fun T H0 Hf0 => PSs.imp (h2.run T H0 Hf0) fun D σ H ⟨Hf, env, t, o, A, e, k⟩ => by
  rw [exs_seq, exs_frz] at e
  cases e0 : ownAt env i with
  | none => rw [e0] at e; cases e
  | some xs =>
    rw [e0] at e
    obtain ⟨Hf', ex, A'⟩ := A.freeze (ownAt_some e0)
    exact ⟨Hf', _, t, o, A', e, k.mono ex⟩⟩
theorem sb_one (h1 : SemS N C W X st s1) : SemB N C W X [st] s1 := ⟨fun T H0 Hf0 => pss_one (h1.run T H0 Hf0)⟩
theorem sb_never : SemB N C W X sts .never := ⟨fun T H0 Hf0 => PSs.imp pss_never fun D σ H ⟨Hf, env, t, o, A, e, k⟩ => by cases e⟩
theorem ss_never : SemS N C W X st .never := ⟨fun T H0 Hf0 => PS.imp ps_never fun D σ H ⟨Hf, env, t, o, A, e, k⟩ => by cases e⟩
theorem asg_read {g : Tg} {D : Ends} (h : tS N K C W T H0 Hf0 (.asg g m) D σ H) : tAsg (tE K C T H0 Hf0 m) (tG K T H0 Hf0 g) D σ H := by
  obtain ⟨Hf, env, t, o, A, e, k⟩ := h
  unfold exs at e
  split at e
  · rename_i d t1 e1
    obtain ⟨env1, e2, e3⟩ := map_some e
    subst e3
    exact ⟨Hf, env, t, d, t1, A, e1, fun v Hf1 H1 A1 k1 r1 => ⟨Hf1, env, t1, d, env1, A1, r1, e2, fun σ' A' _ => k _ _ _ A' k1.ex⟩⟩
  · cases e
theorem ss_asg {i : Nat} {x : Str} {pos' : Pos} (hN : X.N.Nodup) (hi : X.N[i]? = some x) (hx : Loc X.env.scope x) (hf : X.fn x = true ∨ X.env.scope.names.lookup x = some .local) (he : SemE C X e m) (hs : swapsWith e (some (.Name x pos')) pos.line X.env = pure false := by rfl) :
    SemS N C W X (.Assign [.Name x pos'] e pos) (.asg (.nm i) m) :=
  ⟨fun T H0 Hf0 => PS.imp (ps_set hN hi hx (he.run T H0 Hf0) hs hf) fun D σ H h => by
    have h := asg_read h
    obtain ⟨Hf, env, t, d, t', A, e, k⟩ := h
    refine ⟨Hf, env, t, d, t', A, e, fun v Hf1 H1 A1 k1 r1 => ?_⟩
    obtain ⟨Hf2, env2, t2, d2, env', A2, r2, e2, k2⟩ := k v Hf1 H1 A1 k1 r1
    cases e2
    exact k2 _ (A2.set r2) fun js h => wipe_set (h i List.mem_cons_self)⟩
theorem ss_asgT {g : Tg} (he : SemE C X e m) (hg : SemG X tg g) (hs : swapsWithSole [tg] e pos.line X.env = pure false := by rfl) (hw : swappedStores [tg] e X.env = pure none := by rfl) (h1 : (assignEach [tg] X.env).map (·.2) = [assign tg X.env] := by rfl) : SemS N C W X (.Assign [tg] e pos) (.asg g m) :=
  ⟨fun T H0 Hf0 => PS.imp (ps_asg (he.run T H0 Hf0) (hg.run T H0 Hf0) hs hw h1) fun D σ H h => asg_read h⟩
theorem ss_asgLc {i : Nat} {y : Str} {py : Pos} {elt iter tg : Expr} {ifs : List Expr} {scope : Scope} {own : List (Str × Nat)} {spos : Pos} {k : IK} {it mc me : M} {tgt : Tg} (hc : X.calm = true) (hN : X.N.Nodup) (hy : X.N[i]? = some y) (hyl : X.env.scope.names.lookup y = some .local)
    (hsw : swapsWith (.ListComp elt [⟨tg, iter, ifs, 0⟩] scope pos) (some (.Name y py)) spos.line X.env = pure true) (hi : SemI C X tg iter k it) (ok : BlkOk X.N X.env.scope scope own) (hv : ∀ i ∈ tgIx tgt, i ∈ own.map (·.2))
    (hg : ∀ (s : Shared) (H : Hp) (L : Addr) (cl : List (Str × Addr)) (fp : List Addr), SemG (X.blk s H scope (compEnvC scope cl L X.env) fp) tg tgt)
    (ht : ∀ (s : Shared) (H : Hp) (L : Addr) (cl : List (Str × Addr)) (fp : List Addr) T H0 Hf0, PTs (X.blk s H scope (compEnvC scope cl L X.env) fp) ifs (tT X.K C T H0 Hf0 mc))
    (he : ∀ (s : Shared) (H : Hp) (L : Addr) (cl : List (Str × Addr)) (fp : List Addr), SemE C (X.blk s H scope (compEnvC scope cl L X.env) fp) elt me) (hs : ∀ x, foldedSetIterable iter X.env x = pure x := by intro _; rfl) :
    SemS N C W X (.Assign [.Name y py] (.ListComp elt [⟨tg, iter, ifs, 0⟩] scope pos) spos) (.asg (.nm i) (.lc k it tgt (own.map (·.2)) mc me)) :=
  ⟨fun T H0 Hf0 => PS.imp (ps_setLc (te := tE X.K C T H0 Hf0 me) (g := tG X.K T H0 Hf0 tgt) hc hN hy hyl hsw (hi.run T H0 Hf0) ok (fun s H L cl fp => (hg s H L cl fp).run T H0 Hf0) (fun s H L cl fp => ht s H L cl fp T H0 Hf0) (fun s H L cl fp => (he s H L cl fp).run T H0 Hf0) hs) fun D σ H h => by
    refine lc_read hv ?_
    obtain ⟨Hf, env, t, d, t', A, e, k⟩ := asg_read h
    refine ⟨Hf, env, t, d, t', A, e, fun v Hf1 H1 A1 k1 r1 => ?_⟩
    obtain ⟨Hf2, env2, t2, d2, env', A2, r2, e2, k2⟩ := k v Hf1 H1 A1 k1 r1
    cases e2
    exact k2 _ (A2.set r2) fun js h => wipe_set (h i List.mem_cons_self)⟩
theorem ss_own {i : Nat} {x : Str} {pos' p2 : Pos} (hN : X.N.Nodup) (hi : X.N[i]? = some x) (hx : Loc X.env.scope x) (hf : X.fn x = true ∨ X.env.scope.names.lookup x = some .local) (he : SemA C X es m) (hs : swapsWith (.List es p2) (some (.Name x pos')) pos.line X.env = pure false := by rfl) :
    SemS N C W X (.Assign [.Name x pos'] (.List es p2) pos) (.own i m) :=
  ⟨fun T H0 Hf0 => PS.imp (ps_set hN hi hx (pe_lst (he.run T H0 Hf0)) hs hf) fun D σ H ⟨Hf, env, t, o, A, e, k⟩ => by
    unfold exs at e
    split at e
    · rename_i lvs t1 e1
      split at e
      · rename_i ds e2
        split at e
        · rename_i hl
          cases e
          refine ⟨Hf, env, t, lvs, _, A, e1, fun vs Hf1 H1 A1 k1 r1 => ?_⟩
          have rr := args_data r1 e2
          exact ⟨by rw [rr.len]; exact le1000 hl.1, fun p hp => k _ _ _ (A1.setM hp rfl ⟨p, vs, rfl, (A1.fresh hp).1, upd_same, rr⟩) k1.ex⟩
        · cases e
      · cases e
    · cases e⟩
theorem ss_app (i : Nat) {x : Str} {p1 apos cpos pos : Pos} (hN : X.N[i]? = some x) (hv : Vis X.env.scope x) (he : SemE C X e m) (hd : (x == ("__debug__" : Str)) = false := by decide) (hcd : (x == ("__classdict__" : Str)) = false := by decide)
    (hfew : ((backTo cpos (starEach [e] X.env)).all (fun x => !x.1) && (backToKw cpos (keywordEach [] X.env)).all (fun x => x.1.isSome) && decide ([e].length + ([] : List Keyword).length + (if ([] : List Keyword).isEmpty then 0 else 1) < 30)) = true := by rfl)
    (hline : (apos.endLine == cpos.line) = true := by rfl) (hs : starEach [e] X.env = (false, eval e X.env) :: starEach [] X.env := by rfl) (hsw : swapsWith (.Call (.Attribute (.Name x p1) "append" apos) [e] [] cpos) none pos.line X.env = pure false := by rfl) :
    SemS N C W X (.Expr (.Call (.Attribute (.Name x p1) "append" apos) [e] [] cpos) pos) (.app i m) :=
  ⟨fun T H0 Hf0 => PS.imp (ps_expr (pe_bm F.plainAttrs_list F.slot_list_append F.type_list_append mt_append (pe_var hN hv hd hcd) (pa_cons (he.run T H0 Hf0) pa_nil hs) rfl hfew hline hs) hsw) fun D σ H ⟨Hf, env, t, o, A, e, k⟩ => by
    unfold exs at e
    split at e
    · rename_i d t1 e1
      split at e
      · rename_i xs hx
        have hx := ownAt_some hx
        split at e
        · rename_i hl
          cases e
          obtain ⟨v, hs, l, vs, rfl, f1, f2, f3⟩ := A.loc i _ hx
          refine ⟨_, hs, .inl ⟨rfl, vs, SqL.of f2⟩, ⟨Hf, env, t, d, _, A, e1, fun w Hf1 H1 A1 k1 r1 => ?_⟩⟩
          obtain ⟨v', hs', l', vs', e', g1, g2, g3⟩ := A1.loc i _ hx
          rw [hs] at hs'
          cases hs'
          cases e'
          exact ⟨l, vs', w, rfl, rfl, g2, by rw [g3.len]; exact hl, k _ _ _ (A1.write hx rfl hs g1 rfl ⟨l, _, rfl, g1, upd_same, g3.append (.cons r1 .nil)⟩) k1.ex⟩
        · cases e
      · cases e
    · cases e⟩
theorem ss_seti (i : Nat) {x : Str} {p1 p2 pos : Pos} {ix : Expr} {mi : M} (hN : X.N[i]? = some x) (hv : Vis X.env.scope x) (he : SemE C X e m) (hix : SemE C X ix mi) (hd : (x == ("__debug__" : Str)) = false := by decide) (hcd : (x == ("__classdict__" : Str)) = false := by decide)
    (ha : ∀ v, assign (.Subscript (.Name x p1) ix p2) X.env v = (do
      let ov ← holding [v] (eval (.Name x p1) X.env)
      let iv ← holding [v, ov] (eval ix X.env)
      standAt p2
      holding [v, ov, iv] (setItem ov iv v)
      release [v, ov, iv] []) := by intro _; rfl)
    (hs : swapsWithSole [.Subscript (.Name x p1) ix p2] e pos.line X.env = pure false := by rfl) (hw : swappedStores [.Subscript (.Name x p1) ix p2] e X.env = pure none := by rfl) (h1 : (assignEach [.Subscript (.Name x p1) ix p2] X.env).map (·.2) = [assign (.Subscript (.Name x p1) ix p2) X.env] := by rfl) :
    SemS N C W X (.Assign [.Subscript (.Name x p1) ix p2] e pos) (.seti i mi m) :=
  ⟨fun T H0 Hf0 => PS.imp (ps_asg (he.run T H0 Hf0) (pg_sub (pe_var hN hv hd hcd) (hix.run T H0 Hf0) set_list ha) hs hw h1) fun D σ H ⟨Hf, env, t, o, A, e, k⟩ => by
    unfold exs at e
    split at e
    · rename_i d t1 e1
      split at e
      · rename_i kk t2 e2
        split at e
        · rename_i xs hx
          have hx := ownAt_some hx
          obtain ⟨j, hj, ej⟩ := map_some e
          subst ej
          refine ⟨Hf, env, t, d, _, A, e1, fun w Hf1 H1 A1 k1 r1 => ?_⟩
          obtain ⟨v, hs, l, vs, rfl, f1, f2, f3⟩ := A1.loc i _ hx
          refine ⟨_, hs, ⟨Hf1, env, t1, _, _, A1, e2, fun y Hf2 H2 A2 k2 r2 => ?_⟩⟩
          cases r2
          obtain ⟨v', hs', l', vs', e', g1, g2, g3⟩ := A2.loc i _ hx
          rw [hs] at hs'
          cases hs'
          cases e'
          exact ⟨l, vs', kk, j, rfl, rfl, g2, by rw [g3.len]; exact hj, k _ _ _ (A2.write hx rfl hs g1 rfl ⟨l, _, rfl, g1, upd_same, g3.set (Rp.mono k2.ex _ _ r1) j⟩) (k1.ex.trans k2.ex)⟩
        · cases e
      · cases e
    · cases e⟩
theorem ss_tape (i : Nat) {x : Str} {p1 p2 p3 pos : Pos} {j} (hN : X.N[i]? = some x) (hv : Vis X.env.scope x) (he : SemE C X e m) (hd : (x == ("__debug__" : Str)) = false := by decide) (hcd : (x == ("__classdict__" : Str)) = false := by decide)
    (hs : swapsWithSole [.Subscript (.Name x p1) (.Constant (.int 0) j p3) p2] e pos.line X.env = pure false := by rfl) (hw : swappedStores [.Subscript (.Name x p1) (.Constant (.int 0) j p3) p2] e X.env = pure none := by rfl)
    (h1 : (assignEach [.Subscript (.Name x p1) (.Constant (.int 0) j p3) p2] X.env).map (·.2) = [assign (.Subscript (.Name x p1) (.Constant (.int 0) j p3) p2) X.env] := by rfl) :
    SemS N C W X (.Assign [.Subscript (.Name x p1) (.Constant (.int 0) j p3) p2] e pos) (.tape i m) :=
  ⟨fun T H0 Hf0 => PS.imp (ps_asg (he.run T H0 Hf0) (pg_sub (pe_var hN hv hd hcd) pe_int set_list) hs hw h1) fun D σ H ⟨Hf, env, t, o, A, e, k⟩ => by
    unfold exs at e
    split at e
    · rename_i n t1 e1
      split at e
      · rename_i hx
        cases e
        refine ⟨Hf, env, t, _, _, A, e1, fun w Hf1 H1 A1 k1 r1 => ?_⟩
        cases r1
        obtain ⟨v, hs, r⟩ := A1.loc i _ hx
        have r : v = .ref T := r
        subst r
        exact ⟨_, hs, T, _, 0, 0, rfl, rfl, A1.th, rfl, k _ _ _ (A1.tape).1 k1.ex⟩
      · cases e
    · cases e⟩
theorem ss_if {x y : List Stmt} (hc : SemT C X c mc) (ha : SemB N C W X x s1) (hb : SemB N C W X y s2) : SemS N C W X (.If c x y pos) (.ife mc s1 s2) :=
  ⟨fun T H0 Hf0 => PS.imp (ps_if (hc.run T H0 Hf0) (ha.run T H0 Hf0) (hb.run T H0 Hf0)) fun D σ H ⟨Hf, env, t, o, A, e, k⟩ => by
    unfold exs at e
    split at e
    · rename_i t1 e1
      exact ⟨Hf, env, t, true, t1, A, e1, fun Hf1 H1 A1 k1 => iteT ⟨Hf1, env, t1, o, A1, e, k.mono k1.ex⟩⟩
    · rename_i t1 e1
      exact ⟨Hf, env, t, false, t1, A, e1, fun Hf1 H1 A1 k1 => iteF ⟨Hf1, env, t1, o, A1, e, k.mono k1.ex⟩⟩
    · cases e⟩
theorem ss_retN (he : SemN C X e m N) : SemS N C W X (.Return (some e) pos) (.ret m) :=
  ⟨fun T H0 Hf0 => PS.imp (ps_ret (he.run T H0 Hf0)) fun D σ H ⟨Hf, env, t, o, A, e, k⟩ => by
    unfold exs at e
    split at e
    · rename_i d t1 e1
      cases e
      exact ⟨Hf, env, t, d, _, A, e1, fun v Hf1 H1 A1 k1 r1 n1 => k _ _ _ A1.fin k1.ex r1 n1⟩
    · cases e⟩
theorem ss_ret (he : SemE C X e m) : SemS NwT C W X (.Return (some e) pos) (.ret m) := ss_retN he.sayT
theorem ss_drop (he : SemE C X e m) (hs : swapsWith e none pos.line X.env = pure false := by rfl) : SemS N C W X (.Expr e pos) (.drop m) :=
  ⟨fun T H0 Hf0 => PS.imp (ps_expr (he.run T H0 Hf0) hs) fun D σ H ⟨Hf, env, t, o, A, e, k⟩ => by
    unfold exs at e
    split at e
    · rename_i d t1 e1
      cases e
      exact ⟨Hf, env, t, d, _, A, e1, fun v Hf1 H1 A1 k1 r1 => k _ _ _ A1 k1.ex⟩
    · cases e⟩
theorem ss_for {iter : Expr} {body : List Stmt} {k : IK} {it : M} {g : Tg} (hp : PassesOwn (model X.prog X.w) X.A X.env X.xe) (hc : X.calm = true) (hi : SemI C X tg iter k it) (hg : SemG X tg g) (hb : SemB N C W X body s1) (hs : ∀ x, foldedSetIterable iter X.env x = pure x := by intro _; rfl) :
    SemS N C W X (.For tg iter body [] pos) (.for k it g s1) :=
  ⟨fun T H0 Hf0 => PS.imp (ps_for hp hc (hi.run T H0 Hf0) (hg.run T H0 Hf0) (hb.run T H0 Hf0) hs) fun D σ H ⟨Hf, env, t, o, A, e, q⟩ => by
    unfold exs at e
    split at e
    · rename_i x t1 e1
      split at e
      · rename_i xs e2
        refine ⟨Hf, env, t, x, t1, xs, A, e1, e2, fun J vL Hf1 H1 A1 k1 r1 w => ?_⟩
        have q := q.mono k1.ex
        refine for_it w (fun i σc Hc => ∃ Hfc envc tc, Abs X.K T H0 Hf0 Hfc envc tc σc Hc ∧ Ex Hf1 Hfc ∧ forL (exs C W s1) g (xs.drop i) envc tc = some o) ?_ ?_ ?_ ?_
        · exact ⟨Hf1, env, t1, A1, Ex.refl _, e⟩
        · rintro i σc Hc _ ⟨Hfc, envc, tc, Ac, exc, _⟩
          exact exc.trans Ac.ex
        · rintro i xv σc Hc H' hi ⟨Hfc, envc, tc, Ac, exc, hloop⟩ ⟨rfl, hxv⟩
          have hi2 : i < xs.length := by
            rw [← r1.len]
            exact hi
          obtain ⟨dx, hdx, rx⟩ := r1.getV hxv
          have hdrop : xs.drop i = dx :: xs.drop (i + 1) := by
            rw [List.drop_eq_getElem_cons hi2]
            congr 1
            exact (List.getElem?_eq_some_iff.mp hdx).2
          rw [hdrop] at hloop
          unfold forL at hloop
          split at hloop
          · cases hloop
          · rename_i env1 hset
            refine ⟨Hfc, envc, tc, dx, env1, Ac, Rp.mono exc _ _ rx, hset, fun σ2 A2 _ => ?_⟩
            split at hloop
            · rename_i env2 t2 hb
              exact ⟨Hfc, env1, tc, _, A2, hb, fun σ3 Hf3 H3 A3 ex3 => ⟨Hf3, env2, t2, A3, exc.trans ex3, hloop⟩⟩
            · rename_i o' hno
              refine ⟨Hfc, env1, tc, o, A2, hloop, ?_⟩
              cases o with
              | nx e' t' => exact absurd hloop (hno e' t')
              | rt d t' => exact q.mono exc
        · rintro σc Hc ⟨Hfc, envc, tc, Ac, exc, hloop⟩
          rw [r1.len, List.drop_length] at hloop
          unfold forL at hloop
          cases hloop
          exact q _ _ _ Ac exc
      · cases e
    · cases e⟩
theorem whl_read {tc : TT} {tb : TS} {cf : Env → Int → Option (PyData × Int)} {D : Ends} (hcr : ∀ (σ : L2.St) (H : Hp) (Q : Bool → Hp → Prop) (Hf : Hp) (env : Env) (t : Int) (b : Bool) (t' : Int), Abs K T H0 Hf0 Hf env t σ H → cf env t = some (.bool b, t') → (∀ Hf' H', Abs K T H0 Hf0 Hf' env t' σ H' → Ex Hf Hf' → Q b H') → tc σ H Q)
    (hbr : ∀ D σ H, tS N K C W T H0 Hf0 s1 D σ H → tb D σ H) {w : Nat} {o : Out} (A : Abs K T H0 Hf0 Hf env t σ H) (e : whl cf (exs C W s1) w env t = some o) (q : Wants N K T H0 Hf0 Hf D o) : tWhile tc tb D σ H := by
  refine ⟨fun n σc Hc => ∃ Hfc envc tc, Abs K T H0 Hf0 Hfc envc tc σc Hc ∧ Ex Hf Hfc ∧ whl cf (exs C W s1) n envc tc = some o, ⟨w, Hf, env, t, A, Ex.refl _, e⟩, ?_⟩
  rintro n σc Hc ⟨Hfc, envc, tcc, Ac, exc, hw⟩
  cases n with
  | zero => cases hw
  | succ n =>
    unfold whl at hw
    split at hw
    · rename_i t1 e1
      refine hcr σc Hc _ Hfc envc tcc true t1 Ac e1 fun Hf1 H1 A1 ex1 => ?_
      refine iteT ⟨fun σ' H' => ∃ Hfc envc tc, Abs K T H0 Hf0 Hfc envc tc σ' H' ∧ Ex Hf Hfc ∧ whl cf (exs C W s1) n envc tc = some o, fun σ' H' h => ⟨n, Nat.lt_succ_self n, h⟩, hbr _ _ _ ?_⟩
      split at hw
      · rename_i env2 t2 hb
        exact ⟨Hf1, envc, t1, _, A1, hb, fun σ3 Hf3 H3 A3 ex3 => ⟨Hf3, env2, t2, A3, exc.trans (ex1.trans ex3), hw⟩⟩
      · rename_i o' hno
        refine ⟨Hf1, envc, t1, o, A1, hw, ?_⟩
        cases o with
        | nx e' t' => exact absurd hw (hno e' t')
        | rt d t' => exact q.mono (exc.trans ex1)
    · rename_i t1 e1
      cases hw
      refine hcr σc Hc _ Hfc envc tcc false t1 Ac e1 fun Hf1 H1 A1 ex1 => ?_
      exact iteF (q _ _ _ A1 (exc.trans ex1))
    · cases hw
theorem ss_while {body : List Stmt} (hp : PassesOwn (model X.prog X.w) X.A X.env X.xe) (hc : SemT C X c mc) (hb : SemB N C W X body s1) : SemS N C W X (.While c body [] pos) (.while mc s1) :=
  ⟨fun T H0 Hf0 => PS.imp (ps_while hp (hc.run T H0 Hf0) (hb.run T H0 Hf0)) fun D σ H ⟨Hf, env, t, o, A, e, q⟩ => by
    unfold exs at e
    exact whl_read (fun σ H Q Hf env t b t' A e k => ⟨Hf, env, t, b, t', A, e, fun Hf' H' A' k' => k _ _ A' k'.ex⟩) (fun _ _ _ h => h) A e q⟩
theorem ss_whileL (i : Nat) {x : Str} {p1 : Pos} {body : List Stmt} (hp : PassesOwn (model X.prog X.w) X.A X.env X.xe) (hN : X.N[i]? = some x) (hv : Vis X.env.scope x) (hb : SemB N C W X body s1) (hd : (x == ("__debug__" : Str)) = false := by decide) (hcd : (x == ("__classdict__" : Str)) = false := by decide)
    (he : ∀ whole, isTrue (.Name x p1) X.env whole = (do let v ← whole; standAt (Expr.Name x p1).pos; holding [v] (truthy v)) := by intro _; rfl) : SemS N C W X (.While (.Name x p1) body [] pos) (.whileL i s1) :=
  ⟨fun T H0 Hf0 => PS.imp (ps_while hp (pt_truth (pe_var hN hv hd hcd) he) (hb.run T H0 Hf0)) fun D σ H ⟨Hf, env, t, o, A, e, q⟩ => by
    unfold exs at e
    refine whl_read (fun σ H Q Hf env t b t' A e k => ?_) (fun _ _ _ h => h) A e q
    obtain ⟨xs, e1, e2⟩ := map_some e
    cases e2
    obtain ⟨v, hs, l, vs, rfl, f1, f2, f3⟩ := A.loc i _ (ownAt_some e1)
    refine ⟨_, hs, _, .inl ⟨vs, SqL.of f2, ?_⟩, k _ _ A (Ex.refl _)⟩
    cases f3 <;> rfl⟩
theorem ss_pop0 (j i : Nat) {x y : Str} {p1 p2 pos' apos cpos pos : Pos} {kk} (hNd : X.N.Nodup) (hj : X.N[j]? = some y) (hx : Loc X.env.scope y) (hf : X.fn y = true ∨ X.env.scope.names.lookup y = some .local) (hN : X.N[i]? = some x) (hv : Vis X.env.scope x) (hd : (x == ("__debug__" : Str)) = false := by decide) (hcd : (x == ("__classdict__" : Str)) = false := by decide)
    (hfew : ((backTo cpos (starEach [.Constant (.int 0) kk p2] X.env)).all (fun x => !x.1) && (backToKw cpos (keywordEach [] X.env)).all (fun x => x.1.isSome) && decide ([Expr.Constant (.int 0) kk p2].length + ([] : List Keyword).length + (if ([] : List Keyword).isEmpty then 0 else 1) < 30)) = true := by rfl)
    (hline : (apos.endLine == cpos.line) = true := by rfl) (hs : swapsWith (.Call (.Attribute (.Name x p1) "pop" apos) [.Constant (.int 0) kk p2] [] cpos) (some (.Name y pos')) pos.line X.env = pure false := by rfl) :
    SemS N C W X (.Assign [.Name y pos'] (.Call (.Attribute (.Name x p1) "pop" apos) [.Constant (.int 0) kk p2] [] cpos) pos) (.pop0 j i) :=
  ⟨fun T H0 Hf0 => PS.imp (ps_set hNd hj hx (pe_bm F.plainAttrs_list F.slot_list_pop F.type_list_pop mt_popAt (pe_var hN hv hd hcd) (pa_cons pe_int pa_nil) rfl hfew hline) hs hf) fun D σ H ⟨Hf, env, t, o, A, e, k⟩ => by
    unfold exs at e
    split at e
    · rename_i x xs hx
      have hx := ownAt_some hx
      split at e
      · rename_i hij
        cases e
        obtain ⟨v, hs, l, vs, rfl, f1, f2, f3⟩ := A.loc i _ hx
        cases f3 with
        | @cons w vs _ _ r rs =>
          refine ⟨_, hs, .inl ⟨rfl, _, SqL.of f2⟩, ⟨l, _, 0, 0, w, rfl, rfl, f2, by decide, by decide, ?_, rfl, ?_⟩⟩
          · have h0 : (0 : Int) < ((w :: vs).length : Nat) := by
              rw [List.length_cons]
              omega
            rw [seqIndex_of (by decide) h0] <;> rfl
          · exact k _ _ _ ((A.write hx rfl hs f1 rfl (o := .lst vs) (lv' := .own xs) ⟨l, vs, rfl, f1, upd_same, rs⟩).set r) (Ex.refl _)
      · cases e
    · cases e⟩
/-! ### defs -/
structure FnM where
  np : Nat
  n : Nat
  body : S
def runF (C : CallF) (W : Nat) (fm : FnM) (args : List LV) (t : Int) : Option (PyData × Int) :=
  if args.length = fm.np then match exs C W fm.body (args.map some ++ List.replicate (fm.n - fm.np) none) t with
    | some (.rt d t') => some (d, t')
    | some (.nx _ t') => some (.none, t')
    | none => none
  else none
def spF (K : PySem.W.Frag) (C : CallF) (np f : Nat) : Sp := fun vs H Q _ => vs.length = np ∧ ∃ T Hf lvs t r t', C f lvs t = some (r, t') ∧ Ex Hf H ∧ Hf T = none ∧ H T = some (.lst [.int t]) ∧ Paired (ArgOK K T Hf) vs lvs ∧
  ∀ v Hf' H', Ex Hf' H' → Kp T Hf H Hf' H' → H' T = some (.lst [.int t']) → Rp Hf' v r → Q v H'
theorem paired_len {α β : Type} {R : α → β → Prop} : ∀ {a : List α} {b : List β}, Paired R a b → a.length = b.length
  | _, _, .nil => rfl
  | _, _, .cons _ t => by rw [List.length_cons, List.length_cons, paired_len t]
theorem paired_get {α β : Type} {R : α → β → Prop} : ∀ {a : List α} {b : List β} {i : Nat} {y : β}, Paired R a b → b[i]? = some y → ∃ x, a[i]? = some x ∧ R x y
  | _, _, i, y, .nil, h => by simp at h
  | _, _, 0, y, .cons r _, h => by
    simp at h
    subst h
    exact ⟨_, rfl, r⟩
  | _, _, i + 1, y, .cons _ t, h => by
    obtain ⟨x, h1, h2⟩ := paired_get (i := i) (y := y) t (by simpa using h)
    exact ⟨x, by simpa using h1, h2⟩
theorem se_call {k f np : Nat} {fa : Addr} {fd : FuncData} {ps : List Str} {x : Str} {p : Pos} (F : FnOk X.prog X.w X.K X.mg X.base CX0 k fa fd ps (spF X.K C np f)) (hr : Room k X.A) (hg : Gl X x) (hm : X.mg x = some (.ref fa)) (hk : PySem.W.keepIn X.K (.ref fa) = true) (hb : Binds X.K fd ps []) (ha : SemA C X (e :: es) m) (hlen : (e :: es).length = np) (hml : ∀ env t lvs t', evs C env m t = some (lvs, t') → lvs.length = np)
    (hdb : (x == ("__debug__" : Str)) = false := by decide) (he : starEach (e :: es) X.env = (false, eval e X.env) :: starEach es X.env := by rfl) (hpl : (backTo pos (starEach es X.env)).any (·.1) = false := by rfl) : SemE C X (.Call (.Name x p) (e :: es) [] pos) (.call f m) :=
  ⟨fun T H0 Hf0 => PE.imp (pe_call F hr hg hm hk hb .nil pass0 (ha.run T H0 Hf0) hdb he hpl) fun σ H Q ⟨Hf, env, t, d, t', A, e, k⟩ => by
    unfold ev at e
    split at e
    · rename_i lvs t1 e1
      refine ⟨Hf, env, t, lvs, t1, A, e1, fun vs Hf1 H1 A1 k1 r1 => ?_⟩
      show spF X.K C np f (vs ++ []) H1 Q E0
      rw [List.append_nil]
      exact ⟨by rw [paired_len r1]; exact hml _ _ _ _ e1, T, Hf1, lvs, t1, d, t', e, A1.ex, A1.tf, A1.th, r1, fun v Hf2 H2 ex2 k2 th r => k v Hf2 H2 (A1.kept k2 ex2 th) (k1.trans k2) r⟩
    · cases e⟩
theorem abs_start {vs : List V} {lvs : List LV} {n : Nat} {N : List Str} (ex : Ex Hf H) (tf : Hf T = none) (th : H T = some (.lst [.int t])) (r : Paired (ArgOK K T Hf) vs lvs) (hn : N.length - vs.length = n) : Abs K T H Hf Hf (lvs.map some ++ List.replicate n none) t (L2.start N vs) H := by
  have hl := paired_len r
  have get : ∀ (i : Nat) (lv : LV), (lvs.map some ++ List.replicate n none)[i]? = some (some lv) → lvs[i]? = some lv := fun i lv h => by
    by_cases hi : i < lvs.length
    · rw [List.getElem?_append_left (by simpa using hi), List.getElem?_map, List.getElem?_eq_getElem hi] at h
      rw [List.getElem?_eq_getElem hi]
      exact Option.some.inj h
    · rw [List.getElem?_append_right (by simpa using hi), List.getElem?_replicate] at h
      split at h <;> cases h
  have nomut : ∀ {v : V} {lv : LV}, ArgOK K T Hf v lv → lv.mut = false := fun {v lv} h => by
    cases lv <;> first | rfl | exact h.elim
  refine ⟨ex, Kp.refl _ _ _, ?_, fun i lv h => ?_, fun i lv a h hm _ => ?_, fun i j lv lv' a _ h hm _ _ _ _ => ?_, tf, th, by rw [th]; simp⟩
  · unfold L2.start
    rw [List.length_append, List.length_append, List.length_map, List.length_map, List.length_replicate, List.length_replicate, hl, ← hn, hl]
  · have h' := get i lv h
    obtain ⟨v, h1, h2⟩ := paired_get r h'
    have hi : i < vs.length := (List.getElem?_eq_some_iff.mp h1).1
    refine ⟨v, ?_, ?_⟩
    · unfold L2.start
      rw [List.getElem?_append_left (by simpa using hi), List.getElem?_map, h1] <;> rfl
    · cases lv with
      | d x => exact h2
      | tp => exact h2
      | scr ns => exact h2
      | gd kvs => exact h2
      | _ => exact h2.elim
  · obtain ⟨v, h1, h2⟩ := paired_get r (get i lv h)
    rw [nomut h2] at hm
    cases hm
  · obtain ⟨v, h1, h2⟩ := paired_get r (get i lv h)
    rw [nomut h2] at hm
    cases hm
theorem fn_sem {P : Program} {w : World} {mg : Str → Option Value} {base : Heap} {x qual : Str} {st : Stmt} {fa : Addr} {fd : FuncData} {N ps : List Str} {k f : Nat} {C' : CallF} {fm : FnM} (F : Fun K x qual st fa fd) (S : FnScope N ps (defScope st)) (hnp : ps.length = fm.np) (hn : N.length = fm.n)
    (hC : ∀ args t, C' f args t = runF C W fm args t)
    (hb : ∀ (cdv : Value) (A : Around) (outer : List PySem.Env) (s : Shared) (H : Hp) (E : XK), Room k (A.deeper (envOfC qual (defScope st) s.heap.objs.size fa cdv)) → SemB NwT C W (cxOf CX0 P w K mg base N qual (defScope st) fa cdv A outer s H E).nox (defBody st) fm.body) :
    FnOk P w K mg base CX0 (k + 1) fa fd ps (spF K C' fm.np f) := by
  refine F.ok S (fun vs H Q E h => by rw [hnp]; exact h.1) fun cdv A outer s H vs Q E hr h => ?_
  obtain ⟨hl, T, Hf, lvs, t, r, t', hc, ex, tf, th, ra, q⟩ := h
  refine ⟨_, (hb cdv A outer s H E hr).run T H Hf, ?_⟩
  rw [hC] at hc
  unfold runF at hc
  split at hc
  · have A0 := abs_start (N := N) (n := fm.n - fm.np) ex tf th ra (by rw [hn, hl])
    split at hc
    · rename_i d t1 he
      cases hc
      exact ⟨Hf, _, t, _, A0, he, fun v Hf' H' fi e' rv _ => q v Hf' H' fi.ex fi.kp fi.th rv⟩
    · rename_i e1 t1 he
      cases hc
      exact ⟨Hf, _, t, _, A0, he, fun σ' Hf' H' A' e' => q .non Hf' H' A'.ex A'.kp A'.th .non⟩
    · cases hc
  · cases hc
end
end Pl

set_option Elab.async false
set_option linter.all false
set_option maxRecDepth 100000
set_option maxHeartbeats 1000000
/-! Pl: the links in short words. -/
namespace Pl
open PySem PySem.Spec PyProof.Rows L2
theorem Room.u64 {k : Nat} {A : Around} (r : Room k A) : A.units + 64 < cLine := r.units
theorem Room.u1 {k : Nat} {A : Around} (r : Room k A) : A.units + 1 < cLine := by
  have := r.units
  omega
theorem Room.u65 {k : Nat} {A : Around} (r : Room k A) : A.units + 65 < cLine := by
  have := r.un
  omega
def argc : M → Nat
  | .cons _ b => argc b + 1
  | _ => 0
theorem evs_len {C : CallF} {env : Env} : ∀ (m : M) (t : Int) (lvs : List LV) (t' : Int), evs C env m t = some (lvs, t') → lvs.length = argc m := by
  intro m
  induction m with
  | nil =>
    intro t lvs t' h
    unfold evs at h
    cases h
    rfl
  | cons a b _ ih =>
    intro t lvs t' h
    cases a with
    | tape i =>
      unfold evs at h
      split at h
      · split at h
        · rename_i r t2 e
          cases h
          show r.length + 1 = argc b + 1
          rw [ih _ _ _ e]
        · cases h
      · split at h
        · rename_i r t2 e
          cases h
          show r.length + 1 = argc b + 1
          rw [ih _ _ _ e]
        · cases h
      · split at h
        · rename_i r t2 e
          cases h
          show r.length + 1 = argc b + 1
          rw [ih _ _ _ e]
        · cases h
      · cases h
    | edict =>
      unfold evs at h
      split at h
      · rename_i r t2 e
        cases h
        show r.length + 1 = argc b + 1
        rw [ih _ _ _ e]
      · cases h
    | _ =>
      obtain ⟨d, t1, r, e1, e2, rfl⟩ := evs_cons (by intro i z; cases z) (by intro z; cases z) h
      show r.length + 1 = argc b + 1
      rw [ih _ _ _ e2]
  | _ =>
    intro t lvs t' h
    unfold evs at h
    cases h
section
variable {N : NwP} {C : CallF} {W : Nat} {X : Cx} {a b c e tg : Expr} {es : List Expr} {ma mb mc m : M} {pos : Pos} {st : Stmt} {sts : List Stmt} {s1 s2 : S}
theorem xv (i : Nat) {x : Str} (hN : X.N[i]? = some x := by rfl) (hv : Vis X.env.scope x := by first | exact Or.inl rfl | exact Or.inr (Or.inl rfl) | exact Or.inr (Or.inr rfl)) (hd : (x == ("__debug__" : Str)) = false := by decide) (hcd : (x == ("__classdict__" : Str)) = false := by decide) : SemE C X (.Name x pos) (.var i) := se_var i hN hv hd hcd
theorem xb (i : Nat) {x : Str} (hN : X.N[i]? = some x := by rfl) (hv : Vis X.env.scope x := by first | exact Or.inl rfl | exact Or.inr (Or.inl rfl) | exact Or.inr (Or.inr rfl)) (hd : (x == ("__debug__" : Str)) = false := by decide) (hcd : (x == ("__classdict__" : Str)) = false := by decide) : SemR C X (.Name x pos) (.bor i) := sr_bor i hN hv hd hcd
theorem xt (i : Nat) {x : Str} {p1 p2 : Pos} {j} (hN : X.N[i]? = some x := by rfl) (hv : Vis X.env.scope x := by first | exact Or.inl rfl | exact Or.inr (Or.inl rfl) | exact Or.inr (Or.inr rfl)) (hd : (x == ("__debug__" : Str)) = false := by decide) (hcd : (x == ("__classdict__" : Str)) = false := by decide) : SemE C X (.Subscript (.Name x p1) (.Constant (.int 0) j p2) pos) (.tape i) := se_tape i hN hv hd hcd
theorem xp (i : Nat) {x : Str} {p1 : Pos} (hb : SemA C X es mb) (hN : X.N[i]? = some x := by rfl) (hv : Vis X.env.scope x := by first | exact Or.inl rfl | exact Or.inr (Or.inl rfl) | exact Or.inr (Or.inr rfl)) (hd : (x == ("__debug__" : Str)) = false := by decide) (hcd : (x == ("__classdict__" : Str)) = false := by decide)
    (hs : starEach (.Name x p1 :: es) X.env = (false, eval (.Name x p1) X.env) :: starEach es X.env := by rfl) : SemA C X (.Name x p1 :: es) (.cons (.tape i) mb) := sa_pass i hN hv hb hd hcd hs
theorem xi (ha : SemR C X a ma) (hb : SemE C X b mb) (hs : PlainIx b := by intro _ _; rfl) : SemE C X (.Subscript a b pos) (.idx ma mb) := se_idx ha hb hs
theorem yset (i : Nat) {x : Str} {pos' : Pos} (hN : X.N.Nodup) (he : SemE C X e m) (hi : X.N[i]? = some x := by rfl) (hx : Loc X.env.scope x := by first | exact Or.inl rfl | exact Or.inr rfl) (hf : X.fn x = true ∨ X.env.scope.names.lookup x = some .local := by first | exact Or.inl rfl | exact Or.inr rfl)
    (hs : swapsWith e (some (.Name x pos')) pos.line X.env = pure false := by rfl) : SemS N C W X (.Assign [.Name x pos'] e pos) (.asg (.nm i) m) := ss_asg hN hi hx hf he hs
theorem yown (i : Nat) {x : Str} {pos' p2 : Pos} (hN : X.N.Nodup) (he : SemA C X es m) (hi : X.N[i]? = some x := by rfl) (hx : Loc X.env.scope x := by first | exact Or.inl rfl | exact Or.inr rfl) (hf : X.fn x = true ∨ X.env.scope.names.lookup x = some .local := by first | exact Or.inl rfl | exact Or.inr rfl)
    (hs : swapsWith (.List es p2) (some (.Name x pos')) pos.line X.env = pure false := by rfl) : SemS N C W X (.Assign [.Name x pos'] (.List es p2) pos) (.own i m) := ss_own hN hi hx hf he hs
theorem yapp (i : Nat) {x : Str} {p1 apos cpos pos : Pos} (he : SemE C X e m) (hN : X.N[i]? = some x := by rfl) (hv : Vis X.env.scope x := by first | exact Or.inl rfl | exact Or.inr (Or.inl rfl) | exact Or.inr (Or.inr rfl)) (hd : (x == ("__debug__" : Str)) = false := by decide) (hcd : (x == ("__classdict__" : Str)) = false := by decide)
    (hfew : ((backTo cpos (starEach [e] X.env)).all (fun x => !x.1) && (backToKw cpos (keywordEach [] X.env)).all (fun x => x.1.isSome) && decide ([e].length + ([] : List Keyword).length + (if ([] : List Keyword).isEmpty then 0 else 1) < 30)) = true := by rfl)
    (hline : (apos.endLine == cpos.line) = true := by rfl) (hs : starEach [e] X.env = (false, eval e X.env) :: starEach [] X.env := by rfl) (hsw : swapsWith (.Call (.Attribute (.Name x p1) "append" apos) [e] [] cpos) none pos.line X.env = pure false := by rfl) :
    SemS N C W X (.Expr (.Call (.Attribute (.Name x p1) "append" apos) [e] [] cpos) pos) (.app i m) := ss_app i hN hv he hd hcd hfew hline hs hsw
theorem yseti (i : Nat) {x : Str} {p1 p2 pos : Pos} {ix : Expr} {mi : M} (hix : SemE C X ix mi) (he : SemE C X e m) (hN : X.N[i]? = some x := by rfl) (hv : Vis X.env.scope x := by first | exact Or.inl rfl | exact Or.inr (Or.inl rfl) | exact Or.inr (Or.inr rfl)) (hd : (x == ("__debug__" : Str)) = false := by decide) (hcd : (x == ("__classdict__" : Str)) = false := by decide)
    (ha : ∀ v, assign (.Subscript (.Name x p1) ix p2) X.env v = (do
      let ov ← holding [v] (eval (.Name x p1) X.env)
      let iv ← holding [v, ov] (eval ix X.env)
      standAt p2
      holding [v, ov, iv] (setItem ov iv v)
      release [v, ov, iv] []) := by intro _; rfl)
    (hs : swapsWithSole [.Subscript (.Name x p1) ix p2] e pos.line X.env = pure false := by rfl) (hw : swappedStores [.Subscript (.Name x p1) ix p2] e X.env = pure none := by rfl) (h1 : (assignEach [.Subscript (.Name x p1) ix p2] X.env).map (·.2) = [assign (.Subscript (.Name x p1) ix p2) X.env] := by rfl) :
    SemS N C W X (.Assign [.Subscript (.Name x p1) ix p2] e pos) (.seti i mi m) := ss_seti i hN hv he hix hd hcd ha hs hw h1
theorem ytape (i : Nat) {x : Str} {p1 p2 p3 pos : Pos} {j} (he : SemE C X e m) (hN : X.N[i]? = some x := by rfl) (hv : Vis X.env.scope x := by first | exact Or.inl rfl | exact Or.inr (Or.inl rfl) | exact Or.inr (Or.inr rfl)) (hd : (x == ("__debug__" : Str)) = false := by decide) (hcd : (x == ("__classdict__" : Str)) = false := by decide)
    (hs : swapsWithSole [.Subscript (.Name x p1) (.Constant (.int 0) j p3) p2] e pos.line X.env = pure false := by rfl) (hw : swappedStores [.Subscript (.Name x p1) (.Constant (.int 0) j p3) p2] e X.env = pure none := by rfl)
    (h1 : (assignEach [.Subscript (.Name x p1) (.Constant (.int 0) j p3) p2] X.env).map (·.2) = [assign (.Subscript (.Name x p1) (.Constant (.int 0) j p3) p2) X.env] := by rfl) :
    SemS N C W X (.Assign [.Subscript (.Name x p1) (.Constant (.int 0) j p3) p2] e pos) (.tape i m) := ss_tape i hN hv he hd hcd hs hw h1
theorem ypop0 (j i : Nat) {x y : Str} {p1 p2 pos' apos cpos pos : Pos} {kk} (hNd : X.N.Nodup) (hj : X.N[j]? = some y := by rfl) (hx : Loc X.env.scope y := by first | exact Or.inl rfl | exact Or.inr rfl) (hf : X.fn y = true ∨ X.env.scope.names.lookup y = some .local := by first | exact Or.inl rfl | exact Or.inr rfl) (hN : X.N[i]? = some x := by rfl) (hv : Vis X.env.scope x := by first | exact Or.inl rfl | exact Or.inr (Or.inl rfl) | exact Or.inr (Or.inr rfl)) (hd : (x == ("__debug__" : Str)) = false := by decide) (hcd : (x == ("__classdict__" : Str)) = false := by decide)
    (hfew : ((backTo cpos (starEach [.Constant (.int 0) kk p2] X.env)).all (fun x => !x.1) && (backToKw cpos (keywordEach [] X.env)).all (fun x => x.1.isSome) && decide ([Expr.Constant (.int 0) kk p2].length + ([] : List Keyword).length + (if ([] : List Keyword).isEmpty then 0 else 1) < 30)) = true := by rfl)
    (hline : (apos.endLine == cpos.line) = true := by rfl) (hs : swapsWith (.Call (.Attribute (.Name x p1) "pop" apos) [.Constant (.int 0) kk p2] [] cpos) (some (.Name y pos')) pos.line X.env = pure false := by rfl) :
    SemS N C W X (.Assign [.Name y pos'] (.Call (.Attribute (.Name x p1) "pop" apos) [.Constant (.int 0) kk p2] [] cpos) pos) (.pop0 j i) := ss_pop0 j i hNd hj hx hf hN hv hd hcd hfew hline hs
theorem gn (i : Nat) {x : Str} (hN : X.N.Nodup) (hi : X.N[i]? = some x := by rfl) (hx : Loc X.env.scope x := by first | exact Or.inl rfl | exact Or.inr rfl) (hf : X.fn x = true ∨ X.env.scope.names.lookup x = some .local := by first | exact Or.inl rfl | exact Or.inr rfl) : SemG X (.Name x pos) (.nm i) := sg_name i hN hi hx hf
theorem gs0 : PGs X [] (gsOf []) := pgs_nil
theorem gs1 (i : Nat) {x : Str} {is : List Nat} (hN : X.N.Nodup) (hr : PGs X es (gsOf is)) (hi : X.N[i]? = some x := by rfl) (hx : Loc X.env.scope x := by first | exact Or.inl rfl | exact Or.inr rfl) (hf : X.fn x = true ∨ X.env.scope.names.lookup x = some .local := by first | exact Or.inl rfl | exact Or.inr rfl) : PGs X (.Name x pos :: es) (gsOf (i :: is)) := pgs_cons (pg_name hN hi hx hf) hr
theorem xcall {k f np : Nat} {fa : Addr} {fd : FuncData} {ps : List Str} {x : Str} {p : Pos} (F : FnOk X.prog X.w X.K X.mg X.base CX0 k fa fd ps (spF X.K C np f)) (hr : Room k X.A) (hm : X.mg x = some (.ref fa)) (hk : PySem.W.keepIn X.K (.ref fa) = true) (hb : Binds X.K fd ps []) (ha : SemA C X (e :: es) m) (hlen : (e :: es).length = np := by rfl) (hml : argc m = np := by rfl) (hg : Gl X x := by rfl)
    (hdb : (x == ("__debug__" : Str)) = false := by decide) (he : starEach (e :: es) X.env = (false, eval e X.env) :: starEach es X.env := by rfl) (hpl : (backTo pos (starEach es X.env)).any (·.1) = false := by rfl) : SemE C X (.Call (.Name x p) (e :: es) [] pos) (.call f m) :=
  se_call F hr hg hm hk hb ha hlen (fun env t lvs t' h => by rw [evs_len m t lvs t' h, hml]) hdb he hpl
end
end Pl
namespace Pl
open PySem PySem.Spec PyProof.Rows L2
theorem fn_none {P : Program} {w : World} {K : PySem.W.Frag} {mg : Str → Option Value} {base : Heap} {C : CallF} {f np : Nat} {fa : Addr} {fd : FuncData} {ps : List Str} (h : ∀ args t, C f args t = none) (hl : ps.length = np := by rfl) : FnOk P w K mg base CX0 0 fa fd ps (spF K C np f) :=
  ⟨fun vs H Q E q => by rw [hl]; exact q.1, fun A outer s H args us vs Q E _ _ _ _ ⟨_, T, Hf, lvs, t, r, t', hc, _⟩ => by rw [h] at hc; cases hc⟩
end Pl

set_option Elab.async false
set_option linter.all false
set_option maxRecDepth 100000
set_option maxHeartbeats 1000000
/-! Pl: a law's tail: what was told is looked at, then changed, and what was handed in is looked at again; a law's whole body. -/
namespace Pl
open PySem PySem.Spec PyProof.Rows L2
/-- the three parts of what is told: a pair of lists that were not tracked in H -/
def New3 (H Hx : Hp) (v : V) : Prop := ∃ (p : Addr) (o : Obj) (vm : V) (s g r0 : Addr) (rs ws gs : List V), v = .ref p ∧ Hx p = some (.frz o (.tup [vm, .ref s, .ref g])) ∧ Hx s = some (.lst (.ref r0 :: rs)) ∧ Hx r0 = some (.lst ws) ∧ Hx g = some (.lst gs) ∧ H r0 = none ∧ H g = none ∧ ws.length + 1 < sizeLine ∧ gs.length < sizeLine
theorem New3.mono {H Hx Hy : Hp} {v : V} (h : New3 H Hx v) (e : Ex Hx Hy) : New3 H Hy v := by
  obtain ⟨p, o, vm, s, g, r0, rs, ws, gs, h1, h2, h3, h4, h5, h6⟩ := h
  exact ⟨p, o, vm, s, g, r0, rs, ws, gs, h1, e _ _ h2, e _ _ h3, e _ _ h4, e _ _ h5, h6⟩
/-- what is new about three parts, when their data are known -/
def NwL (b : Bool) (H Hx : Hp) (v : V) : Prop := ∀ g vs, v = .ref g → Hx g = some (.lst vs) → H g = none ∧ (b = true → ∀ x ∈ vs, NwV H x)
def Nw3 (H Hx : Hp) (v : V) : Prop := ∀ p o vm vs vg, v = .ref p → Hx p = some (.frz o (.tup [vm, vs, vg])) → NwL true H Hx vs ∧ NwL false H Hx vg
theorem new3_of {H Hx : Hp} {v : V} {r : PyData} (hb : new3B r = true) (hr : Rp Hx v r) (n : Nw3 H Hx v) : New3 H Hx v := by
  unfold new3B at hb
  split at hb
  · rename_i m ws rest gs
    obtain ⟨b1, b2⟩ := Bool.and_eq_true_iff.mp hb
    have b1 := of_decide_eq_true b1
    have b2 := of_decide_eq_true b2
    cases hr with
    | @tup p o xs _ h hd hs =>
      cases hs with
      | @cons vm _ _ _ hm hs =>
        cases hs with
        | @cons v1 _ _ _ h1 hs =>
          cases hs with
          | @cons v2 _ _ _ h2 hs =>
            cases hs
            obtain ⟨n1, n2⟩ := n _ _ _ _ _ rfl h
            cases h1 with
            | @lst s xs1 _ hs1 hr1 =>
              cases hr1 with
              | @cons w ws1 _ _ hw hws =>
                cases h2 with
                | @lst g xs2 _ hg hr2 =>
                  have m1 := (n1 _ _ rfl hs1).2 rfl w List.mem_cons_self
                  have m2 := (n2 _ _ rfl hg).1
                  cases hw with
                  | @lst r0 xs3 _ hr0 hr3 => exact ⟨p, o, vm, s, g, r0, ws1, xs3, xs2, rfl, h, hs1, hr0, hg, m1 _ rfl, m2, by rw [hr3.len]; exact Nat.lt_of_lt_of_le (Nat.add_lt_add_right b1 1) (by decide), by rw [hr2.len]; exact Nat.lt_of_lt_of_le b2 (by decide)⟩
  · cases hb
/-- the promise with it -/
def spN (K : PySem.W.Frag) (C : CallF) (np f : Nat) : Sp := fun vs H Q _ => vs.length = np ∧ ∃ T Hf lvs t r t', C f lvs t = some (r, t') ∧ new3B r = true ∧ Ex Hf H ∧ Hf T = none ∧ H T = some (.lst [.int t]) ∧ Paired (ArgOK K T Hf) vs lvs ∧
  ∀ v Hf' H', Ex Hf' H' → Kp T Hf H Hf' H' → H' T = some (.lst [.int t']) → Rp Hf' v r → New3 H Hf' v → Q v H'
theorem Abs.forget {K : PySem.W.Frag} {T : Addr} {H0 Hf0 Hf : Hp} {env : Env} {t : Int} {σ : L2.St} {H : Hp} (A : Abs K T H0 Hf0 Hf env t σ H) {i : Nat} {o : Option V} : Abs K T H0 Hf0 Hf (env.set i none) t (σ.set i o) H := by
  have ne : ∀ {j : Nat} {lv : LV}, (env.set i none)[j]? = some (some lv) → i ≠ j := fun {j lv} h e => by
    subst e
    have hi : i < env.length := by
      have := (List.getElem?_eq_some_iff.mp h).1
      rw [List.length_set] at this
      exact this
    rw [List.getElem?_set_self hi] at h
    cases h
  refine ⟨A.ex, A.kp, by rw [List.length_set, List.length_set]; exact A.len, fun j lv h => ?_, fun j lv a h hm hs => ?_, fun j k lv lv' a n hj mj hk mk sj sk => ?_, A.tf, A.th, A.t0⟩
  · have e := ne h
    rw [List.getElem?_set_ne e] at h
    rw [List.getElem?_set_ne e]
    exact A.loc j lv h
  · have e := ne h
    rw [List.getElem?_set_ne e] at h hs
    exact A.new j lv a h hm hs
  · have ej := ne hj
    have ek := ne hk
    rw [List.getElem?_set_ne ej] at hj sj
    rw [List.getElem?_set_ne ek] at hk sk
    exact A.sep j k lv lv' a n hj mj hk mk sj sk
def noMut (env : Env) : Prop := ∀ (i : Nat) (lv : LV), env[i]? = some (some lv) → lv.mut = false
theorem noMut_of {env : Env} (h : nomutB env = true) : noMut env := fun i lv e => by
  have := List.all_eq_true.mp h _ (List.mem_of_getElem? e)
  simpa using this
section
variable (K : PySem.W.Frag) (C : CallF) (W : Nat) (T : Addr) (H0 Hf0 : Hp)
def tTl (i : Nat) (qs : List M) (r : S) : TS := fun D σ H => ∃ (Hf : Hp) (env : Env) (t : Int) (Hx : Hp) (x : PyData) (t3 : Int) (o : Out) (v : V), Abs K T H0 Hf0 Hf (env.set i none) t σ H ∧ Abs K T H0 Hf0 Hx (env.set i (some (.d x))) t σ H ∧ Ex Hf Hx ∧ σ[i]? = some (some v) ∧ (∃ Hn, New3 Hn Hx v ∧ (∀ a, Hn a = none → Hf a = none ∧ H0 a = none ∧ a ≠ T)) ∧ noMut (env.set i none) ∧
  qtest C (env.set i (some (.d x))) qs t = some t3 ∧ exs C W r (env.set i none) t3 = some o ∧ Wants NwT K T H0 Hf0 Hf D o
end
structure SemL (C : CallF) (W : Nat) (X : Cx) (sts : List Stmt) (i : Nat) (qs : List M) (r : S) : Prop where
  run : ∀ T H0 Hf0, PSs X sts (tTl X.K C W T H0 Hf0 i qs r)
section
variable {C : CallF} {W : Nat} {X : Cx} {a b c e tg : Expr} {es : List Expr} {ma mb mc m : M} {pos : Pos} {K : PySem.W.Frag} {T : Addr} {H0 Hf0 Hf : Hp} {env : Env} {t t1 t2 : Int} {σ : L2.St} {H : Hp} {st : Stmt} {sts : List Stmt} {s1 s2 r : S} {qs : List M} {i : Nat}
theorem sl_test {body : List Stmt} {mr : S} (hc : SemT C X c mc) (hb : SemB NwT C W X body mr) (h : SemL C W X sts i qs r) : SemL C W X (.If c body [] pos :: sts) i (mc :: qs) r :=
  ⟨fun T H0 Hf0 => PSs.imp (pss_cons (ps_if (hc.run T H0 Hf0) (hb.run T H0 Hf0) pss_nil) (h.run T H0 Hf0)) fun D σ H ⟨Hf, env, t, Hx, x, t3, o, v, A, Ax, ex, hs, hn, nm, q, e, k⟩ => by
    unfold qtest at q
    split at q
    · rename_i t1 e1
      refine ⟨Hx, _, t, false, t1, Ax, e1, fun Hx1 H1 A1 k1 => iteF ?_⟩
      have kk : Kp T Hf H Hf H1 := ⟨Ex.refl _, k1.same, fun _ _ _ h => h, k1.tt⟩
      obtain ⟨Hn, n3, hn⟩ := hn
      exact ⟨Hf, env, t1, Hx1, x, t3, o, v, A.kept kk (fun a u h => k1.same a u (fun e => by
        subst e
        rw [A.tf] at h
        cases h) (A.ex a u h)) A1.th, A1, ex.trans k1.ex, hs, ⟨Hn, n3.mono k1.ex, hn⟩, nm, q, e, k⟩
    · cases q⟩
theorem frz_ne {H : Hp} {p q : Addr} {o : Obj} {u : HO} {xs : List V} (h : H p = some (.frz o u)) (h' : H q = some (.lst xs)) : p ≠ q := fun e => by
  subst e
  rw [h] at h'
  cases h'
theorem sl_mut {x : Str} {ca cb : Expr} {w1 w2 : V} {p1 p2 p3 p4 p5 p6 p7 p8 q1 q2 q3 q4 q5 q6 : Pos} {j1 j2 j3} (hN : X.N[i]? = some x) (hv : Vis X.env.scope x) (ha : PE X ca (tC w1)) (hb : PE X cb (tC w2)) (h : SemB NwT C W X sts r) (hd : (x == ("__debug__" : Str)) = false := by decide) (hcd : (x == ("__classdict__" : Str)) = false := by decide)
    (hb1 : attributeBase (.Subscript (.Subscript (.Name x p1) (.Constant (.int 1) j1 p2) p3) (.Constant (.int 0) j2 p4) p5) "append" X.env (eval (.Subscript (.Subscript (.Name x p1) (.Constant (.int 1) j1 p2) p3) (.Constant (.int 0) j2 p4) p5) X.env) = eval (.Subscript (.Subscript (.Name x p1) (.Constant (.int 1) j1 p2) p3) (.Constant (.int 0) j2 p4) p5) X.env := by rfl)
    (hf1 : ((backTo p7 (starEach [ca] X.env)).all (fun x => !x.1) && (backToKw p7 (keywordEach [] X.env)).all (fun x => x.1.isSome) && decide ([ca].length + ([] : List Keyword).length + (if ([] : List Keyword).isEmpty then 0 else 1) < 30)) = true := by rfl)
    (hl1 : (p6.endLine == p7.line) = true := by rfl) (hs1 : starEach [ca] X.env = (false, eval ca X.env) :: starEach [] X.env := by rfl) (hw1 : swapsWith (.Call (.Attribute (.Subscript (.Subscript (.Name x p1) (.Constant (.int 1) j1 p2) p3) (.Constant (.int 0) j2 p4) p5) "append" p6) [ca] [] p7) none p8.line X.env = pure false := by rfl)
    (hb2 : attributeBase (.Subscript (.Name x q1) (.Constant (.int 2) j3 q2) q3) "append" X.env (eval (.Subscript (.Name x q1) (.Constant (.int 2) j3 q2) q3) X.env) = eval (.Subscript (.Name x q1) (.Constant (.int 2) j3 q2) q3) X.env := by rfl)
    (hf2 : ((backTo q5 (starEach [cb] X.env)).all (fun x => !x.1) && (backToKw q5 (keywordEach [] X.env)).all (fun x => x.1.isSome) && decide ([cb].length + ([] : List Keyword).length + (if ([] : List Keyword).isEmpty then 0 else 1) < 30)) = true := by rfl)
    (hl2 : (q4.endLine == q5.line) = true := by rfl) (hs2 : starEach [cb] X.env = (false, eval cb X.env) :: starEach [] X.env := by rfl) (hw2 : swapsWith (.Call (.Attribute (.Subscript (.Name x q1) (.Constant (.int 2) j3 q2) q3) "append" q4) [cb] [] q5) none q6.line X.env = pure false := by rfl) :
    SemL C W X (.Expr (.Call (.Attribute (.Subscript (.Subscript (.Name x p1) (.Constant (.int 1) j1 p2) p3) (.Constant (.int 0) j2 p4) p5) "append" p6) [ca] [] p7) p8 :: .Expr (.Call (.Attribute (.Subscript (.Name x q1) (.Constant (.int 2) j3 q2) q3) "append" q4) [cb] [] q5) q6 :: sts) i [] r :=
  ⟨fun T H0 Hf0 => PSs.imp (pss_cons (ps_expr (pe_bm F.plainAttrs_list F.slot_list_append F.type_list_append mt_append (pe_ix ix_list (pe_ix ix_tup (pe_var hN hv hd hcd) pe_int (fun _ _ => rfl)) pe_int (fun _ _ => rfl)) (pa_cons ha pa_nil hs1) hb1 hf1 hl1 hs1) hw1)
    (pss_cons (ps_expr (pe_bm F.plainAttrs_list F.slot_list_append F.type_list_append mt_append (pe_ix ix_tup (pe_var hN hv hd hcd) pe_int (fun _ _ => rfl)) (pa_cons hb pa_nil hs2) hb2 hf2 hl2 hs2) hw2) (h.run T H0 Hf0))) fun D σ H ⟨Hf, env, t, Hx, x, t3, o, v, A, Ax, ex, hs, ⟨Hn, ⟨p, ob, vm, s, g, r0, rs, ws, gs, ev, g1, g2, g3, g4, n1, n2, z1, z2⟩, hn⟩, nm, q, e, k⟩ => by
      subst ev
      cases q
      have h1 := Ax.ex _ _ g1
      have h2 := Ax.ex _ _ g2
      have h3 := Ax.ex _ _ g3
      have h4 := Ax.ex _ _ g4
      obtain ⟨a1, a2, a3⟩ := hn _ n1
      obtain ⟨b1, b2, b3⟩ := hn _ n2
      have nmA : ∀ (D : Addr) (j : Nat) (lv : LV), (env.set i none)[j]? = some (some lv) → lv.mut = true → σ[j]? ≠ some (some (.ref D)) := fun D j lv hj hm => by
        rw [nm j lv hj] at hm
        cases hm
      have B1 := A.other (o := .lst (ws ++ [w1])) a3 a1 a2 (nmA r0)
      refine ⟨.ref p, hs, p, _, 1, .ref s, rfl, rfl, .inl (.inr ⟨ob, h1⟩), rfl, s, _, 0, .ref r0, rfl, rfl, SqL.of h2, atI_nat (j := 0) rfl, .inl ⟨rfl, _, SqL.of h3⟩, r0, ws, w1, rfl, rfl, h3, by omega, ?_⟩
      have e1 : upd H r0 (.lst (ws ++ [w1])) p = some (.frz ob (.tup [vm, .ref s, .ref g])) := by
        rw [upd_ne (frz_ne h1 h3)]
        exact h1
      have e2 : ∃ gs', upd H r0 (.lst (ws ++ [w1])) g = some (.lst gs') ∧ gs'.length < sizeLine := by
        by_cases hg : g = r0
        · subst hg
          exact ⟨_, upd_same, by rw [List.length_append]; exact z1⟩
        · exact ⟨gs, by rw [upd_ne hg]; exact h4, z2⟩
      obtain ⟨gs', e2, z3⟩ := e2
      refine ⟨.ref p, hs, p, _, 2, .ref g, rfl, rfl, .inl (.inr ⟨ob, e1⟩), rfl, .inl ⟨rfl, _, SqL.of e2⟩, g, gs', w2, rfl, rfl, e2, z3, ?_⟩
      exact ⟨Hf, _, _, o, B1.other b3 b1 b2 (nmA g), e, k⟩⟩
theorem sb_tail {f k np : Nat} {fa : Addr} {fd : FuncData} {ps : List Str} {x y : Str} {pos' p p3 : Pos} {r : S} {qs : List M} (F : FnOk X.prog X.w X.K X.mg X.base CX0 k fa fd ps (spN X.K C np f)) (hr : Room k X.A) (hm : X.mg x = some (.ref fa)) (hk : PySem.W.keepIn X.K (.ref fa) = true) (hb : Binds X.K fd ps [])
    (hNd : X.N.Nodup) (ha : SemA C X (e :: es) m) (hL : SemL C W X sts i qs r) (hi : X.N[i]? = some y := by rfl) (hx : Loc X.env.scope y := by first | exact Or.inl rfl | exact Or.inr rfl) (hf : X.fn y = true ∨ X.env.scope.names.lookup y = some .local := by first | exact Or.inl rfl | exact Or.inr rfl) (hml : argc m = np := by rfl) (hg : Gl X x := by rfl)
    (hdb : (x == ("__debug__" : Str)) = false := by decide) (he : starEach (e :: es) X.env = (false, eval e X.env) :: starEach es X.env := by rfl) (hpl : (backTo p (starEach es X.env)).any (·.1) = false := by rfl) (hs : swapsWith (.Call (.Name x p3) (e :: es) [] p) (some (.Name y pos')) pos.line X.env = pure false := by rfl) :
    SemB NwT C W X (.Assign [.Name y pos'] (.Call (.Name x p3) (e :: es) [] p) pos :: sts) (.tail i f m qs r) :=
  ⟨fun T H0 Hf0 => PSs.imp (pss_cons (ps_set hNd hi hx (pe_call F hr hg hm hk hb .nil pass0 (ha.run T H0 Hf0) hdb he hpl) hs hf) (hL.run T H0 Hf0)) fun D σ H ⟨Hf, env, t, o, A, e, q⟩ => by
    unfold exs at e
    split at e
    · rename_i lvs t1 e1
      split at e
      · rename_i x0 t2 e2
        split at e
        · rename_i hne
          split at e
          rotate_left
          · cases e
          rename_i t3 e3
          refine ⟨Hf, env, t, lvs, t1, A, e1, fun vs Hf1 H1 A1 k1 r1 => ?_⟩
          show spN X.K C np f (vs ++ []) H1 _ E0
          rw [List.append_nil]
          refine ⟨by rw [paired_len r1]; rw [evs_len m _ _ _ e1, hml], T, Hf1, lvs, t1, x0, t2, e2, hne.2.2, A1.ex, A1.tf, A1.th, r1, fun v Hf2 H2 ex2 k2 th rr n3 => ?_⟩
          have A2 := A1.kept k2 ex2 th
          have kk : Kp T Hf1 H1 Hf1 H2 := ⟨Ex.refl _, k2.same, fun _ _ _ h => h, k2.tt⟩
          have A3 : Abs X.K T H0 Hf0 Hf1 env t2 σ H2 := A1.kept kk (k2.ex.trans ex2) th
          exact ⟨Hf1, env, t2, Hf2, x0, t3, o, v, A3.forget, A2.set rr, k2.ex, List.getElem?_set_self (by
              have := (List.getElem?_eq_some_iff.mp hi).1
              rw [A.len]
              exact hne.2.1), ⟨H1, n3, fun a ha => A1.fresh ha⟩, noMut_of hne.1, e3, e, q.mono k1.ex⟩
        · cases e
      · cases e
    · cases e⟩
/-! ### the law's own body -/
def spLaw (K : PySem.W.Frag) : Sp := fun vs H Q _ => ∃ (a : Addr) (ns : List Int), vs = [.ref a] ∧ SqL K H a (ns.map V.int) ∧ ns.length ≤ 63 ∧ ∀ H', Q (.bl true) H'
theorem pss_any {P : Addr → Hp → Hp → TS} (h : ∀ T H0 Hf0, PSs X sts (P T H0 Hf0)) : PSs X sts (fun D σ H => ∃ T H0 Hf0, P T H0 Hf0 D σ H) := ⟨fun pins s σ H D I ⟨T, H0, Hf0, q⟩ => (h T H0 Hf0).run pins s σ H D I q⟩
def env0 (ns : List Int) (n : Nat) : Env := some (.scr ns) :: some .tp :: List.replicate (n - 2) none
theorem law_ok {P : Program} {w : World} {mg : Str → Option Value} {base : Heap} {x : Str} {st : Stmt} {f : Addr} {fd : FuncData} {N : List Str} {k n : Nat} {s : S} {pos pos' p2 p3 : Pos} {j} {sc1 tp1 : Str} {rest : List Stmt} (F : Fun K x x st f fd) (Sc : FnScope N [sc1] (defScope st)) (hst : defBody st = .Assign [.Name tp1 pos'] (.List [.Constant (.int 0) j p2] p3) pos :: rest) (hn : N.length = n) (h2 : 2 ≤ n) (hi : N[1]? = some tp1)
    (hx : Loc (defScope st) tp1)
    (hb : ∀ (cdv : Value) (A : Around) (outer : List PySem.Env) (s' : Shared) (H : Hp) (E : XK), Room k (A.deeper (envOfC x (defScope st) s'.heap.objs.size f cdv)) → SemB NwT C W (cxOf CX0 P w K mg base N x (defScope st) f cdv A outer s' H E).nox rest s)
    (hs : ∀ (cdv : Value) (A : Around) (outer : List PySem.Env) (s' : Shared) (H : Hp) (E : XK), swapsWith (.List [.Constant (.int 0) j p2] p3) (some (.Name tp1 pos')) pos.line (cxOf CX0 P w K mg base N x (defScope st) f cdv A outer s' H E).nox.env = pure false)
    (he : ∀ ns : List Int, ns.length ≤ 63 → ∃ t, exs C W s (env0 ns n) 0 = some (.rt (.bool true) t)) : FnOk P w K mg base CX0 (k + 1) f fd [sc1] (spLaw K) := by
  refine F.ok Sc (fun vs H Q E ⟨a, ns, e, _⟩ => by rw [e]; rfl) fun cdv A outer s' H vs Q E hr h => ?_
  obtain ⟨a, ns, rfl, hS, hl, q⟩ := h
  obtain ⟨t, ht⟩ := he ns hl
  rw [hst]
  refine ⟨_, pss_cons (ps_set (i := 1) Sc.nd hi hx (pe_lst (pa_cons pe_int pa_nil)) (hs cdv A outer s' H E) (.inl rfl)) (pss_any fun T H0 Hf0 => (hb cdv A outer s' H E hr).run T H0 Hf0), ?_⟩
  refine ⟨by show 1 ≤ sizeLine; decide, fun p hp => ⟨p, upd H p (.lst [.int 0]), H, H, env0 ns n, 0, _, ?_, ht, fun v Hf' H' _ _ r _ => ?_⟩⟩
  · have nm : ∀ (i : Nat) (lv : LV), (env0 ns n)[i]? = some (some lv) → (i = 0 ∧ lv = .scr ns) ∨ (i = 1 ∧ lv = .tp) := fun i lv h => by
      match i, h with
      | 0, h =>
        cases h
        exact .inl ⟨rfl, rfl⟩
      | 1, h =>
        cases h
        exact .inr ⟨rfl, rfl⟩
      | i + 2, h =>
        have h : (List.replicate (n - 2) (none : Option LV))[i]? = some (some lv) := h
        rw [List.getElem?_replicate] at h
        split at h <;> cases h
    have hlen : (L2.start N [V.ref a]).length = n := by
      unfold L2.start
      rw [List.length_append, List.length_replicate, hn]
      show 1 + (n - 1) = n
      omega
    refine ⟨Ex.new hp, Kp.refl _ _ _, ?_, fun i lv h => ?_, fun i lv a h hm _ => ?_, fun i j lv lv' a _ h hm _ _ _ _ => ?_, hp, upd_same, by rw [upd_same]; simp⟩
    · rw [List.length_set, hlen]
      unfold env0
      rw [List.length_cons, List.length_cons, List.length_replicate]
      omega
    · rcases nm i lv h with ⟨rfl, rfl⟩ | ⟨rfl, rfl⟩
      · refine ⟨.ref a, ?_, a, rfl, hS⟩
        rw [List.getElem?_set_ne (by decide)]
        rfl
      · exact ⟨.ref p, List.getElem?_set_self (by rw [hlen]; omega), rfl⟩
    · rcases nm i lv h with ⟨rfl, rfl⟩ | ⟨rfl, rfl⟩ <;> cases hm
    · rcases nm i lv h with ⟨rfl, rfl⟩ | ⟨rfl, rfl⟩ <;> cases hm
  · cases r
    exact q _
end
end Pl

set_option Elab.async false
set_option linter.all false
set_option maxRecDepth 100000
set_option maxHeartbeats 400000
/-! Pl: loops and places of plain data. -/
namespace Pl
open PySem L2
/-! ### one step of reckoning each -/
section
variable {C : CallF} {W : Nat} {env : Env} {t : Int}
def lp (C : CallF) (W : Nat) (b : S) : Env → Int → Option Out := fun env t => exs C W b env t
def wc (C : CallF) (c : M) : Env → Int → Option (PyData × Int) := fun env t => ev C env c t
@[simp] theorem x_var {i : Nat} : ev C env (.var i) t = match env[i]? with | some (some (.d x)) => some (x, t) | _ => none := by rw [ev] <;> rfl
@[simp] theorem x_bor {i : Nat} : ev C env (.bor i) t = match env[i]? with | some (some (.d x)) => some (x, t) | some (some (.own xs)) => some (.list xs, t) | some (some (.scr ns)) => some (.list (ns.map .int), t) | _ => none := by rw [ev] <;> rfl
@[simp] theorem x_tape {i : Nat} : ev C env (.tape i) t = match env[i]? with | some (some .tp) => some (.int t, t) | _ => none := by rw [ev] <;> rfl
@[simp] theorem x_lit {d : PyData} : ev C env (.lit d) t = some (d, t) := by rw [ev] <;> rfl
@[simp] theorem x_bin {o : Op2} {a b : M} : ev C env (.bin o a b) t = match ev C env a t with | some (x, t1) => (match ev C env b t1 with | some (y, t2) => (binD o x y).map (·, t2) | none => none) | none => none := by rw [ev] <;> rfl
@[simp] theorem x_cmp {o : Cm} {a b : M} : ev C env (.cmp o a b) t = match ev C env a t with | some (x, t1) => (match ev C env b t1 with | some (y, t2) => (cmpD o x y).map (PyData.bool ·, t2) | none => none) | none => none := by rw [ev] <;> rfl
@[simp] theorem x_idx {a b : M} : ev C env (.idx a b) t = match ev C env a t with | some (x, t1) => (match ev C env b t1 with | some (y, t2) => (idxD x y).map (·, t2) | none => none) | none => none := by rw [ev] <;> rfl
@[simp] theorem x_index {a b : M} : ev C env (.index a b) t = match ev C env a t with | some (x, t1) => (match ev C env b t1 with | some (y, t2) => (indexD x y).map (·, t2) | none => none) | none => none := by rw [ev] <;> rfl
@[simp] theorem x_join {a b : M} : ev C env (.join a b) t = match ev C env a t with | some (x, t1) => (match ev C env b t1 with | some (y, t2) => (joinD x y).map (·, t2) | none => none) | none => none := by rw [ev] <;> rfl
@[simp] theorem x_isN {n : Bool} {a : M} : ev C env (.isN n a) t = match ev C env a t with | some (x, t1) => some (.bool (if n then !isNone x else isNone x), t1) | none => none := by rw [ev] <;> rfl
@[simp] theorem x_and {a b : M} : ev C env (.and a b) t = match ev C env a t with | some (.bool true, t1) => ev C env b t1 | some (.bool false, t1) => some (.bool false, t1) | _ => none := by rw [ev] <;> rfl
@[simp] theorem x_or {a b : M} : ev C env (.or a b) t = match ev C env a t with | some (.bool false, t1) => ev C env b t1 | some (.bool true, t1) => some (.bool true, t1) | _ => none := by rw [ev] <;> rfl
@[simp] theorem x_not {a : M} : ev C env (.not a) t = match ev C env a t with | some (.bool b, t1) => some (.bool !b, t1) | _ => none := by rw [ev] <;> rfl
@[simp] theorem x_neg {a : M} : ev C env (.neg a) t = match ev C env a t with | some (.int i, t1) => some (.int (-i), t1) | _ => none := by rw [ev] <;> rfl
@[simp] theorem x_part {a : M} : ev C env (.part a) t = match ev C env a t with | some (.int i, t1) => some (.int i, t1) | _ => none := by rw [ev] <;> rfl
@[simp] theorem x_slc {a lo hi : M} : ev C env (.slc a lo hi) t = match ev C env a t with | some (x, t1) => (match ev C env lo t1 with | some (l, t2) => (match ev C env hi t2 with | some (h, t3) => (match partD l, partD h with | some l2, some h2 => (slcD x l2 h2).map (·, t3) | _, _ => none) | none => none) | none => none) | none => none := by rw [ev] <;> rfl
@[simp] theorem x_tup {l : M} : ev C env (.tup l) t = match evs C env l t with | some (lvs, t1) => (match dsOf lvs with | some ds => if ds.length ≤ 1000 then some (.tuple ds, t1) else none | none => none) | none => none := by rw [ev] <;> rfl
@[simp] theorem x_lst {l : M} : ev C env (.lst l) t = match evs C env l t with | some (lvs, t1) => (match dsOf lvs with | some ds => if ds.length ≤ 1000 then some (.list ds, t1) else none | none => none) | none => none := by rw [ev] <;> rfl
@[simp] theorem x_call {f : Nat} {l : M} : ev C env (.call f l) t = match evs C env l t with | some (lvs, t1) => C f lvs t1 | none => none := by rw [ev] <;> rfl
@[simp] theorem x_blt {b : Bl} {l : M} : ev C env (.blt b l) t = match evs C env l t with | some (lvs, t1) => (match dsOf lvs with | some ds => (bltD b ds).map (·, t1) | none => none) | none => none := by rw [ev] <;> rfl
@[simp] theorem x_lc {k : IK} {it c e : M} {tg : Tg} {vs : List Nat} : ev C env (.lc k it tg vs c e) t = match ev C env it t with | some (x, t1) => (match itemsD k x with | some xs => if xs.length < sizeLine then (lcLoop (lcF C env vs tg c e) xs t1).map (fun r => (PyData.list r.1, r.2)) else none | none => none) | none => none := by rw [ev] <;> rfl
@[simp] theorem x_nil : evs C env .nil t = some ([], t) := by rw [evs] <;> rfl
@[simp] theorem x_pass {i : Nat} {b : M} : evs C env (.cons (.tape i) b) t = match env[i]? with | some (some .tp) => (match evs C env b t with | some (r, t2) => some (.tp :: r, t2) | none => none) | some (some (.scr ns)) => (match evs C env b t with | some (r, t2) => some (.scr ns :: r, t2) | none => none) | some (some (.gd kvs)) => (match evs C env b t with | some (r, t2) => some (.gd kvs :: r, t2) | none => none) | _ => none := by rw [evs] <;> rfl
@[simp] theorem x_c_var {i : Nat} {b : M} : evs C env (.cons (.var i) b) t = match ev C env (.var i) t with | some (dd, t1) => (match evs C env b t1 with | some (r, t2) => some (.d dd :: r, t2) | none => none) | none => none := by rw [evs] <;> first | rfl | (intro i h; cases h) | (intro h; cases h)
@[simp] theorem x_c_bor {i : Nat} {b : M} : evs C env (.cons (.bor i) b) t = match ev C env (.bor i) t with | some (dd, t1) => (match evs C env b t1 with | some (r, t2) => some (.d dd :: r, t2) | none => none) | none => none := by rw [evs] <;> first | rfl | (intro i h; cases h) | (intro h; cases h)
@[simp] theorem x_c_lit {d : PyData} {b : M} : evs C env (.cons (.lit d) b) t = match ev C env (.lit d) t with | some (dd, t1) => (match evs C env b t1 with | some (r, t2) => some (.d dd :: r, t2) | none => none) | none => none := by rw [evs] <;> first | rfl | (intro i h; cases h) | (intro h; cases h)
@[simp] theorem x_c_bin {o : Op2} {x : M} {y : M} {b : M} : evs C env (.cons (.bin o x y) b) t = match ev C env (.bin o x y) t with | some (dd, t1) => (match evs C env b t1 with | some (r, t2) => some (.d dd :: r, t2) | none => none) | none => none := by rw [evs] <;> first | rfl | (intro i h; cases h) | (intro h; cases h)
@[simp] theorem x_c_cmp {o : Cm} {x : M} {y : M} {b : M} : evs C env (.cons (.cmp o x y) b) t = match ev C env (.cmp o x y) t with | some (dd, t1) => (match evs C env b t1 with | some (r, t2) => some (.d dd :: r, t2) | none => none) | none => none := by rw [evs] <;> first | rfl | (intro i h; cases h) | (intro h; cases h)
@[simp] theorem x_c_isN {n : Bool} {x : M} {b : M} : evs C env (.cons (.isN n x) b) t = match ev C env (.isN n x) t with | some (dd, t1) => (match evs C env b t1 with | some (r, t2) => some (.d dd :: r, t2) | none => none) | none => none := by rw [evs] <;> first | rfl | (intro i h; cases h) | (intro h; cases h)
@[simp] theorem x_c_and {x : M} {y : M} {b : M} : evs C env (.cons (.and x y) b) t = match ev C env (.and x y) t with | some (dd, t1) => (match evs C env b t1 with | some (r, t2) => some (.d dd :: r, t2) | none => none) | none => none := by rw [evs] <;> first | rfl | (intro i h; cases h) | (intro h; cases h)
@[simp] theorem x_c_or {x : M} {y : M} {b : M} : evs C env (.cons (.or x y) b) t = match ev C env (.or x y) t with | some (dd, t1) => (match evs C env b t1 with | some (r, t2) => some (.d dd :: r, t2) | none => none) | none => none := by rw [evs] <;> first | rfl | (intro i h; cases h) | (intro h; cases h)
@[simp] theorem x_c_not {x : M} {b : M} : evs C env (.cons (.not x) b) t = match ev C env (.not x) t with | some (dd, t1) => (match evs C env b t1 with | some (r, t2) => some (.d dd :: r, t2) | none => none) | none => none := by rw [evs] <;> first | rfl | (intro i h; cases h) | (intro h; cases h)
@[simp] theorem x_c_neg {x : M} {b : M} : evs C env (.cons (.neg x) b) t = match ev C env (.neg x) t with | some (dd, t1) => (match evs C env b t1 with | some (r, t2) => some (.d dd :: r, t2) | none => none) | none => none := by rw [evs] <;> first | rfl | (intro i h; cases h) | (intro h; cases h)
@[simp] theorem x_c_ite {x : M} {y : M} {z : M} {b : M} : evs C env (.cons (.ite x y z) b) t = match ev C env (.ite x y z) t with | some (dd, t1) => (match evs C env b t1 with | some (r, t2) => some (.d dd :: r, t2) | none => none) | none => none := by rw [evs] <;> first | rfl | (intro i h; cases h) | (intro h; cases h)
@[simp] theorem x_c_idx {x : M} {y : M} {b : M} : evs C env (.cons (.idx x y) b) t = match ev C env (.idx x y) t with | some (dd, t1) => (match evs C env b t1 with | some (r, t2) => some (.d dd :: r, t2) | none => none) | none => none := by rw [evs] <;> first | rfl | (intro i h; cases h) | (intro h; cases h)
@[simp] theorem x_c_slc {x : M} {y : M} {z : M} {b : M} : evs C env (.cons (.slc x y z) b) t = match ev C env (.slc x y z) t with | some (dd, t1) => (match evs C env b t1 with | some (r, t2) => some (.d dd :: r, t2) | none => none) | none => none := by rw [evs] <;> first | rfl | (intro i h; cases h) | (intro h; cases h)
@[simp] theorem x_c_part {x : M} {b : M} : evs C env (.cons (.part x) b) t = match ev C env (.part x) t with | some (dd, t1) => (match evs C env b t1 with | some (r, t2) => some (.d dd :: r, t2) | none => none) | none => none := by rw [evs] <;> first | rfl | (intro i h; cases h) | (intro h; cases h)
@[simp] theorem x_c_tup {x : M} {b : M} : evs C env (.cons (.tup x) b) t = match ev C env (.tup x) t with | some (dd, t1) => (match evs C env b t1 with | some (r, t2) => some (.d dd :: r, t2) | none => none) | none => none := by rw [evs] <;> first | rfl | (intro i h; cases h) | (intro h; cases h)
@[simp] theorem x_c_lst {x : M} {b : M} : evs C env (.cons (.lst x) b) t = match ev C env (.lst x) t with | some (dd, t1) => (match evs C env b t1 with | some (r, t2) => some (.d dd :: r, t2) | none => none) | none => none := by rw [evs] <;> first | rfl | (intro i h; cases h) | (intro h; cases h)
@[simp] theorem x_c_call {f : Nat} {x : M} {b : M} : evs C env (.cons (.call f x) b) t = match ev C env (.call f x) t with | some (dd, t1) => (match evs C env b t1 with | some (r, t2) => some (.d dd :: r, t2) | none => none) | none => none := by rw [evs] <;> first | rfl | (intro i h; cases h) | (intro h; cases h)
@[simp] theorem x_c_blt {bb : Bl} {x : M} {b : M} : evs C env (.cons (.blt bb x) b) t = match ev C env (.blt bb x) t with | some (dd, t1) => (match evs C env b t1 with | some (r, t2) => some (.d dd :: r, t2) | none => none) | none => none := by rw [evs] <;> first | rfl | (intro i h; cases h) | (intro h; cases h)
@[simp] theorem x_c_index {x : M} {y : M} {b : M} : evs C env (.cons (.index x y) b) t = match ev C env (.index x y) t with | some (dd, t1) => (match evs C env b t1 with | some (r, t2) => some (.d dd :: r, t2) | none => none) | none => none := by rw [evs] <;> first | rfl | (intro i h; cases h) | (intro h; cases h)
@[simp] theorem x_c_join {x : M} {y : M} {b : M} : evs C env (.cons (.join x y) b) t = match ev C env (.join x y) t with | some (dd, t1) => (match evs C env b t1 with | some (r, t2) => some (.d dd :: r, t2) | none => none) | none => none := by rw [evs] <;> first | rfl | (intro i h; cases h) | (intro h; cases h)
@[simp] theorem x_c_dlen {i : Nat} {b : M} : evs C env (.cons (.dlen i) b) t = match ev C env (.dlen i) t with | some (dd, t1) => (match evs C env b t1 with | some (r, t2) => some (.d dd :: r, t2) | none => none) | none => none := by rw [evs] <;> first | rfl | (intro i h; cases h) | (intro h; cases h)
@[simp] theorem x_c_din {n : Bool} {i : Nat} {x : M} {b : M} : evs C env (.cons (.din n i x) b) t = match ev C env (.din n i x) t with | some (dd, t1) => (match evs C env b t1 with | some (r, t2) => some (.d dd :: r, t2) | none => none) | none => none := by rw [evs] <;> first | rfl | (intro i h; cases h) | (intro h; cases h)
@[simp] theorem x_c_dget {i : Nat} {x : M} {b : M} : evs C env (.cons (.dget i x) b) t = match ev C env (.dget i x) t with | some (dd, t1) => (match evs C env b t1 with | some (r, t2) => some (.d dd :: r, t2) | none => none) | none => none := by rw [evs] <;> first | rfl | (intro i h; cases h) | (intro h; cases h)
@[simp] theorem x_c_lc {k : IK} {x : M} {tg : Tg} {vs : List Nat} {y : M} {z : M} {b : M} : evs C env (.cons (.lc k x tg vs y z) b) t = match ev C env (.lc k x tg vs y z) t with | some (dd, t1) => (match evs C env b t1 with | some (r, t2) => some (.d dd :: r, t2) | none => none) | none => none := by rw [evs] <;> first | rfl | (intro i h; cases h) | (intro h; cases h)
@[simp] theorem x_lrange {a : M} : ev C env (.lrange a) t = match ev C env a t with | some (.int n, t1) => if 0 ≤ n ∧ n.toNat < 1000000 then some (.list ((List.range n.toNat).map fun i => .int (i : Nat)), t1) else none | _ => none := by rw [ev] <;> rfl
@[simp] theorem x_dsorted {i : Nat} : ev C env (.dsorted i) t = match dictAt env i with | some kvs => (match intKeys kvs with | some ks => if ks.length < 64 then some (.list ((sortI ks).map .int), t) else none | none => none) | none => none := by rw [ev] <;> rfl
@[simp] theorem x_sset {a : M} : ev C env (.sset a) t = match ev C env a t with | some (.list xs, t1) => (match intsOf xs with | some ns => if ns.length < 63 then some (.list ((sortI (dedupI ns)).map .int), t1) else none | none => none) | _ => none := by rw [ev] <;> rfl
@[simp] theorem x_dlen {i : Nat} : ev C env (.dlen i) t = (dictAt env i).map fun kvs => (PyData.int kvs.length, t) := by rw [ev] <;> rfl
@[simp] theorem x_din {n : Bool} {i : Nat} {a : M} : ev C env (.din n i a) t = match ev C env a t with | some (x, t1) => (match dictAt env i, keyD x with | some kvs, some k => some (PyData.bool (if n then !(lookD kvs k).isSome else (lookD kvs k).isSome), t1) | _, _ => none) | none => none := by rw [ev] <;> rfl
@[simp] theorem x_dget {i : Nat} {a : M} : ev C env (.dget i a) t = match ev C env a t with | some (x, t1) => (match dictAt env i, keyD x with | some kvs, some k => (lookD kvs k).map (·, t1) | _, _ => none) | none => none := by rw [ev] <;> rfl
@[simp] theorem x_dgetN {i : Nat} {a : M} : ev C env (.dgetN i a) t = match env[i]? with | some (some (.dk true _)) => (match ev C env a t with | some (x, t1) => (match dictAt env i, keyD x with | some kvs, some k => (lookD kvs k).map (·, t1) | _, _ => none) | none => none) | _ => none := by rw [ev] <;> rfl
@[simp] theorem x_c_dgetN {i : Nat} {x : M} {b : M} : evs C env (.cons (.dgetN i x) b) t = match ev C env (.dgetN i x) t with | some (dd, t1) => (match evs C env b t1 with | some (r, t2) => some (.d dd :: r, t2) | none => none) | none => none := by rw [evs] <;> first | rfl | (intro i h; cases h) | (intro h; cases h)
@[simp] theorem x_c_dsorted {i : Nat} {b : M} : evs C env (.cons (.dsorted i) b) t = match ev C env (.dsorted i) t with | some (dd, t1) => (match evs C env b t1 with | some (r, t2) => some (.d dd :: r, t2) | none => none) | none => none := by rw [evs] <;> first | rfl | (intro i h; cases h) | (intro h; cases h)
@[simp] theorem x_c_edict {b : M} : evs C env (.cons .edict b) t = match evs C env b t with | some (r, t2) => some (.gd [] :: r, t2) | none => none := by rw [evs] <;> rfl
@[simp] theorem x_nop : exs C W .nop env t = some (.nx env t) := by rw [exs] <;> rfl
@[simp] theorem x_seq {a b : S} : exs C W (.seq a b) env t = match exs C W a env t with | some (.nx env1 t1) => exs C W b env1 t1 | o => o := by rw [exs] <;> rfl
@[simp] theorem x_asg {tg : Tg} {e : M} : exs C W (.asg tg e) env t = match ev C env e t with | some (d, t1) => (setTg tg d env).map fun env1 => Out.nx env1 t1 | none => none := by rw [exs] <;> rfl
@[simp] theorem x_own {i : Nat} {l : M} : exs C W (.own i l) env t = match evs C env l t with | some (lvs, t1) => (match dsOf lvs with | some ds => if ds.length ≤ 1000 ∧ i < env.length then some (.nx (env.set i (some (.own ds))) t1) else none | none => none) | none => none := by rw [exs] <;> rfl
@[simp] theorem x_app {i : Nat} {e : M} : exs C W (.app i e) env t = match ev C env e t with | some (d, t1) => (match ownAt env i with | some xs => if xs.length < sizeLine then some (.nx (env.set i (some (.own (xs ++ [d])))) t1) else none | none => none) | none => none := by rw [exs] <;> rfl
@[simp] theorem x_seti {i : Nat} {ix e : M} : exs C W (.seti i ix e) env t = match ev C env e t with | some (d, t1) => (match ev C env ix t1 with | some (.int k, t2) => (match ownAt env i with | some xs => (ixN xs.length k).map fun j => Out.nx (env.set i (some (.own (xs.set j d)))) t2 | none => none) | _ => none) | none => none := by rw [exs] <;> rfl
@[simp] theorem x_pop0 {j i : Nat} : exs C W (.pop0 j i) env t = match ownAt env i with | some (x :: xs) => if i ≠ j then some (.nx ((env.set i (some (.own xs))).set j (some (.d x))) t) else none | _ => none := by rw [exs] <;> rfl
@[simp] theorem x_stape {i : Nat} {e : M} : exs C W (.tape i e) env t = match ev C env e t with | some (.int n, t1) => (match env[i]? with | some (some .tp) => some (.nx env n) | _ => none) | _ => none := by rw [exs] <;> rfl
@[simp] theorem x_frz {i : Nat} : exs C W (.frz i) env t = match ownAt env i with | some xs => some (.nx (env.set i (some (.d (.list xs)))) t) | none => none := by rw [exs] <;> rfl
@[simp] theorem x_ife {c : M} {a b : S} : exs C W (.ife c a b) env t = match ev C env c t with | some (.bool true, t1) => exs C W a env t1 | some (.bool false, t1) => exs C W b env t1 | _ => none := by rw [exs] <;> rfl
@[simp] theorem x_for {k : IK} {it : M} {tg : Tg} {b : S} : exs C W (.for k it tg b) env t = match ev C env it t with | some (x, t1) => (match itemsD k x with | some xs => forL (lp C W b) tg xs env t1 | none => none) | none => none := by rw [exs] <;> rfl
@[simp] theorem x_forG {i : Nat} {tg : Tg} {b : S} : exs C W (.forG i tg b) env t = forO (lp C W b) tg i W 0 env t := by rw [exs] <;> rfl
@[simp] theorem x_while {c : M} {b : S} : exs C W (.while c b) env t = whl (wc C c) (lp C W b) W env t := by rw [exs] <;> rfl
@[simp] theorem x_ret {e : M} : exs C W (.ret e) env t = match ev C env e t with | some (d, t1) => some (.rt d t1) | none => none := by rw [exs] <;> rfl
@[simp] theorem x_drop {e : M} : exs C W (.drop e) env t = match ev C env e t with | some (_, t1) => some (.nx env t1) | none => none := by rw [exs] <;> rfl
@[simp] theorem x_new0 {i : Nat} {b : Bool} : exs C W (.new0 i b) env t = if i < env.length then some (.nx (env.set i (some (if b then .dt [] else .dk false []))) t) else none := by rw [exs] <;> rfl
@[simp] theorem x_newK {i : Nat} {k v : M} : exs C W (.newK i k v) env t = match ev C env k t with | some (x, t1) => (match ev C env v t1 with | some (y, t2) => (match keyD x with | some key => if i < env.length ∧ (flatD y || isListD y) = true then some (.nx (env.set i (some (.dk true [(key, y)]))) t2) else none | none => none) | none => none) | none => none := by rw [exs] <;> rfl
@[simp] theorem x_newD {i j : Nat} : exs C W (.newD i j) env t = match env[j]? with | some (some (.gd kvs)) => if i < env.length then some (.nx (env.set i (some (.dk false kvs))) t) else none | _ => none := by rw [exs] <;> rfl
@[simp] theorem x_frzD {i : Nat} : exs C W (.frzD i) env t = match env[i]? with | some (some (.dk _ kvs)) => some (.nx (env.set i (some (.gd kvs))) t) | _ => none := by rw [exs] <;> rfl
@[simp] theorem x_dput {i : Nat} {k e : M} : exs C W (.dput i k e) env t = match ev C env e t with | some (y, t1) => (match ev C env k t1 with | some (x, t2) => (match env[i]? with | some (some (.dk n kvs)) => (match keyD x with | some key => if kvs.length < sizeLine ∧ (!n || flatD y) = true then some (.nx (env.set i (some (.dk n (putD kvs key y)))) t2) else none | none => none) | _ => none) | none => none) | none => none := by rw [exs] <;> rfl
@[simp] theorem x_dputN {i : Nat} {k e : M} : exs C W (.dputN i k e) env t = match ev C env e t with | some (y, t1) => (match ev C env k t1 with | some (x, t2) => (match env[i]? with | some (some (.dk n kvs)) => (match keyD x with | some key => if kvs.length < sizeLine ∧ isListD y = true then some (.nx (env.set i (some (.dk n (putD kvs key y)))) t2) else none | none => none) | _ => none) | none => none) | none => none := by rw [exs] <;> rfl
@[simp] theorem x_whileL {i : Nat} {b : S} : exs C W (.whileL i b) env t = whl (fun env t => (ownAt env i).map fun xs => (PyData.bool (!xs.isEmpty), t)) (lp C W b) W env t := by rw [exs] <;> rfl
@[simp] theorem x_tail {i f : Nat} {l : M} {qs : List M} {r : S} : exs C W (.tail i f l qs r) env t = match evs C env l t with | some (lvs, t1) => (match C f lvs t1 with | some (x, t2) => if nomutB (env.set i none) = true ∧ i < env.length ∧ new3B x = true then (match qtest C (env.set i (some (.d x))) qs t2 with | some t3 => exs C W r (env.set i none) t3 | none => none) else none | none => none) | none => none := by rw [exs] <;> rfl
@[simp] theorem x_tail2 {i f : Nat} {l c : M} {qs : List M} {r1 r2 : S} : exs C W (.tail2 i f l qs c r1 r2) env t = match evs C env l t with | some (lvs, t1) => (match C f lvs t1 with | some (x, t2) => if nomutB (env.set i none) = true ∧ i < env.length ∧ new2B x = true then (match qtest C (env.set i (some (.d x))) qs t2 with | some t3 => tail2 C W c r1 r2 (env.set i none) (env.set i (some (.d x))) t3 | none => none) else none | none => none) | none => none := by rw [exs] <;> rfl
theorem x_tail2e {c : M} {r1 r2 : S} {env1 env2 : Env} : tail2 C W c r1 r2 env1 env2 t = match ev C env2 c t with | some (.bool true, t4) => (match exs C W r1 env1 t4 with | some (.rt d t5) => some (.rt d t5) | _ => none) | some (.bool false, t4) => exs C W r2 env2 t4 | _ => none := rfl
@[simp] theorem x_never : exs C W .never env t = none := by rw [exs] <;> rfl
@[simp] theorem x_q0 : qtest C env [] t = some t := by rw [qtest] <;> rfl
@[simp] theorem x_q1 {c : M} {r : List M} : qtest C env (c :: r) t = match ev C env c t with | some (.bool false, t1) => qtest C env r t1 | _ => none := by rw [qtest] <;> rfl
@[simp] theorem x_run {fm : FnM} {args : List LV} : runF C W fm args t = if args.length = fm.np then (match exs C W fm.body (args.map some ++ List.replicate (fm.n - fm.np) none) t with | some (.rt d t2) => some (d, t2) | some (.nx _ t2) => some (.none, t2) | none => none) else none := by rw [runF] <;> rfl
@[simp] theorem x_lcF {vs : List Nat} {tg : Tg} {c e : M} {y : PyData} : lcF C env vs tg c e y t = match setTg tg y (wipeE env vs) with | some env2 => (match ev C env2 c t with | some (.bool true, t2) => (match ev C env2 e t2 with | some (z, t3) => some (some z, t3) | none => none) | some (.bool false, t2) => some (none, t2) | _ => none) | none => none := by rfl
theorem x_lp {b : S} : lp C W b env t = exs C W b env t := rfl
theorem x_wc {c : M} : wc C c env t = ev C env c t := rfl
@[simp] theorem x_own1 {i : Nat} : ownAt env i = match env[i]? with | some (some (.own xs)) => some xs | _ => none := rfl
end
theorem atI_ok {α : Type} {xs : List α} {i : Int} (h0 : 0 ≤ i) (h : i < xs.length) : atI xs i = some (xs[i.toNat]'(by omega)) := by
  obtain ⟨n, rfl⟩ : ∃ n : Nat, i = (n : Int) := ⟨i.toNat, by omega⟩
  have hn : n < xs.length := by omega
  simpa using atI_nat (List.getElem?_eq_getElem hn)
theorem atI_some {α : Type} {xs : List α} {i : Int} (h0 : 0 ≤ i) (h : i < xs.length) : ∃ x, atI xs i = some x ∧ x ∈ xs := ⟨_, atI_ok h0 h, List.getElem_mem _⟩
/-- a loop whose turns all go on -/
theorem forL_ok {f : Env → Int → Option Out} {tg : Tg} (I : Nat → Env → Int → Prop) : ∀ (xs : List PyData) (env : Env) (t : Int) (n : Nat), I n env t →
    (∀ i d env t, xs[i]? = some d → I (n + i) env t → ∃ env1 env2 t2, setTg tg d env = some env1 ∧ f env1 t = some (.nx env2 t2) ∧ I (n + i + 1) env2 t2) →
    ∃ env' t', forL f tg xs env t = some (.nx env' t') ∧ I (n + xs.length) env' t'
  | [], env, t, n, h, _ => ⟨env, t, rfl, h⟩
  | x :: xs, env, t, n, h, st => by
    obtain ⟨env1, env2, t2, h1, h2, h3⟩ := st 0 x env t rfl h
    obtain ⟨env', t', h4, h5⟩ := forL_ok I xs env2 t2 (n + 1) h3 fun i d env t hd hi => by
      have := st (i + 1) d env t (by simpa using hd) (by rw [show n + (i + 1) = n + 1 + i by omega]; exact hi)
      rw [show n + (i + 1) + 1 = n + 1 + i + 1 by omega] at this
      exact this
    refine ⟨env', t', ?_, by rw [List.length_cons, show n + (xs.length + 1) = n + 1 + xs.length by omega]; exact h5⟩
    unfold forL
    rw [h1]
    simp only [h2]
    exact h4
theorem forL_ok0 {f : Env → Int → Option Out} {tg : Tg} (I : Nat → Env → Int → Prop) {xs : List PyData} {env : Env} {t : Int} (h : I 0 env t)
    (st : ∀ i d env t, xs[i]? = some d → I i env t → ∃ env1 env2 t2, setTg tg d env = some env1 ∧ f env1 t = some (.nx env2 t2) ∧ I (i + 1) env2 t2) :
    ∃ env' t', forL f tg xs env t = some (.nx env' t') ∧ I xs.length env' t' := by
  obtain ⟨e, t', h1, h2⟩ := forL_ok I xs env t 0 h fun i d env t hd hi => by
    rw [Nat.zero_add] at hi
    obtain ⟨a, b, c, d, e, f⟩ := st i d env t hd hi
    exact ⟨a, b, c, d, e, by rw [Nat.zero_add]; exact f⟩
  exact ⟨e, t', h1, by rw [Nat.zero_add] at h2; exact h2⟩
/-- a comprehension that keeps every item -/
theorem lcLoop_ok {f : PyData → Int → Option (Option PyData × Int)} (I : Nat → Int → List PyData → Prop) : ∀ (xs : List PyData) (t : Int) (n : Nat) (acc : List PyData), I n t acc →
    (∀ i d t acc, xs[i]? = some d → I (n + i) t acc → ∃ y t2, f d t = some (some y, t2) ∧ I (n + i + 1) t2 (acc ++ [y])) →
    ∃ ys t', lcLoop f xs t = some (ys, t') ∧ I (n + xs.length) t' (acc ++ ys)
  | [], t, n, acc, h, _ => ⟨[], t, rfl, by simpa using h⟩
  | x :: xs, t, n, acc, h, st => by
    obtain ⟨y, t2, h1, h2⟩ := st 0 x t acc rfl h
    obtain ⟨ys, t', h4, h5⟩ := lcLoop_ok I xs t2 (n + 1) (acc ++ [y]) h2 fun i d t acc hd hi => by
      have := st (i + 1) d t acc (by simpa using hd) (by rw [show n + (i + 1) = n + 1 + i by omega]; exact hi)
      rw [show n + (i + 1) + 1 = n + 1 + i + 1 by omega] at this
      exact this
    refine ⟨y :: ys, t', ?_, by rw [List.length_cons, show n + (xs.length + 1) = n + 1 + xs.length by omega, show acc ++ y :: ys = acc ++ [y] ++ ys by simp]; exact h5⟩
    unfold lcLoop
    rw [h1]
    simp only [h4]
/-- a comprehension that draws nothing -/
theorem lcLoop_map {f : PyData → Int → Option (Option PyData × Int)} {g : PyData → PyData} : ∀ (xs : List PyData) (t : Int), (∀ d ∈ xs, f d t = some (some (g d), t)) → lcLoop f xs t = some (xs.map g, t)
  | [], t, _ => rfl
  | x :: xs, t, h => by
    unfold lcLoop
    rw [h x List.mem_cons_self]
    simp only [lcLoop_map xs t fun d hd => h d (List.mem_cons_of_mem _ hd), List.map_cons]
end Pl
namespace Pl
open PySem L2
theorem lc_range {f : PyData → Int → Option (Option PyData × Int)} {g : Nat → PyData} (n : Nat) (t : Int) (h : ∀ i, i < n → f (.int (i : Nat)) t = some (some (g i), t)) :
    lcLoop f ((List.range n).map fun i => PyData.int (i : Nat)) t = some ((List.range n).map g, t) := by
  have main : ∀ is : List Nat, (∀ i ∈ is, i < n) → lcLoop f (is.map fun i => PyData.int (i : Nat)) t = some (is.map g, t) := by
    intro is
    induction is with
    | nil => intro _; rfl
    | cons i r ih =>
      intro hi
      rw [List.map_cons, List.map_cons]
      unfold lcLoop
      rw [h i (hi i List.mem_cons_self)]
      simp only [ih fun j hj => hi j (List.mem_cons_of_mem _ hj)]
  exact main _ fun i hi => List.mem_range.mp hi
/-- the same, where the turns draw: i draws at turn i -/
theorem lc_rangeT {f : PyData → Int → Option (Option PyData × Int)} {g : Nat → PyData} (c : Int) : ∀ (n : Nat) (s : Nat) (t : Int), (∀ i, i < n → f (.int ((s + i : Nat))) (t + c * i) = some (some (g (s + i)), t + c * (i + 1))) →
    lcLoop f ((List.range' s n).map fun i => PyData.int (i : Nat)) t = some ((List.range' s n).map g, t + c * n)
  | 0, s, t, _ => by simp [lcLoop]
  | n + 1, s, t, h => by
    have h0 := h 0 (by omega)
    have ih := lc_rangeT c n (s + 1) (t + c) fun i hi => by
      have := h (i + 1) (by omega)
      rw [show s + 1 + i = s + (i + 1) by omega, show t + c + c * (i : Int) = t + c * ((i + 1 : Nat) : Int) by push_cast; rw [Int.mul_add]; omega, show t + c + c * ((i : Int) + 1) = t + c * (((i + 1 : Nat) : Int) + 1) by push_cast; rw [Int.mul_add, Int.mul_add, Int.mul_add]; omega]
      exact this
    rw [List.range'_succ, List.map_cons, List.map_cons]
    unfold lcLoop
    simp at h0
    simp only [h0]
    rw [ih]
    simp only [Option.some.injEq, Prod.mk.injEq, true_and]
    push_cast
    rw [Int.mul_add]
    omega
/-! ### marks, machines -/
def OkMark (d : PyData) : Prop := d.canLay0 = true ∧ d.depth ≤ 2
theorem okMarks_lay : ∀ {ds : List PyData}, (∀ d ∈ ds, OkMark d) → PyData.canLayAll0 ds = true ∧ PyData.depthAll ds ≤ 2
  | [], _ => by simp [PyData.canLayAll0, PyData.depthAll]
  | d :: ds, h => by
    obtain ⟨h1, h2⟩ := okMarks_lay fun e he => h e (List.mem_cons_of_mem _ he)
    obtain ⟨h3, h4⟩ := h d List.mem_cons_self
    constructor
    · simp [PyData.canLayAll0, h1, h3]
    · simp only [PyData.depthAll]
      omega
theorem okMark_shaped {d : PyData} (h : OkMark d) : SeqAt.shaped d = true := by
  unfold SeqAt.shaped
  rw [h.1, Bool.true_and]
  exact decide_eq_true (Nat.le_trans h.2 (by decide))
theorem okMarks_shaped {ds : List PyData} (h : ∀ d ∈ ds, OkMark d) : SeqAt.shaped (.list ds) = true := by
  obtain ⟨h1, h2⟩ := okMarks_lay h
  unfold SeqAt.shaped
  simp only [PyData.canLay0, PyData.depth, h1, Bool.true_and]
  exact decide_eq_true (by omega)
theorem okMarks_shapedT {ds : List PyData} (h : ∀ d ∈ ds, OkMark d) : SeqAt.shaped (.tuple ds) = true := by
  obtain ⟨h1, h2⟩ := okMarks_lay h
  unfold SeqAt.shaped
  simp only [PyData.canLay0, PyData.depth, h1, Bool.true_and]
  exact decide_eq_true (by omega)
theorem findI_mem {d : PyData} : ∀ {ds : List PyData}, d ∈ ds → d.canLay0 = true → ∃ j, findI d ds = some j ∧ j < ds.length
  | x :: r, h, hl => by
    unfold findI
    by_cases e : PyData.eqv x d = true
    · exact ⟨0, by rw [if_pos e], by simp⟩
    · rw [if_neg e]
      rcases List.mem_cons.mp h with rfl | h
      · exact absurd (SeqAt.eqv_refl _ hl) e
      · obtain ⟨j, h1, h2⟩ := findI_mem h hl
        exact ⟨j + 1, by rw [h1]; rfl, by simpa using h2⟩
theorem index_ok {d : PyData} {ds : List PyData} (h : ∀ d ∈ ds, OkMark d) (hd : d ∈ ds) : ∃ j, findI d ds = some j ∧ j < ds.length ∧ indexD (.tuple ds) d = some (.int (j : Nat)) ∧ indexD (.list ds) d = some (.int (j : Nat)) := by
  obtain ⟨j, h1, h2⟩ := findI_mem hd (h d hd).1
  exact ⟨j, h1, h2, by simp [okMarks_shaped h, okMark_shaped (h d hd), h1], by simp [okMarks_shaped h, okMark_shaped (h d hd), h1]⟩
def rowD (r : List Nat) : PyData := .list (r.map fun i => .int (i : Nat))
def stepsD (s : List (List Nat)) : PyData := .list (s.map rowD)
def goodD (g : List Bool) : PyData := .list (g.map .bool)
def mkM (ms : List PyData) (s : List (List Nat)) (g : List Bool) : PyData := .tuple [.tuple ms, stepsD s, goodD g]
structure MachOK (n : Nat) (s : List (List Nat)) (g : List Bool) : Prop where
  pos : 0 < s.length
  len : g.length = s.length
  row : ∀ r ∈ s, r.length = n
  lt : ∀ r ∈ s, ∀ i ∈ r, i < s.length
end Pl
namespace Pl
open PySem L2
section
variable {C : CallF} {W : Nat} {env : Env} {t t1 t2 : Int}
theorem items_range {n : Nat} (h : n ≤ 1000000) : itemsD .range (.int (n : Nat)) = some ((List.range n).map fun i => PyData.int (i : Nat)) := by
  have q1 : (0 : Int) ≤ (n : Int) := by omega
  have q2 : (n : Int).toNat < 1000000000 := by omega
  rw [itemsD, if_pos ⟨q1, q2⟩, Int.toNat_natCast]
theorem ev_lcR {n : Nat} {it c e : M} {tg : Tg} {vs : List Nat} {ys : List PyData} (hit : ev C env it t = some (.int (n : Nat), t1)) (hn : n ≤ 1000000) (lc : lcLoop (lcF C env vs tg c e) ((List.range n).map fun i => PyData.int (i : Nat)) t1 = some (ys, t2)) : ev C env (.lc .range it tg vs c e) t = some (.list ys, t2) := by
  have hl : ((List.range n).map fun i => PyData.int (i : Nat)).length < sizeLine := by
    rw [List.length_map, List.length_range]
    exact Nat.lt_of_le_of_lt hn (by decide)
  rw [x_lc, hit]
  simp only [items_range hn]
  rw [if_pos hl, lc]
  rfl
theorem ev_lcS {k : IK} {x : PyData} {xs : List PyData} {it c e : M} {tg : Tg} {vs : List Nat} {ys : List PyData} (hit : ev C env it t = some (x, t1)) (hx : itemsD k x = some xs) (hn : xs.length ≤ 1000000) (lc : lcLoop (lcF C env vs tg c e) xs t1 = some (ys, t2)) : ev C env (.lc k it tg vs c e) t = some (.list ys, t2) := by
  have hl : xs.length < sizeLine := Nat.lt_of_le_of_lt hn (by decide)
  rw [x_lc, hit]
  simp only [hx]
  rw [if_pos hl, lc]
  rfl
theorem ex_forR {n : Nat} {it : M} {tg : Tg} {b : S} {o : Option Out} (hit : ev C env it t = some (.int (n : Nat), t1)) (hn : n ≤ 1000000) (h : forL (lp C W b) tg ((List.range n).map fun i => PyData.int (i : Nat)) env t1 = o) : exs C W (.for .range it tg b) env t = o := by
  rw [x_for, hit]
  simp only [items_range hn]
  exact h
theorem ex_forS {k : IK} {x : PyData} {xs : List PyData} {it : M} {tg : Tg} {b : S} {o : Option Out} (hit : ev C env it t = some (x, t1)) (hx : itemsD k x = some xs) (h : forL (lp C W b) tg xs env t1 = o) : exs C W (.for k it tg b) env t = o := by
  rw [x_for, hit]
  simp only [hx]
  exact h
end
end Pl

set_option Elab.async false
set_option linter.all false
set_option maxRecDepth 100000
set_option maxHeartbeats 1000000
/-! Pl: results whose lists are new. -/
namespace Pl
open PySem PySem.Spec PyProof.Rows L2
theorem Kp.back {T : Addr} {Hf H Hf' H' : Hp} (k : Kp T Hf H Hf' H') {a : Addr} (h : H' a = none) : H a = none := by
  cases q : H a with
  | none => rfl
  | some o =>
    by_cases e : a = T
    · subst e
      exact absurd h (k.tt (by rw [q]; simp))
    · rw [k.same a o e q] at h
      cases h
theorem NwV.back {T : Addr} {Hf H Hf' H' : Hp} {v : V} (k : Kp T Hf H Hf' H') (h : NwV H' v) : NwV H v := fun r e => k.back (h r e)
def NwE (b : Bool) : Hp → Hp → V → Prop := fun H _ v => b = true → NwV H v
section
variable {C : CallF} {W : Nat} {X : Cx} {a b c e : Expr} {es : List Expr} {ma mb mc m : M} {pos : Pos} {K : PySem.W.Frag} {T : Addr} {H0 Hf0 Hf : Hp} {env : Env} {t t1 t2 : Int} {σ : L2.St} {H : Hp} {sts : List Stmt}
theorem SemE.any (h : SemE C X e m) : SemN C X e m (NwE false) := ⟨fun T H0 Hf0 => PE.imp (h.run T H0 Hf0) fun σ H Q ⟨Hf, env, t, d, t', A, e, k⟩ => ⟨Hf, env, t, d, t', A, e, fun v Hf' H' A' k' r => k v Hf' H' A' k' r fun z => by cases z⟩⟩
def rListN (K : PySem.W.Frag) : List V → Hp → VK → Prop := fun xs H Q => ∃ Hf d z, Ex Hf H ∧ Paired (Rb K Hf H) xs [d] ∧ bltD .list [d] = some z ∧ ∀ v Hf' H', Ad Hf H Hf' H' → Rp Hf' v z → NwV H v → Q v H'
theorem c_listN (hc : X.calm = true) : CallR X (.type "list") (rListN X.K) := by
  refine CallR.imp (call_list_of.or (call_list_str1 hc)) fun xs H Q h => ?_
  obtain ⟨Hf, d, z, ex, rs, g, q⟩ := h
  obtain ⟨x, rfl, r⟩ := one_of rs
  have fin : ∀ {vs : List V} {ds : List PyData}, RpAll Hf vs ds → z = .list ds → ∀ p, H p = none → Q (.ref p) (upd H p (.lst vs)) := fun rv e p hp => by
    subst e
    exact q _ _ _ (.new p _ hp) (.lst upd_same (RpAll.mono (Ex.new (ex_none ex hp)) _ _ rv)) fun r e => by
      cases e
      exact hp
  cases d with
  | list xs =>
    obtain ⟨l, vs, rfl, sq, rv⟩ := r.list ex
    exact .inl ⟨l, vs, rfl, .inl sq, fin rv (by cases g; rfl)⟩
  | tuple xs =>
    obtain ⟨l, vs, rfl, sq, rv⟩ := r.tuple ex
    exact .inl ⟨l, vs, rfl, .inr sq, fin rv (by cases g; rfl)⟩
  | str w =>
    have := r.str
    subst this
    simp only [bltD] at g
    split at g
    · cases g
      exact .inr ⟨_, rfl, by assumption, fin (rp_signs _) rfl⟩
    · cases g
  | _ => cases g
theorem se_listN {x : Str} {p : Pos} (hcm : X.calm = true) (hg : Gl X x) (hm : X.mg x = none) (hv : bootBuiltins x = some (.type "list")) (ha : SemR C X e m) (ht : ∀ i, m ≠ .tape i := by intro _ h; cases h) (ht2 : m ≠ .edict := by intro h; cases h) (hn : x ≠ "__name__" := by decide) (hdb : (x == ("__debug__" : Str)) = false := by decide)
    (he : starEach [e] X.env = (false, eval e X.env) :: starEach [] X.env := by rfl) : SemN C X (.Call (.Name x p) [e] [] pos) (.blt .list (.cons m .nil)) (NwE true) :=
  ⟨fun T H0 Hf0 => PE.imp (pe_callTy (c_listN hcm) hg hm hv (pa_cons (ha.run T H0 Hf0) pa_nil he) hn hdb he) fun σ H Q ⟨Hf, env, t, d, t', A, e, k⟩ => by
    unfold ev at e
    split at e
    · rename_i lvs t1 e1
      obtain ⟨d0, e0, rfl⟩ := evs_one ht ht2 e1
      obtain ⟨z, gz, ez⟩ := map_some (show (bltD .list [d0]).map (·, t1) = some (d, t') from e)
      cases ez
      exact ⟨Hf, env, t, d0, _, A, e0, fun v Hf1 H1 A1 k1 r1 => ⟨Hf1, d0, d, A1.ex, .cons (r1 Hf1 H1 t' A1 (Kp.refl _ _ _)) .nil, gz, fun v Hf' H' ad r n => k v Hf' H' (ad.abs A1).1 (k1.trans (ad.abs A1).2) r fun _ r e => A1.kp.back (n r e)⟩⟩
    · cases e⟩
theorem lc_readN {b : Bool} {k : IK} {it : M} {tgt : Tg} {vs : List Nat} {mc me : M} (hv : ∀ i ∈ tgIx tgt, i ∈ vs) {Q : VK} (h : tEN K C T H0 Hf0 (.lc k it tgt vs mc me) (NwL b) σ H Q) :
    tLc (tI K C T H0 Hf0 k it) (tG K T H0 Hf0 tgt) (tT K C T H0 Hf0 mc) (tEN K C T H0 Hf0 me (NwE b)) vs σ H Q := by
  obtain ⟨Hf, env, t, d, t', A, e, q⟩ := h
  obtain ⟨x, t1, xs, ys, e1, e2, hl, e3, rfl⟩ := ev_lc e
  refine ⟨Hf, env, t, x, t1, xs, A, e1, e2, fun J vL Hf1 H1 A1 k1 r1 w D hD => ?_⟩
  obtain ⟨f1, f2, f3⟩ := A1.fresh hD
  have nm := A1.notmut hD
  refine lc_it w (fun i Hc => ∃ Hfc tc accV accD rest, Abs K T H0 Hf0 Hfc env tc σ Hc ∧ Kp T Hf1 H1 Hfc Hc ∧ Hfc D = none ∧ Hc D = some (.lst accV) ∧ RpAll Hfc accV accD ∧ lcLoop (lcF C env vs tgt mc me) (xs.drop i) tc = some (rest, t') ∧ accD ++ rest = ys ∧ accV.length ≤ i ∧ (b = true → ∀ x ∈ accV, NwV H0 x)) ?_ ?_ ?_ ?_
  · exact ⟨Hf1, t1, [], [], ys, A1.other f3 f1 f2 nm, (Kp.refl _ _ _).grow f3 hD, f1, upd_same, .nil, e3, rfl, Nat.le_refl _, fun _ x hx => by cases hx⟩
  · rintro i Hc _ ⟨Hfc, tc, accV, accD, rest, Ac, kc, _⟩
    exact kc.ex.trans Ac.ex
  · rintro i xv Hc H' hi ⟨Hfc, tc, accV, accD, rest, Ac, kc, hfD, hcD, ra, hloop, hys, hlen, hnw⟩ ⟨rfl, hxv⟩
    have hi2 : i < xs.length := by
      rw [← r1.len]
      exact hi
    obtain ⟨dx, hdx, rx⟩ := r1.getV hxv
    have hdrop : xs.drop i = dx :: xs.drop (i + 1) := by
      rw [List.drop_eq_getElem_cons hi2]
      congr 1
      exact (List.getElem?_eq_some_iff.mp hdx).2
    rw [hdrop] at hloop
    unfold lcLoop at hloop
    split at hloop
    · cases hloop
    · rename_i o tn hf
      unfold lcF at hf
      split at hf
      · rename_i env2 hset
        refine ⟨Hfc, wipeE env vs, tc, dx, env2, Ac.wipe vs, Rp.mono kc.ex _ _ rx, hset, fun σ2 A2 hw => ⟨?_, ?_⟩⟩
        · rw [hw vs hv]
          apply List.ext_getElem?
          intro j
          rw [wipe_get, wipe_length, wipe_get]
          split <;> rfl
        · split at hf
          · rename_i t2 hc
            split at hf
            · rename_i z t3 he
              cases hf
              refine ⟨Hfc, env2, tc, true, t2, A2, hc, fun Hf3 H3 A3 k3 => ?_⟩
              refine iteT ⟨Hf3, env2, t2, z, _, A3, he, fun v Hf4 H4 A4 k4 r4 n4 => ?_⟩
              have k34 := k3.trans k4
              have B : Abs K T H0 Hf0 Hf4 env tn σ H4 := Ac.kept k34 A4.ex A4.th
              have hD4 : H4 D = some (.lst accV) := k34.same D _ f3 hcD
              have hf4 : Hf4 D = none := k34.away D _ hcD hfD
              split at hloop
              · cases hloop
              · rename_i ys2 t4 hl2
                cases hloop
                refine ⟨accV, hD4, by omega, ⟨Hf4, tn, accV ++ [v], accD ++ [z], ys2, B.other f3 hf4 f2 nm, (kc.trans k34).grow f3 hD, hf4, upd_same, (RpAll.mono k34.ex _ _ ra).append (.cons r4 .nil), hl2, ?_, ?_, fun hb x hx => ?_⟩⟩
                · rw [List.append_assoc]
                  exact hys
                · rw [List.length_append]
                  simp
                  omega
                · rcases List.mem_append.mp hx with hx | hx
                  · exact hnw hb x hx
                  · rw [List.mem_singleton.mp hx]
                    exact n4 hb
            · cases hf
          · rename_i t2 hc
            cases hf
            refine ⟨Hfc, env2, tc, false, _, A2, hc, fun Hf3 H3 A3 k3 => ?_⟩
            refine iteF ?_
            have B : Abs K T H0 Hf0 Hf3 env tn σ H3 := Ac.kept k3 A3.ex A3.th
            split at hloop
            · cases hloop
            · rename_i ys2 t4 hl2
              cases hloop
              exact ⟨Hf3, tn, accV, accD, _, B, kc.trans k3, k3.away D _ hcD hfD, k3.same D _ f3 hcD, RpAll.mono k3.ex _ _ ra, hl2, hys, by omega, hnw⟩
          · cases hf
      · cases hf
  · rintro Hc ⟨Hfc, tc, accV, accD, rest, Ac, kc, hfD, hcD, ra, hloop, hys, hlen, hnw⟩
    rw [r1.len, List.drop_length] at hloop
    unfold lcLoop at hloop
    cases hloop
    rw [List.append_nil] at hys
    subst hys
    have ex2 : Ex Hfc (upd Hfc D (.lst accV)) := Ex.new hfD
    have kk : Kp T Hf1 H1 (upd Hfc D (.lst accV)) Hc := ⟨kc.ex.trans ex2, kc.same, fun b o h1 h2 => by rw [upd_ne (ne_of_none h1 hD)]; exact kc.away b o h1 h2, kc.tt⟩
    have exh : Ex (upd Hfc D (.lst accV)) Hc := fun a u e => by
      by_cases hp : a = D
      · subst hp
        rw [upd_same] at e
        cases e
        exact hcD
      · rw [upd_ne hp] at e
        exact Ac.ex a u e
    exact q (.ref D) _ Hc (A1.kept kk exh Ac.th) (k1.trans kk) (.lst upd_same (RpAll.mono ex2 _ _ ra)) fun g vs e1 e2 => by
      cases e1
      rw [upd_same] at e2
      cases e2
      exact ⟨f2, hnw⟩
theorem se_lcN {bb : Bool} {elt iter tg : Expr} {ifs : List Expr} {scope : Scope} {own : List (Str × Nat)} {k : IK} {it mc me : M} {tgt : Tg} (hc : X.calm = true) (hN : X.N.Nodup) (hi : SemI C X tg iter k it) (ok : BlkOk X.N X.env.scope scope own) (hv : ∀ i ∈ tgIx tgt, i ∈ own.map (·.2))
    (hg : ∀ (s : Shared) (H : Hp) (L : Addr) (cl : List (Str × Addr)) (fp : List Addr), SemG (X.blk s H scope (compEnvC scope cl L X.env) fp) tg tgt)
    (ht : ∀ (s : Shared) (H : Hp) (L : Addr) (cl : List (Str × Addr)) (fp : List Addr) T H0 Hf0, PTs (X.blk s H scope (compEnvC scope cl L X.env) fp) ifs (tT X.K C T H0 Hf0 mc))
    (he : ∀ (s : Shared) (H : Hp) (L : Addr) (cl : List (Str × Addr)) (fp : List Addr), SemN C (X.blk s H scope (compEnvC scope cl L X.env) fp) elt me (NwE bb)) (hs : ∀ x, foldedSetIterable iter X.env x = pure x := by intro _; rfl) :
    SemN C X (.ListComp elt [⟨tg, iter, ifs, 0⟩] scope pos) (.lc k it tgt (own.map (·.2)) mc me) (NwL bb) :=
  ⟨fun T H0 Hf0 => PE.imp (pe_lc hc hN (hi.run T H0 Hf0) ok (fun s H L cl fp => (hg s H L cl fp).run T H0 Hf0) (fun s H L cl fp => ht s H L cl fp T H0 Hf0) (fun s H L cl fp => (he s H L cl fp).run T H0 Hf0) hs) fun σ H Q h => lc_readN hv h⟩
theorem NwL.later {b : Bool} {Hf Hf2 H1 : Hp} {v : V} {d : PyData} (r : Rp Hf v d) (e : Ex Hf Hf2) (h : NwL b H1 Hf v) : NwL b H1 Hf2 v := fun g vs e1 e2 => by
  subst e1
  cases r with
  | lst h0 hs =>
    have := e _ _ h0
    rw [e2] at this
    cases this
    exact h _ _ rfl h0
  | tup h0 hd hs =>
    have := e _ _ h0
    rw [e2] at this
    cases this
/-- three parts, the second and third of them new -/
theorem se_tup3N {x1} {e0 e1 e2 : Expr} {m0 m1 m2 : M} (h0 : SemE C X e0 m0) (h1 : SemN C X e1 m1 (NwL true)) (h2 : SemN C X e2 m2 (NwL false)) (n0 : ∀ i, m0 ≠ .tape i := by intro _ h; cases h) (n1 : ∀ i, m1 ≠ .tape i := by intro _ h; cases h) (n2 : ∀ i, m2 ≠ .tape i := by intro _ h; cases h) (z0 : m0 ≠ .edict := by intro h; cases h) (z1 : m1 ≠ .edict := by intro h; cases h) (z2 : m2 ≠ .edict := by intro h; cases h)
    (s0 : starEach [e0, e1, e2] X.env = (false, eval e0 X.env) :: starEach [e1, e2] X.env := by rfl) (s1 : starEach [e1, e2] X.env = (false, eval e1 X.env) :: starEach [e2] X.env := by rfl) (s2 : starEach [e2] X.env = (false, eval e2 X.env) :: starEach [] X.env := by rfl) :
    SemN C X (.Tuple [e0, e1, e2] x1 pos) (.tup (.cons m0 (.cons m1 (.cons m2 .nil)))) Nw3 :=
  ⟨fun T H0 Hf0 => PE.imp (pe_tupS (pa_cons (h0.run T H0 Hf0) (pa_cons (h1.run T H0 Hf0) (pa_cons (h2.run T H0 Hf0) pa_nil s2) s1) s0)) fun σ H Q ⟨Hf, env, t, d, t', A, e, k⟩ => by
    unfold ev at e
    split at e
    · rename_i lvs tt el
      obtain ⟨d0, t1, r0, a1, el1, rfl⟩ := evs_cons n0 z0 el
      obtain ⟨d1, t2, r1, a2, el2, rfl⟩ := evs_cons n1 z1 el1
      obtain ⟨d2, t3, r2, a3, el3, rfl⟩ := evs_cons n2 z2 el2
      unfold evs at el3
      cases el3
      cases e
      refine ⟨Hf, env, t, d0, t1, A, a1, fun v0 Hf1 H1 A1 k1 q0 => ⟨Hf1, env, t1, d1, t2, A1, a2, fun v1 Hf2 H2 A2 k2 q1 w1 => ⟨Hf2, env, t2, d2, _, A2, a3, fun v2 Hf3 H3 A3 k3 q2 w2 => ⟨by show 3 ≤ sizeLine; decide, fun p o hp hd => ?_⟩⟩⟩⟩
      have ad : Ad Hf3 H3 (upd Hf3 p (.frz o (.tup [v0, v1, v2]))) (upd H3 p (.frz o (.tup [v0, v1, v2]))) := .new p _ hp
      have en : Ex Hf3 (upd Hf3 p (.frz o (.tup [v0, v1, v2]))) := Ex.new (ex_none A3.ex hp)
      refine k (.ref p) _ _ (ad.abs A3).1 (k1.trans (k2.trans (k3.trans (ad.abs A3).2))) (.tup upd_same hd (.cons (Rp.mono (k2.ex.trans (k3.ex.trans en)) _ _ q0) (.cons (Rp.mono (k3.ex.trans en) _ _ q1) (.cons (Rp.mono en _ _ q2) .nil)))) fun p' o' vm vs vg e1 e2 => ?_
      cases e1
      rw [upd_same] at e2
      cases e2
      exact ⟨w1.later q1 (k3.ex.trans en), w2.later q2 en⟩
    · cases e⟩
theorem fn_semN {Nw : NwP} {P : Program} {w : World} {mg : Str → Option Value} {base : Heap} {x qual : Str} {st : Stmt} {fa : Addr} {fd : FuncData} {N ps : List Str} {k f : Nat} {C' : CallF} {fm : FnM} {sp : Sp} (F : Fun K x qual st fa fd) (S : FnScope N ps (defScope st)) (hnp : ps.length = fm.np) (hn : N.length = fm.n)
    (hC : ∀ args t, C' f args t = runF C W fm args t)
    (hsp : ∀ vs H Q E, sp vs H Q E → vs.length = fm.np ∧ ∃ T Hf lvs t r t', C' f lvs t = some (r, t') ∧ r ≠ .none ∧ Ex Hf H ∧ Hf T = none ∧ H T = some (.lst [.int t]) ∧ Paired (ArgOK K T Hf) vs lvs ∧ ∀ v Hf' H', Ex Hf' H' → Kp T Hf H Hf' H' → H' T = some (.lst [.int t']) → Rp Hf' v r → Nw H Hf' v → Q v H')
    (hb : ∀ (cdv : Value) (A : Around) (outer : List PySem.Env) (s : Shared) (H : Hp) (E : XK), Room k (A.deeper (envOfC qual (defScope st) s.heap.objs.size fa cdv)) → SemB Nw C W (cxOf CX0 P w K mg base N qual (defScope st) fa cdv A outer s H E).nox (defBody st) fm.body) :
    FnOk P w K mg base CX0 (k + 1) fa fd ps sp := by
  refine F.ok S (fun vs H Q E h => by rw [hnp]; exact (hsp vs H Q E h).1) fun cdv A outer s H vs Q E hr h => ?_
  obtain ⟨hl, T, Hf, lvs, t, r, t', hc, hr0, ex, tf, th, ra, q⟩ := hsp vs H Q E h
  refine ⟨_, (hb cdv A outer s H E hr).run T H Hf, ?_⟩
  rw [hC] at hc
  unfold runF at hc
  split at hc
  · have A0 := abs_start (N := N) (n := fm.n - fm.np) ex tf th ra (by rw [hn, hl])
    split at hc
    · rename_i d t1 he
      cases hc
      exact ⟨Hf, _, t, _, A0, he, fun v Hf' H' fi e' rv n => q v Hf' H' fi.ex fi.kp fi.th rv n⟩
    · rename_i e1 t1 he
      cases hc
      exact absurd rfl hr0
    · cases hc
  · cases hc
/-- new three parts -/
theorem fn_sem3 {P : Program} {w : World} {mg : Str → Option Value} {base : Heap} {x qual : Str} {st : Stmt} {fa : Addr} {fd : FuncData} {N ps : List Str} {k f : Nat} {C' : CallF} {fm : FnM} (F : Fun K x qual st fa fd) (S : FnScope N ps (defScope st)) (hnp : ps.length = fm.np) (hn : N.length = fm.n)
    (hC : ∀ args t, C' f args t = runF C W fm args t)
    (hb : ∀ (cdv : Value) (A : Around) (outer : List PySem.Env) (s : Shared) (H : Hp) (E : XK), Room k (A.deeper (envOfC qual (defScope st) s.heap.objs.size fa cdv)) → SemB Nw3 C W (cxOf CX0 P w K mg base N qual (defScope st) fa cdv A outer s H E).nox (defBody st) fm.body) :
    FnOk P w K mg base CX0 (k + 1) fa fd ps (spN K C' fm.np f) :=
  fn_semN F S hnp hn hC (fun vs H Q E h => by
    obtain ⟨hl, T, Hf, lvs, t, r, t', hc, hb3, ex, tf, th, ra, q⟩ := h
    exact ⟨hl, T, Hf, lvs, t, r, t', hc, fun e => (by rw [e] at hb3; cases hb3), ex, tf, th, ra, fun v Hf' H' e1 e2 e3 e4 n => q v Hf' H' e1 e2 e3 e4 (new3_of hb3 e4 n)⟩) hb
end
end Pl

set_option Elab.async false
set_option linter.all false
set_option maxRecDepth 100000
set_option maxHeartbeats 1000000
/-! Pl: dicts of one's own. -/
namespace Pl
open PySem PySem.Spec PyProof.Rows L2
section
variable {κ : Type} [DecidableEq κ] {Hf : Hp}
theorem KvAll.look : ∀ {vs : List (κ × V)} {ds : List (κ × PyData)} (k : κ), KvAll Hf vs ds → (valV vs k = none ∧ lookD ds k = none) ∨ ∃ v d, valV vs k = some v ∧ lookD ds k = some d ∧ Rp Hf v d ∧ ∃ p ∈ vs, p.2 = v
  | _, _, k, .nil => .inl ⟨rfl, rfl⟩
  | (j, v) :: vs, (_, d) :: ds, k, .cons h hs => by
    by_cases e : j = k
    · exact .inr ⟨v, d, by rw [valV_pos (p := (j, v)) e], by simp [lookD, List.find?_cons, e], h, (j, v), List.mem_cons_self, rfl⟩
    · have e2 : lookD ((j, d) :: ds) k = lookD ds k := by simp [lookD, List.find?_cons, e]
      rw [valV_neg (p := (j, v)) e, e2]
      rcases KvAll.look k hs with ⟨h1, h2⟩ | ⟨w, x, h1, h2, h3, p, hp, ep⟩
      · exact .inl ⟨h1, h2⟩
      · exact .inr ⟨w, x, h1, h2, h3, p, List.mem_cons_of_mem _ hp, ep⟩
theorem KvAll.any : ∀ {vs : List (κ × V)} {ds : List (κ × PyData)} (k : κ), KvAll Hf vs ds → (vs.any fun kv => decide (kv.1 = k)) = (ds.any fun kv => decide (kv.1 = k))
  | _, _, _, .nil => rfl
  | _, _, k, .cons h hs => by
    rw [List.any_cons, List.any_cons, KvAll.any k hs]
theorem KvAll.app : ∀ {vs ws : List (κ × V)} {ds es : List (κ × PyData)}, KvAll Hf vs ds → KvAll Hf ws es → KvAll Hf (vs ++ ws) (ds ++ es)
  | _, _, _, _, .nil, h => h
  | _, _, _, _, .cons h hs, k => .cons h (hs.app k)
theorem KvAll.maps {k : κ} {v : V} {d : PyData} (r : Rp Hf v d) : ∀ {vs : List (κ × V)} {ds : List (κ × PyData)}, KvAll Hf vs ds → KvAll Hf (vs.map fun kv => if kv.1 = k then (kv.1, v) else kv) (ds.map fun kv => if kv.1 = k then (kv.1, d) else kv)
  | _, _, .nil => .nil
  | (j, w) :: vs, (_, e) :: ds, .cons h hs => by
    rw [List.map_cons, List.map_cons]
    by_cases z : j = k
    · simp only [z, if_true]
      exact .cons r (hs.maps r)
    · simp only [z, if_false]
      exact .cons h (hs.maps r)
theorem KvAll.put {vs : List (κ × V)} {ds : List (κ × PyData)} {k : κ} {v : V} {d : PyData} (h : KvAll Hf vs ds) (r : Rp Hf v d) : KvAll Hf (putK vs k v) (putD ds k d) := by
  unfold putK putD
  rw [h.any k]
  split
  · exact h.maps r
  · exact h.app (.cons r .nil)
theorem put_new {H0 : Hp} {vs : List (κ × V)} {k : κ} {v : V} (h : ∀ p ∈ vs, NwV H0 p.2) (hv : NwV H0 v) : ∀ p ∈ putK vs k v, NwV H0 p.2 := by
  intro p hp
  unfold putK at hp
  split at hp
  · obtain ⟨q, hq, rfl⟩ := List.mem_map.mp hp
    split
    · exact hv
    · exact h q hq
  · rcases List.mem_append.mp hp with hp | hp
    · exact h p hp
    · rw [List.mem_singleton.mp hp]
      exact hv
theorem KvAll.len {Hf : Hp} : ∀ {vs : List (κ × V)} {ds : List (κ × PyData)}, KvAll Hf vs ds → vs.length = ds.length
  | _, _, .nil => rfl
  | _, _, .cons _ h => by rw [List.length_cons, List.length_cons, h.len]
end
theorem key_of {Hf : Hp} {v : V} {d : PyData} {k : L2.Key} (r : Rp Hf v d) (h : keyD d = some k) : v = kV k := by
  cases r <;> cases h <;> rfl
theorem flat_new {Hf H0 : Hp} {v : V} {d : PyData} (r : Rp Hf v d) (h : flatD d = true) : NwV H0 v := by
  intro a e
  subst e
  cases r <;> cases h
theorem list_new {Hf H0 : Hp} {v : V} {d : PyData} {b : Bool} (r : Rp Hf v d) (h : isListD d = true) (n : NwL b H0 Hf v) : NwV H0 v := by
  intro a e
  subst e
  cases r with
  | lst h1 h2 => exact (n _ _ rfl h1).1
  | tup => cases h
section
variable {K : PySem.W.Frag} {T : Addr} {H0 Hf0 Hf Hf' : Hp} {env : Env} {t t' : Int} {σ : L2.St} {H H' : Hp}
theorem Abs.dict (A : Abs K T H0 Hf0 Hf env t σ H) {i : Nat} {kvs : List (L2.Key × PyData)} (h : dictAt env i = some kvs) : ∃ l vs, σ[i]? = some (some (.ref l)) ∧ H l = some (.dK vs) ∧ KvAll Hf vs kvs ∧ (∀ n, env[i]? = some (some (.dk n kvs)) → n = true → ∀ p ∈ vs, NwV H0 p.2) := by
  unfold dictAt at h
  split at h
  · rename_i n kvs' e
    cases h
    obtain ⟨v, hs, l, vs, rfl, f1, f2, f3, f4⟩ := A.loc i _ e
    exact ⟨l, vs, hs, f2, f3, fun m e2 hm => by
      rw [e] at e2
      cases e2
      exact f4 hm⟩
  · rename_i kvs' e
    cases h
    obtain ⟨v, hs, l, vs, rfl, f1, f2⟩ := A.loc i _ e
    exact ⟨l, vs, hs, A.ex _ _ f1, f2, fun m e2 => by
      rw [e] at e2
      cases e2⟩
  · cases h
/-- a slot takes a thing of one's own that stands already -/
theorem Abs.setP (A : Abs K T H0 Hf0 Hf env t σ H) {i : Nat} {p : Addr} {lv : LV} (h0 : H0 p = none) (hm : lv.mut = true) (ok : LvOK K T H0 Hf H (.ref p) lv) (nm : ∀ (j : Nat) (l : LV), env[j]? = some (some l) → l.mut = true → σ[j]? ≠ some (some (.ref p))) :
    Abs K T H0 Hf0 Hf (env.set i (some lv)) t (σ.set i (some (.ref p))) H := by
  refine ⟨A.ex, A.kp, by rw [List.length_set, List.length_set]; exact A.len, fun j l h => ?_, fun j l a h hm' hs => ?_, fun j k l l' a n hj mj hk mk sj sk => ?_, A.tf, A.th, A.t0⟩
  · by_cases e : i = j
    · subst e
      have hi : i < env.length := by
        have := (List.getElem?_eq_some_iff.mp h).1
        rw [List.length_set] at this
        exact this
      rw [List.getElem?_set_self hi] at h
      cases h
      exact ⟨_, List.getElem?_set_self (by rw [A.len]; exact hi), ok⟩
    · rw [List.getElem?_set_ne e] at h
      rw [List.getElem?_set_ne e]
      exact A.loc j l h
  · by_cases e : i = j
    · subst e
      have hi : i < σ.length := by
        have := (List.getElem?_eq_some_iff.mp hs).1
        rw [List.length_set] at this
        exact this
      rw [List.getElem?_set_self hi] at hs
      cases hs
      exact h0
    · rw [List.getElem?_set_ne e] at h hs
      exact A.new j l a h hm' hs
  · have q : ∀ {m : Nat} {b : Addr}, i = m → (σ.set i (some (V.ref p)))[m]? = some (some (.ref b)) → b = p := fun {m b} e hs => by
      subst e
      have hi : i < σ.length := by
        have := (List.getElem?_eq_some_iff.mp hs).1
        rw [List.length_set] at this
        exact this
      rw [List.getElem?_set_self hi] at hs
      cases hs
      rfl
    by_cases ej : i = j
    · have ea := q ej sj
      subst ea
      have ek : i ≠ k := fun z => n (ej.symm.trans z)
      rw [List.getElem?_set_ne ek] at hk sk
      exact nm k l' hk mk sk
    · by_cases ek : i = k
      · have ea := q ek sk
        subst ea
        rw [List.getElem?_set_ne ej] at hj sj
        exact nm j l hj mj sj
      · rw [List.getElem?_set_ne ej] at hj sj
        rw [List.getElem?_set_ne ek] at hk sk
        exact A.sep j k l l' a n hj mj hk mk sj sk
end
section
variable {N : NwP} {C : CallF} {W : Nat} {X : Cx} {a b c e : Expr} {es : List Expr} {ma mb mc m : M} {pos : Pos} {K : PySem.W.Frag} {T : Addr} {H0 Hf0 Hf : Hp} {env : Env} {t t1 t2 : Int} {σ : L2.St} {H : Hp} {st : Stmt} {sts : List Stmt} {s1 s2 : S}
/-! ### read -/
theorem ev_dict {f : PyData → List (L2.Key × PyData) → L2.Key → Option (PyData × Int)} {i : Nat} {x : PyData} {r : PyData × Int} (h : (match dictAt env i, keyD x with | some kvs, some k => f x kvs k | _, _ => none) = some r) : ∃ kvs k, dictAt env i = some kvs ∧ keyD x = some k ∧ f x kvs k = some r := by
  split at h
  · rename_i kvs k e1 e2
    exact ⟨kvs, k, e1, e2, h⟩
  · cases h
theorem sc_din (i : Nat) {x : Str} {p1 : Pos} (hu : X.A.units + 1 < cLine) (ha : SemE C X a ma) (hN : X.N[i]? = some x := by rfl) (hv : Vis X.env.scope x := by first | exact Or.inl rfl | exact Or.inr (Or.inl rfl) | exact Or.inr (Or.inr rfl)) (hd : (x == ("__debug__" : Str)) = false := by decide) (hcd : (x == ("__classdict__" : Str)) = false := by decide) :
    SemC C X (.Compare a [.In] [.Name x p1] pos) (.din false i ma) := by
  have rd : ∀ (T : Addr) (H0 Hf0 : Hp) (d : PyData) (t' : Int) (Hf : Hp) (env : Env) (t : Int) (σ : L2.St) (H : Hp) (Q : VK), Abs X.K T H0 Hf0 Hf env t σ H → ev C env (.din false i ma) t = some (d, t') → (∀ b Hf' H', d = .bool b → Abs X.K T H0 Hf0 Hf' env t' σ H' → Kp T Hf H Hf' H' → Q (.bl b) H') → tDIn (tE X.K C T H0 Hf0 ma) (tVar i) σ H Q := by
    intro T H0 Hf0 d t' Hf env t σ H Q A e k
    unfold ev at e
    split at e
    · rename_i x t1 e1
      obtain ⟨kvs, key, hk, hx, ez⟩ := ev_dict (f := fun x kvs k => some (PyData.bool (if false = true then !(lookD kvs k).isSome else (lookD kvs k).isSome), t1)) e
      cases ez
      refine ⟨Hf, env, t, x, _, A, e1, fun v Hf1 H1 A1 k1 r1 => ?_⟩
      obtain ⟨l, vs, hs, hl, hr, _⟩ := A1.dict hk
      refine ⟨_, hs, l, _, rfl, by rw [key_of r1 hx]; exact DGet.k hl, k _ _ _ ?_ A1 k1⟩
      rcases hr.look key with ⟨h1, h2⟩ | ⟨w, z, h1, h2, _⟩ <;> rw [h1, h2] <;> rfl
    · cases e
  refine ⟨⟨fun T H0 Hf0 => PE.imp (pe_cmp (pc_din hu (ha.run T H0 Hf0) (pe_var hN hv hd hcd))) fun σ H Q ⟨Hf, env, t, d, t', A, e, k⟩ => rd T H0 Hf0 d t' Hf env t σ H Q A e fun b Hf' H' ed A' k' => k _ _ _ A' k' (by rw [ed]; exact .bl b)⟩, ⟨fun T H0 Hf0 => PT.imp (pt_cmp (pc_din hu (ha.run T H0 Hf0) (pe_var hN hv hd hcd))) fun σ H Q ⟨Hf, env, t, d, t', A, e, k⟩ => rd T H0 Hf0 _ t' Hf env t σ H _ A e fun b Hf' H' ed A' k' => ?_⟩⟩
  cases ed
  exact ⟨_, rfl, k _ _ A' k'⟩
theorem sc_dnotin (i : Nat) {x : Str} {p1 : Pos} (hu : X.A.units + 1 < cLine) (ha : SemE C X a ma) (hN : X.N[i]? = some x := by rfl) (hv : Vis X.env.scope x := by first | exact Or.inl rfl | exact Or.inr (Or.inl rfl) | exact Or.inr (Or.inr rfl)) (hd : (x == ("__debug__" : Str)) = false := by decide) (hcd : (x == ("__classdict__" : Str)) = false := by decide) :
    SemC C X (.Compare a [.NotIn] [.Name x p1] pos) (.din true i ma) := by
  have rd : ∀ (T : Addr) (H0 Hf0 : Hp) (d : PyData) (t' : Int) (Hf : Hp) (env : Env) (t : Int) (σ : L2.St) (H : Hp) (Q : VK), Abs X.K T H0 Hf0 Hf env t σ H → ev C env (.din true i ma) t = some (d, t') → (∀ b Hf' H', d = .bool b → Abs X.K T H0 Hf0 Hf' env t' σ H' → Kp T Hf H Hf' H' → Q (.bl b) H') → tDNotIn (tE X.K C T H0 Hf0 ma) (tVar i) σ H Q := by
    intro T H0 Hf0 d t' Hf env t σ H Q A e k
    unfold ev at e
    split at e
    · rename_i x t1 e1
      obtain ⟨kvs, key, hk, hx, ez⟩ := ev_dict (f := fun x kvs k => some (PyData.bool (if true = true then !(lookD kvs k).isSome else (lookD kvs k).isSome), t1)) e
      cases ez
      refine ⟨Hf, env, t, x, _, A, e1, fun v Hf1 H1 A1 k1 r1 => ?_⟩
      obtain ⟨l, vs, hs, hl, hr, _⟩ := A1.dict hk
      refine ⟨_, hs, l, _, rfl, by rw [key_of r1 hx]; exact DGet.k hl, k _ _ _ ?_ A1 k1⟩
      rcases hr.look key with ⟨h1, h2⟩ | ⟨w, z, h1, h2, _⟩ <;> rw [h1, h2] <;> rfl
    · cases e
  refine ⟨⟨fun T H0 Hf0 => PE.imp (pe_cmp (pc_dnotin hu (ha.run T H0 Hf0) (pe_var hN hv hd hcd))) fun σ H Q ⟨Hf, env, t, d, t', A, e, k⟩ => rd T H0 Hf0 d t' Hf env t σ H Q A e fun b Hf' H' ed A' k' => k _ _ _ A' k' (by rw [ed]; exact .bl b)⟩, ⟨fun T H0 Hf0 => PT.imp (pt_cmp (pc_dnotin hu (ha.run T H0 Hf0) (pe_var hN hv hd hcd))) fun σ H Q ⟨Hf, env, t, d, t', A, e, k⟩ => rd T H0 Hf0 _ t' Hf env t σ H _ A e fun b Hf' H' ed A' k' => ?_⟩⟩
  cases ed
  exact ⟨_, rfl, k _ _ A' k'⟩
theorem dget_rd {i : Nat} {T : Addr} {H0 Hf0 : Hp} {d : PyData} {t' : Int} {Q : VK} (A : Abs K T H0 Hf0 Hf env t σ H) (e : ev C env (.dget i ma) t = some (d, t')) (k : ∀ v Hf' H', Abs K T H0 Hf0 Hf' env t' σ H' → Kp T Hf H Hf' H' → Rp Hf' v d → (∀ kvs, env[i]? = some (some (.dk true kvs)) → NwV H0 v) → Q v H') : tDGet (tVar i) (tE K C T H0 Hf0 ma) σ H Q := by
  unfold ev at e
  split at e
  · rename_i x t1 e1
    obtain ⟨kvs, key, hk, hx, ez⟩ := ev_dict (f := fun x kvs k => (lookD kvs k).map (·, t1)) e
    obtain ⟨z, gz, ez⟩ := map_some ez
    cases ez
    obtain ⟨l, vs, hs, hl, hr, hn⟩ := A.dict hk
    refine ⟨_, hs, Hf, env, t, x, _, A, e1, fun v Hf1 H1 A1 k1 r1 => ?_⟩
    obtain ⟨l', vs', hs', hl', hr', hn'⟩ := A1.dict hk
    rw [hs] at hs'
    cases hs'
    rcases hr'.look key with ⟨h1, h2⟩ | ⟨w, z', h1, h2, h3, p, hp, ep⟩
    · rw [h2] at gz
      cases gz
    · rw [h2] at gz
      cases gz
      refine ⟨l, w, rfl, by rw [key_of r1 hx, ← h1]; exact DGet.k hl', k _ _ _ A1 k1 h3 fun kvs2 e2 => ?_⟩
      have : kvs2 = kvs := by
        simp only [dictAt, e2] at hk
        exact Option.some.inj hk
      subst this
      rw [← ep]
      exact hn' _ e2 rfl p hp
  · cases e
theorem se_dget (i : Nat) {x : Str} {p1 : Pos} (hu : X.A.units + 1 < cLine) (ha : SemE C X a ma) (hs : NoSl a := by intro _ _; rfl) (hN : X.N[i]? = some x := by rfl) (hv : Vis X.env.scope x := by first | exact Or.inl rfl | exact Or.inr (Or.inl rfl) | exact Or.inr (Or.inr rfl)) (hd : (x == ("__debug__" : Str)) = false := by decide) (hcd : (x == ("__classdict__" : Str)) = false := by decide) :
    SemE C X (.Subscript (.Name x p1) a pos) (.dget i ma) :=
  ⟨fun T H0 Hf0 => PE.imp (pe_dget hu (pe_var hN hv hd hcd) (ha.run T H0 Hf0) hs) fun σ H Q ⟨Hf, env, t, d, t', A, e, k⟩ => dget_rd A e fun v Hf' H' A' k' r _ => k v Hf' H' A' k' r⟩
theorem se_dlen (i : Nat) {x y : Str} {p1 p2 : Pos} (hg : Gl X y) (hm : X.mg y = none) (hb : bootBuiltins y = some (.builtin "len")) (hN : X.N[i]? = some x := by rfl) (hv : Vis X.env.scope x := by first | exact Or.inl rfl | exact Or.inr (Or.inl rfl) | exact Or.inr (Or.inr rfl)) (hd : (x == ("__debug__" : Str)) = false := by decide) (hcd : (x == ("__classdict__" : Str)) = false := by decide) (hn : y ≠ "__name__" := by decide) (hdb : (y == ("__debug__" : Str)) = false := by decide)
    (he : starEach [.Name x p1] X.env = (false, eval (.Name x p1) X.env) :: starEach [] X.env := by rfl) : SemE C X (.Call (.Name y p2) [.Name x p1] [] pos) (.dlen i) :=
  ⟨fun T H0 Hf0 => PE.imp (pe_callB call_lenD hg hm hb (pa_cons (pe_var hN hv hd hcd) pa_nil he) hn hdb he) fun σ H Q ⟨Hf, env, t, d, t', A, e, k⟩ => by
    unfold ev at e
    obtain ⟨kvs, hk, ez⟩ := map_some e
    cases ez
    obtain ⟨l, vs, hs, hl, hr, _⟩ := A.dict hk
    exact ⟨_, hs, l, vs, rfl, hl, k _ _ _ A (Kp.refl _ _ _) (by rw [hr.len]; exact .int _)⟩⟩
theorem intKeys_map : ∀ {kvs : List (L2.Key × PyData)} {ks : List Int} {vs : List (L2.Key × V)} {Hf : Hp}, intKeys kvs = some ks → KvAll Hf vs kvs → vs.map (·.1) = ks.map Sum.inl
  | _, _, _, _, e, .nil => by
    cases e
    rfl
  | (.inl i, _) :: r, ks, _, _, e, .cons h hs => by
    unfold intKeys at e
    obtain ⟨q, e1, e2⟩ := map_some e
    subst e2
    rw [List.map_cons, List.map_cons, intKeys_map e1 hs]
theorem se_dsortedN (i : Nat) {x y : Str} {p1 p2 : Pos} (hc : X.calm = true) (hg : Gl X y) (hm : X.mg y = none) (hb : bootBuiltins y = some (.builtin "sorted")) (hN : X.N[i]? = some x := by rfl) (hv : Vis X.env.scope x := by first | exact Or.inl rfl | exact Or.inr (Or.inl rfl) | exact Or.inr (Or.inr rfl)) (hd : (x == ("__debug__" : Str)) = false := by decide) (hcd : (x == ("__classdict__" : Str)) = false := by decide) (hn : y ≠ "__name__" := by decide) (hdb : (y == ("__debug__" : Str)) = false := by decide)
    (he : starEach [.Name x p1] X.env = (false, eval (.Name x p1) X.env) :: starEach [] X.env := by rfl) : SemN C X (.Call (.Name y p2) [.Name x p1] [] pos) (.dsorted i) (NwL false) :=
  ⟨fun T H0 Hf0 => PE.imp (pe_callB (call_sortedDI hc) hg hm hb (pa_cons (pe_var hN hv hd hcd) pa_nil he) hn hdb he) fun σ H Q ⟨Hf, env, t, d, t', A, e, k⟩ => by
    unfold ev at e
    split at e
    · rename_i kvs hk
      split at e
      · rename_i ks hks
        split at e
        · rename_i h64
          cases e
          obtain ⟨l, vs, hs, hl, hr, _⟩ := A.dict hk
          refine ⟨_, hs, l, vs, ks, rfl, .inl hl, intKeys_map hks hr, h64, fun ys p hp hs hn => ?_⟩
          rw [sortI_uniq hp hs]
          have ad : Ad Hf H (upd Hf p (.lst ((sortI ks).map V.int))) (upd H p (.lst ((sortI ks).map V.int))) := .new p _ hn
          exact k (.ref p) _ _ (ad.abs A).1 (ad.abs A).2 (.lst upd_same (rp_ints _)) fun g ws e1 e2 => by
            cases e1
            exact ⟨(A.fresh hn).2.1, fun z => by cases z⟩
        · cases e
      · cases e
    · cases e⟩
theorem SemN.sem {P : Hp → Hp → V → Prop} (h : SemN C X e m P) : SemE C X e m := ⟨fun T H0 Hf0 => PE.imp (h.run T H0 Hf0) fun σ H Q ⟨Hf, env, t, d, t', A, e, k⟩ => ⟨Hf, env, t, d, t', A, e, fun v Hf' H' A' k' r _ => k v Hf' H' A' k' r⟩⟩
/-! ### new lists -/
theorem lst_newL {b : Bool} {p : Addr} {vs : List V} {Hx : Hp} (h : H0 p = none) (hb : b = true → ∀ x ∈ vs, NwV H0 x) (e : Hx p = some (.lst vs)) : NwL b H0 Hx (.ref p) := fun g ws e1 e2 => by
  cases e1
  rw [e] at e2
  cases e2
  exact ⟨h, hb⟩
theorem se_lstN (h : SemA C X es m) : SemN C X (.List es pos) (.lst m) (NwL false) :=
  ⟨fun T H0 Hf0 => PE.imp (pe_lst (h.run T H0 Hf0)) fun σ H Q ⟨Hf, env, t, d, t', A, e, k⟩ => by
    unfold ev at e
    split at e
    · rename_i lvs t1 e1
      split at e
      · rename_i ds e2
        split at e
        · rename_i hl
          cases e
          refine ⟨Hf, env, t, lvs, _, A, e1, fun vs Hf1 H1 A1 k1 r1 => ?_⟩
          have rr := args_data r1 e2
          refine ⟨by rw [rr.len]; exact le1000 hl, fun p hp => ?_⟩
          have ad : Ad Hf1 H1 (upd Hf1 p (.lst vs)) (upd H1 p (.lst vs)) := .new p _ hp
          exact k _ _ _ (ad.abs A1).1 (k1.trans (ad.abs A1).2) (.lst upd_same (RpAll.mono (Ex.new (ex_none A1.ex hp)) _ _ rr)) (lst_newL (A1.fresh hp).2.1 (fun z => by cases z) upd_same)
        · cases e
      · cases e
    · cases e⟩
theorem op_addN : OpR X (binaryOp .Add) (fun x y H Q => ∃ Hf d e z, Ex Hf H ∧ Rp Hf x d ∧ Rp Hf y e ∧ addD d e = some z ∧ ∀ v Hf' H', Ad Hf H Hf' H' → Rp Hf' v z → (∀ g vs, v = .ref g → Hf' g = some (.lst vs) → H g = none) → Q v H') := by
  refine OpR.imp ((((op_add.or op_add_str).or op_cat).or op_catA).or op_catS) fun x y H Q h => ?_
  obtain ⟨Hf, d, e, z, ex, rx, ry, g, q⟩ := h
  cases rx with
  | int i =>
    cases ry with
    | int j =>
      cases g
      exact .inl (.inl (.inl (.inl ⟨i, j, rfl, rfl, q _ _ _ .refl (.int _) fun g vs e => by cases e⟩)))
    | _ => cases g
  | str i =>
    cases ry with
    | str j =>
      simp only [addD] at g
      split at g
      · cases g
        exact .inl (.inl (.inl (.inr ⟨i, j, rfl, rfl, by assumption, q _ _ _ .refl (.str _) fun g vs e => by cases e⟩)))
      · cases g
    | _ => cases g
  | lst h hs =>
    cases ry with
    | lst k ks =>
      simp only [addD] at g
      split at g
      · cases g
        refine .inl (.inl (.inr ⟨_, _, _, _, rfl, rfl, ex _ _ h, ex _ _ k, by rw [hs.len, ks.len]; assumption, fun p hp => ?_⟩))
        exact q _ _ _ (.new p _ hp) (.lst upd_same (RpAll.mono (Ex.new (ex_none ex hp)) _ _ (hs.append ks))) fun g vs e _ => by
          cases e
          exact hp
      · cases g
    | _ => cases g
  | tup h hd hs =>
    cases ry with
    | tup k kd ks =>
      simp only [addD] at g
      split at g
      · cases g
        rename_i xs ds _ _ ys es hz
        by_cases e1 : xs = []
        · subst e1
          cases hs
          refine .inl (.inr ⟨_, _, _, _, rfl, rfl, .inl (.inr ⟨_, ex _ _ h⟩), .inl (.inr ⟨_, ex _ _ k⟩), by rw [ks.len]; simpa using hz, fun _ => ?_, fun z => absurd rfl z, fun z => absurd rfl z⟩)
          refine q _ _ _ .refl (.tup k kd ks) fun g vs e1 e2 => ?_
          cases e1
          rw [k] at e2
          cases e2
        · by_cases e2 : ys = []
          · subst e2
            cases ks
            refine .inl (.inr ⟨_, _, _, _, rfl, rfl, .inl (.inr ⟨_, ex _ _ h⟩), .inl (.inr ⟨_, ex _ _ k⟩), by rw [hs.len]; simpa using hz, fun z => absurd z e1, fun _ _ => ?_, fun _ z => absurd rfl z⟩)
            simp only [List.append_nil] at q
            refine q _ _ _ .refl (.tup h hd (by simpa using hs)) fun g vs e1 e2 => ?_
            cases e1
            rw [h] at e2
            cases e2
          · refine .inr ⟨_, _, _, _, rfl, rfl, .inl (.inr ⟨_, ex _ _ h⟩), .inl (.inr ⟨_, ex _ _ k⟩), e1, e2, by rw [hs.len, ks.len]; exact hz, fun p o hp ho => ?_⟩
            refine q _ _ _ (.new p _ hp) (.tup upd_same ho (RpAll.mono (Ex.new (ex_none ex hp)) _ _ (hs.append ks))) fun g vs e1 e2 => ?_
            cases e1
            rw [upd_same] at e2
            cases e2
      · cases g
    | _ => cases g
  | _ => cases g
theorem se_addN (ha : SemE C X a ma) (hb : SemE C X b mb) : SemN C X (.BinOp a .Add b pos) (.bin .add ma mb) (NwL false) :=
  ⟨fun T H0 Hf0 => PE.imp (pe_op op_addN (ha.run T H0 Hf0) (hb.run T H0 Hf0)) fun σ H Q ⟨Hf, env, t, d, t', A, e, k⟩ => by
    unfold ev at e
    obtain ⟨d1, t1, d2, t2, e1, e2, g⟩ := ev2 (f := fun x y t2 => (binD .add x y).map (·, t2)) e
    obtain ⟨z, gz, ez⟩ := map_some g
    cases ez
    exact two A e1 e2 fun v1 v2 Hf2 H2 A2 k2 r1 r2 => ⟨Hf2, d1, d2, d, A2.ex, r1, r2, gz, fun v Hf' H' ad r n => k v Hf' H' (ad.abs A2).1 (k2.trans (ad.abs A2).2) r fun g vs e1 e2 => ⟨A2.kp.back (n g vs e1 e2), fun z => by cases z⟩⟩⟩
theorem se_dgetN (i : Nat) {x : Str} {p1 : Pos} (hu : X.A.units + 1 < cLine) (ha : SemE C X a ma) (hs : NoSl a := by intro _ _; rfl) (hN : X.N[i]? = some x := by rfl) (hv : Vis X.env.scope x := by first | exact Or.inl rfl | exact Or.inr (Or.inl rfl) | exact Or.inr (Or.inr rfl)) (hd : (x == ("__debug__" : Str)) = false := by decide) (hcd : (x == ("__classdict__" : Str)) = false := by decide) :
    SemN C X (.Subscript (.Name x p1) a pos) (.dget i ma) (fun H0 Hx v => True) :=
  ⟨fun T H0 Hf0 => PE.imp (pe_dget hu (pe_var hN hv hd hcd) (ha.run T H0 Hf0) hs) fun σ H Q ⟨Hf, env, t, d, t', A, e, k⟩ => dget_rd A e fun v Hf' H' A' k' r _ => k v Hf' H' A' k' r True.intro⟩
/-! ### written -/
theorem ss_new0 (i : Nat) {x : Str} {pos' p2 : Pos} (hN : X.N.Nodup) (hi : X.N[i]? = some x := by rfl) (hx : Loc X.env.scope x := by first | exact Or.inl rfl | exact Or.inr rfl) (hf : X.fn x = true ∨ X.env.scope.names.lookup x = some .local := by first | exact Or.inl rfl | exact Or.inr rfl)
    (hs : swapsWith (.Dict [] [] p2) (some (.Name x pos')) pos.line X.env = pure false := by rfl) : SemS N C W X (.Assign [.Name x pos'] (.Dict [] [] p2) pos) (.new0 i false) :=
  ⟨fun T H0 Hf0 => PS.imp (ps_set hN hi hx pe_dnewK hs hf) fun D σ H ⟨Hf, env, t, o, A, e, k⟩ => by
    unfold exs at e
    split at e
    · cases e
      exact fun p hp => k _ _ _ (A.setM hp rfl ⟨p, [], rfl, (A.fresh hp).1, upd_same, .nil, fun _ q hq => by cases hq⟩) (Ex.refl _)
    · cases e⟩
/-- {k: v} -/
theorem ss_newK (i : Nat) {b : Bool} {x : Str} {ek ev' : Expr} {mk mv : M} {pos' p2 : Pos} (hN : X.N.Nodup) (hk : SemE C X ek mk) (hv : SemN C X ev' mv (NwL b)) (hi : X.N[i]? = some x := by rfl) (hx : Loc X.env.scope x := by first | exact Or.inl rfl | exact Or.inr rfl) (hf : X.fn x = true ∨ X.env.scope.names.lookup x = some .local := by first | exact Or.inl rfl | exact Or.inr rfl)
    (hs : swapsWith (.Dict [some ek] [ev'] p2) (some (.Name x pos')) pos.line X.env = pure false := by rfl) : SemS N C W X (.Assign [.Name x pos'] (.Dict [some ek] [ev'] p2) pos) (.newK i mk mv) :=
  ⟨fun T H0 Hf0 => PS.imp (ps_set hN hi hx (pe_disp (pps_cons (hk.run T H0 Hf0) (hv.run T H0 Hf0) pps_nil) rfl rfl (by simp) (by simp)) hs hf) fun D σ H ⟨Hf, env, t, o, A, e, k⟩ => by
    unfold exs at e
    split at e
    · rename_i x1 t1 e1
      split at e
      · rename_i y t2 e2
        split at e
        · rename_i key ek
          split at e
          · rename_i hc
            cases e
            intro p hp
            obtain ⟨f1, f2, f3⟩ := A.fresh hp
            have nm := A.notmut hp
            refine ⟨Hf, env, t, x1, t1, A.other f3 f1 f2 nm, e1, fun v1 Hf1 H1 A1 k1 r1 => ⟨Hf1, env, t1, y, _, A1, e2, fun v2 Hf2 H2 A2 k2 r2 n2 => ?_⟩⟩
            have kk := k1.trans k2
            have hpD : H2 p = some (.dK []) := kk.same p _ f3 upd_same
            have hpF : Hf2 p = none := kk.away p _ upd_same f1
            have hw : NwV H0 v2 := by
              rcases Bool.or_eq_true_iff.mp hc.2 with h | h
              · exact flat_new r2 h
              · exact list_new r2 h n2
            refine ⟨hpD, [(key, v2)], by rw [key_of r1 ek]; rfl, by simp, ?_⟩
            have B := A2.other (o := .dK (mergeK [] [(key, v2)])) f3 hpF f2 nm
            refine k _ _ _ (B.setP f2 rfl ⟨p, _, rfl, hpF, upd_same, ?_, fun _ q hq => ?_⟩ nm) kk.ex
            · exact .cons r2 .nil
            · have hq : q ∈ [(key, v2)] := hq
              rw [List.mem_singleton.mp hq]
              exact hw
          · cases e
        · cases e
      · cases e
    · cases e⟩
/-- dict(d) -/
theorem ss_newD (i j : Nat) {x y z : Str} {pos' p1 p2 p3 : Pos} (hN : X.N.Nodup) (hg : Gl X z) (hm : X.mg z = none) (hb : bootBuiltins z = some (.type "dict")) (hi : X.N[i]? = some x := by rfl) (hx : Loc X.env.scope x := by first | exact Or.inl rfl | exact Or.inr rfl) (hf : X.fn x = true ∨ X.env.scope.names.lookup x = some .local := by first | exact Or.inl rfl | exact Or.inr rfl)
    (hj : X.N[j]? = some y := by rfl) (hv : Vis X.env.scope y := by first | exact Or.inl rfl | exact Or.inr (Or.inl rfl) | exact Or.inr (Or.inr rfl)) (hd : (y == ("__debug__" : Str)) = false := by decide) (hcd : (y == ("__classdict__" : Str)) = false := by decide) (hn : z ≠ "__name__" := by decide) (hdb : (z == ("__debug__" : Str)) = false := by decide)
    (he : starEach [.Name y p1] X.env = (false, eval (.Name y p1) X.env) :: starEach [] X.env := by rfl) (hs : swapsWith (.Call (.Name z p2) [.Name y p1] [] p3) (some (.Name x pos')) pos.line X.env = pure false := by rfl) : SemS N C W X (.Assign [.Name x pos'] (.Call (.Name z p2) [.Name y p1] [] p3) pos) (.newD i j) :=
  ⟨fun T H0 Hf0 => PS.imp (ps_set hN hi hx (pe_callTy call_dictD hg hm hb (pa_cons (pe_var hj hv hd hcd) pa_nil he) hn hdb he) hs hf) fun D σ H ⟨Hf, env, t, o, A, e, k⟩ => by
    unfold exs at e
    split at e
    · rename_i kvs hx
      split at e
      · cases e
        obtain ⟨v, hs, l, vs, rfl, f1, f2⟩ := A.loc j _ hx
        exact ⟨_, hs, l, vs, rfl, .inl (A.ex _ _ f1), fun p hp => k _ _ _ (A.setM hp rfl ⟨p, vs, rfl, (A.fresh hp).1, upd_same, f2, fun z => by cases z⟩) (Ex.refl _)⟩
      · cases e
    · cases e⟩
theorem sb_frzD (i : Nat) (h2 : SemB N C W X sts s2) : SemB N C W X sts (.seq (.frzD i) s2) := ⟨fun T H0 Hf0 => PSs.imp (h2.run T H0 Hf0) fun D σ H ⟨Hf, env, t, o, A, e, k⟩ => by
  rw [x_seq, x_frzD] at e
  split at e
  · rename_i env1 t1 e0
    split at e0
    · rename_i n kvs hx
      cases e0
      obtain ⟨Hf', ex, A'⟩ := A.freezeD hx
      exact ⟨Hf', _, t, o, A', e, k.mono ex⟩
    · cases e0
  · rename_i h
    split at e
    · rename_i n kvs hx
      exact (h _ _ (by rw [hx])).elim
    · cases e⟩
theorem dput_rd {i : Nat} {n : Bool} {kvs : List (L2.Key × PyData)} {vs : List (L2.Key × V)} {l : Addr} {v : V} {x y : PyData} {key : L2.Key} {w : V} (A : Abs K T H0 Hf0 Hf env t σ H) (hx : env[i]? = some (some (.dk n kvs))) (hs : σ[i]? = some (some (.ref l))) (hl : H l = some (.dK vs)) (hr : KvAll Hf vs kvs) (hf : Hf l = none) (hw : n = true → ∀ p ∈ vs, NwV H0 p.2) (rv : Rp Hf v y) (hv : n = true → NwV H0 v) :
    Abs K T H0 Hf0 Hf (env.set i (some (.dk n (putD kvs key y)))) t σ (upd H l (.dK (putK vs key v))) :=
  A.write hx rfl hs hf rfl ⟨l, _, rfl, hf, upd_same, hr.put rv, fun hn => put_new (hw hn) (hv hn)⟩
theorem ss_dput (i : Nat) {x : Str} {ek ev' : Expr} {mk mv : M} {pos' p1 : Pos} (hu : X.A.units + 1 < cLine) (hk : SemE C X ek mk) (hv : SemE C X ev' mv) (hN : X.N[i]? = some x := by rfl) (hvi : Vis X.env.scope x := by first | exact Or.inl rfl | exact Or.inr (Or.inl rfl) | exact Or.inr (Or.inr rfl)) (hd : (x == ("__debug__" : Str)) = false := by decide) (hcd : (x == ("__classdict__" : Str)) = false := by decide)
    (hs : swapsWith ev' (some (.Subscript (.Name x p1) ek pos')) pos.line X.env = pure false := by rfl) : SemS N C W X (.Assign [.Subscript (.Name x p1) ek pos'] ev' pos) (.dput i mk mv) :=
  ⟨fun T H0 Hf0 => PS.imp (ps_dput hu (pe_var hN hvi hd hcd) (hk.run T H0 Hf0) (hv.run T H0 Hf0) hs) fun D σ H ⟨Hf, env, t, o, A, e, q⟩ => by
    unfold exs at e
    split at e
    · rename_i y t1 e1
      split at e
      · rename_i x1 t2 e2
        split at e
        · rename_i n kvs hx
          split at e
          · rename_i key ek
            split at e
            · rename_i hc
              cases e
              obtain ⟨v0, hs0, l, vs0, rfl, _⟩ := A.loc i _ hx
              refine ⟨Hf, env, t, y, t1, A, e1, fun v1 Hf1 H1 A1 k1 r1 => ⟨_, hs0, Hf1, env, t1, x1, _, A1, e2, fun v2 Hf2 H2 A2 k2 r2 => ?_⟩⟩
              obtain ⟨v', hs', l', vs, e', f1, f2, f3, f4⟩ := A2.loc i _ hx
              rw [hs0] at hs'
              cases hs'
              cases e'
              refine ⟨l, _, rfl, by rw [key_of r2 ek]; exact DPut.k f2 (by rw [f3.len]; exact hc.1), q _ _ _ (dput_rd (x := x1) (w := v2) A2 hx hs0 f2 f3 f1 f4 (Rp.mono k2.ex _ _ r1) fun hn => ?_) (k1.trans k2).ex⟩
              subst hn
              exact flat_new r1 (by simpa using hc.2)
            · cases e
          · cases e
        · cases e
      · cases e
    · cases e⟩
theorem ss_dputN (i : Nat) {b : Bool} {x : Str} {ek ev' : Expr} {mk mv : M} {pos' p1 : Pos} (hu : X.A.units + 1 < cLine) (hk : SemE C X ek mk) (hv : SemN C X ev' mv (NwL b)) (hN : X.N[i]? = some x := by rfl) (hvi : Vis X.env.scope x := by first | exact Or.inl rfl | exact Or.inr (Or.inl rfl) | exact Or.inr (Or.inr rfl)) (hd : (x == ("__debug__" : Str)) = false := by decide) (hcd : (x == ("__classdict__" : Str)) = false := by decide)
    (hs : swapsWith ev' (some (.Subscript (.Name x p1) ek pos')) pos.line X.env = pure false := by rfl) : SemS N C W X (.Assign [.Subscript (.Name x p1) ek pos'] ev' pos) (.dputN i mk mv) :=
  ⟨fun T H0 Hf0 => PS.imp (ps_dput hu (pe_var hN hvi hd hcd) (hk.run T H0 Hf0) (hv.run T H0 Hf0) hs) fun D σ H ⟨Hf, env, t, o, A, e, q⟩ => by
    unfold exs at e
    split at e
    · rename_i y t1 e1
      split at e
      · rename_i x1 t2 e2
        split at e
        · rename_i n kvs hx
          split at e
          · rename_i key ek
            split at e
            · rename_i hc
              cases e
              obtain ⟨v0, hs0, l, vs0, rfl, _⟩ := A.loc i _ hx
              refine ⟨Hf, env, t, y, t1, A, e1, fun v1 Hf1 H1 A1 k1 r1 n1 => ⟨_, hs0, Hf1, env, t1, x1, _, A1, e2, fun v2 Hf2 H2 A2 k2 r2 => ?_⟩⟩
              obtain ⟨v', hs', l', vs, e', f1, f2, f3, f4⟩ := A2.loc i _ hx
              rw [hs0] at hs'
              cases hs'
              cases e'
              exact ⟨l, _, rfl, by rw [key_of r2 ek]; exact DPut.k f2 (by rw [f3.len]; exact hc.1), q _ _ _ (dput_rd (x := x1) (w := v2) A2 hx hs0 f2 f3 f1 f4 (Rp.mono k2.ex _ _ r1) fun hn => list_new r1 hc.2 n1) (k1.trans k2).ex⟩
            · cases e
          · cases e
        · cases e
      · cases e
    · cases e⟩
theorem se_lrange {p p2 pos2 : Pos} (hc : X.calm = true) (hg : Gl X "list") (hm : X.mg "list" = none) (hg2 : Gl X "range") (hm2 : X.mg "range" = none) (h : SemE C X e m) (hs : starEach [e] X.env = (false, eval e X.env) :: starEach [] X.env := by rfl)
    (hs2 : starEach [.Call (.Name "range" p2) [e] [] pos2] X.env = (false, eval (.Call (.Name "range" p2) [e] [] pos2) X.env) :: starEach [] X.env := by rfl) : SemE C X (.Call (.Name "list" p) [.Call (.Name "range" p2) [e] [] pos2] [] pos) (.lrange m) :=
  ⟨fun T H0 Hf0 => PE.imp (pe_listRg hc hg hm (prg_1 hg2 hm2 (h.run T H0 Hf0) hs) hs2) fun σ H Q ⟨Hf, env, t, d, t', A, e, k⟩ => by
    unfold ev at e
    split at e
    · rename_i n t1 e1
      split at e
      · rename_i hn
        cases e
        refine ⟨Hf, env, t, _, _, A, e1, fun v Hf1 H1 A1 k1 r1 => ?_⟩
        cases r1
        refine ⟨n, rfl, RgOk.of_le (by omega) (by omega) (by omega) (by omega), fun q hq => ?_⟩
        have e2 : rgV 0 n = (List.range n.toNat).map fun (i : Nat) => V.int (i : Int) := by
          unfold rgV
          rw [Int.sub_zero]
          exact List.map_congr_left fun i _ => by rw [Int.zero_add]
        have ad : Ad Hf1 H1 (upd Hf1 q (.lst (rgV 0 n))) (upd H1 q (.lst (rgV 0 n))) := .new q _ hq
        exact k _ _ _ (ad.abs A1).1 (k1.trans (ad.abs A1).2) (.lst upd_same (by rw [e2]; exact rp_intf (fun i => (i : Int)) _))
      · cases e
    · cases e⟩
theorem se_intN {i : Int} {j} : SemN C X (.Constant (.int i) j pos) (.lit (.int i)) (NwL false) := ⟨fun T H0 Hf0 => PE.imp pe_int fun σ H Q ⟨Hf, env, t, d, t', A, e, k⟩ => by
  unfold ev at e
  cases e
  exact k _ _ _ A (Kp.refl _ _ _) (.int i) fun g vs e1 => by cases e1⟩
/-! ### the links in short words -/
theorem ywhileL (i : Nat) {x : Str} {p1 : Pos} {body : List Stmt} (hb : SemB N C W X body s1) (hp : PassesOwn (model X.prog X.w) X.A X.env X.xe := by exact PassesOwn.never) (hN : X.N[i]? = some x := by rfl) (hv : Vis X.env.scope x := by first | exact Or.inl rfl | exact Or.inr (Or.inl rfl) | exact Or.inr (Or.inr rfl)) (hd : (x == ("__debug__" : Str)) = false := by decide) (hcd : (x == ("__classdict__" : Str)) = false := by decide)
    (he : ∀ whole, isTrue (.Name x p1) X.env whole = (do let v ← whole; standAt (Expr.Name x p1).pos; holding [v] (truthy v)) := by intro _; rfl) : SemS N C W X (.While (.Name x p1) body [] pos) (.whileL i s1) := ss_whileL i hp hN hv hb hd hcd he
end
end Pl

set_option Elab.async false
set_option linter.all false
set_option maxRecDepth 100000
set_option maxHeartbeats 4000000
/-! Pl: set(xs) of a list of ints, and sorted(set(xs)). -/
namespace Pl
open PySem PySem.Spec PyProof.Rows L2
/-- an empty set as set() lays it -/
def bare (w : World) : Obj := { cls := .type "set", dict := none, data := .set #[] 0 (.fresh 0 0 (!w.params.followText "set-order")) }
def itOf (l : Addr) : Obj := { cls := .type "list_iterator", data := .fields #[.ref l, .int 0 0] }
section
variable {P : Program} {w : World} {s : Shared} {l : Addr} {its : Array Value}
theorem ints_at {ns : List Int} (hi : IntsAre its.toList ns) : its.size = ns.length ∧ ∀ (i : Nat) (v : Value), its[i]? = some v → ∃ k t, ns[i]? = some k ∧ v = .int k t := by
  have hn : its.size = ns.length := by
    rw [← Array.length_toList, IntsAre.length hi]
  refine ⟨hn, fun i v hv => ?_⟩
  have lt : i < ns.length := by
    rw [← hn]
    exact (Array.getElem?_eq_some_iff.mp hv).1
  obtain ⟨t, e⟩ := IntsAre.int_at hi i v (by simpa using hv)
  exact ⟨ns[i], t, List.getElem?_eq_getElem lt, by rw [e, List.getD_eq_getElem?_getD, List.getElem?_eq_getElem lt, Option.getD_some]⟩
/-- the loop that takes the list's ints in -/
theorem fill_list {B : Around} (ns : List Int) (hB : B.in1.handled = none) (hl : s.heap.IsList l its) (hi : IntsAre its.toList ns) (hb : ns.length + 1 < scanBound) {R : Result → Shared → Prop}
    (hR : ∀ (h' : Heap) (tk c : Nat), SetR w h' s.heap.objs.size (fun j => decide (j ∈ ns)) c → c ≤ ns.length → (∀ b o, s.heap.get? b = some o → h'.get? b = some o) → R (.ok (.ret .none)) { s with heap := h', toks := tk }) :
    codeAny (model P w) B (.builtin "set.update.loop" ⟨[.ref s.heap.objs.size, .ref (s.heap.push (bare w)).objs.size], []⟩) R { s with heap := (s.heap.push (bare w)).push (itOf l) } := by
  obtain ⟨hn, hv⟩ := ints_at hi
  have sz : (s.heap.push (bare w)).objs.size = s.heap.objs.size + 1 := Heap.size_push ..
  have hls : l < s.heap.objs.size := by
    obtain ⟨o, e, _⟩ := hl
    exact Heap.lt_size e
  have ne : l ≠ (s.heap.push (bare w)).objs.size := Nat.ne_of_lt (sz ▸ Nat.lt_succ_of_lt hls)
  have out : s.heap.objs.size ∉ [(s.heap.push (bare w)).objs.size, l] := fun h => by
    rcases List.mem_cons.mp h with z | z
    · exact Nat.ne_of_lt (Nat.lt_succ_self _) (z.trans sz)
    · exact Nat.ne_of_gt hls (List.mem_singleton.mp z)
  have start : ((s.heap.push (bare w)).push (itOf l)).get? s.heap.objs.size = some (bare w) := Heap.get?_push_of_some _ (Heap.get?_push_size _ rfl)
  refine set_update_ints (Walks.list hB _ l ne its).toS _ out ns hn hb hv its.size 0 _ (Nat.sub_zero _) (Nat.zero_le _) ⟨⟨itOf l, Heap.get?_push_size _ rfl, rfl, rfl⟩, (hl.push _).push _⟩ ⟨0, Nat.le_refl 0, setR_new_at start⟩ fun s' c mv hc S' => ?_
  obtain ⟨h', g2, d2, tk, os2⟩ := s'
  obtain rfl : g2 = s.gens := mv.gens
  obtain rfl : d2 = s.drawn := mv.drawn
  obtain rfl : os2 = s.os := mv.os
  refine hR h' tk c S' (by rw [← hn]; exact hc) fun b o e => mv.heap b o (fun z => ?_) (Heap.get?_push_of_some _ (Heap.get?_push_of_some _ e))
  have old := Heap.lt_size e
  rcases List.mem_cons.mp z with z | z
  · exact Nat.ne_of_lt old z
  · exact Nat.ne_of_lt (Nat.lt_succ_of_lt old) ((List.mem_singleton.mp z).trans sz)
variable {A : Around} {E : Value → Shared → Prop}
/-- set(xs) -/
theorem set_list (ns : List Int) {Q : Value → Shared → Prop} (hh : A.handled = none) (hl : s.heap.IsList l its) (hi : IntsAre its.toList ns) (hb : ns.length + 1 < scanBound)
    (hQ : ∀ (h' : Heap) (tk c : Nat), SetR w h' s.heap.objs.size (fun j => decide (j ∈ ns)) c → c ≤ ns.length → (∀ b o, s.heap.get? b = some o → h'.get? b = some o) → Q (.ref s.heap.objs.size) { s with heap := h', toks := tk }) :
    wpAny (model P w) A (call (.type "set") [.ref l]) Q E s := by
  have made := F.called_set.made
  have sub := F.called_set.sub
  have notT := F.called_set.notType
  have can := F.called_set.canCreate
  have one := F.typeCall_set_1 (.ref l)
  obtain ⟨c0, tl0, mro⟩ := F.called_set.mro
  apply wpAny_call
  apply codeAny_of_tree
  show wpAny _ _ (callAny (.type "set") _) _ _ _
  apply wpAny_pure
  refine ⟨Code.quiet_builtin _ (by decide +kernel), ?_⟩
  apply codeAny_builtin F.entry_type_call
  rw [Around.under_plain (weight_type_call_type "set" [.ref l] []) rfl]
  repeat any_goals (first | assumption | wp_step)
  refine codeAny_mono (code_set_led1 (.ref l) (E := E) (Q₁ := fun obj s₁ => obj = .ref s.heap.objs.size ∧ s₁ = { s with heap := s.heap.push (bare w) }) ⟨rfl, rfl⟩) fun res s1 h1 => ?_
  match res, h1 with
  | .error _, h1 => exact h1
  | .ok (.ret obj), ⟨e1, e2⟩ =>
    subst e1 e2
    have at0 : (s.heap.push (bare w)).get? s.heap.objs.size = some (bare w) := Heap.get?_push_size _ rfl
    have isSet : Shared.TypeIs { s with heap := s.heap.push (bare w) } (.ref s.heap.objs.size) "set" := ⟨_, at0, rfl⟩
    have look := F.called_set.init.lookup
    have bind := F.called_set.init.bind (.ref s.heap.objs.size)
    repeat any_goals (first | assumption | wp_step)
    refine codeAny_mono (codeAny_call_builtin (R := wants (fun r s2 => r = .none ∧ ∃ h' tk c, s2 = { s with heap := h', toks := tk } ∧ SetR w h' s.heap.objs.size (fun j => decide (j ∈ ns)) c ∧ c ≤ ns.length ∧ ∀ b o, s.heap.get? b = some o → h'.get? b = some o) E)
      F.called_set.init.plain F.entry_set_init (check_set_init_1 isSet ?_)) fun res2 s2 h2 => ?_
    · have hl0 := hl
      obtain ⟨⟨cls, dict, data, slots⟩, here, kind, n, dat⟩ := hl0
      obtain rfl : cls = _ := kind
      obtain rfl : data = _ := dat
      have here' : (s.heap.push (bare w)).get? l = some ⟨.type "list", dict, .seq its n, slots⟩ := Heap.get?_push_of_some _ here
      have no1 := F.sub_list_set
      have no2 := F.sub_list_frozenset
      have no3 : (Value.type "list" == Value.type "dict") = false := by decide
      have hl1 : (s.heap.push (bare w)).IsList l its := hl.push _
      unfold Builtin.«set.__init__» noKeywords Builtin.Frozenset.updateFrom
      generalize hold : pyIter = walk
      wp_walk
      subst hold
      apply wpAny_pyIter_list hl1
      apply wpAny_bind
      apply wpAny_runValue
      refine fill_list ns (by simp [hh]) hl hi hb fun h' tk c S' hc k => ?_
      show wpAny _ _ _ _ _ _
      apply wpAny_pure
      show wpAny _ _ (ret Value.none) _ _ _
      exact wpAny_pure ⟨rfl, h', tk, c, rfl, S', hc, k⟩
    · match res2, h2 with
      | .error _, h2 => exact h2
      | .ok (.ret r), ⟨e3, h', tk, c, e4, S', hc, k⟩ =>
        subst e3 e4
        repeat any_goals (first | assumption | wp_step)
        exact hQ _ _ _ S' hc k
end
end Pl

set_option Elab.async false
set_option linter.all false
set_option maxRecDepth 100000
set_option maxHeartbeats 1000000
/-! Pl: sorted(set(xs)), sums. -/
namespace Pl
open PySem PySem.Spec PyProof.Rows L2
section
variable {C : CallF} {X : Cx} {e : Expr} {m : M} {pos : Pos}
def rSetI (K : PySem.W.Frag) (w : World) : List V → Hp → VK → Prop := fun xs H Q => ∃ (l : Addr) (ns : List Int), xs = [V.ref l] ∧ SqL K H l (ns.map V.int) ∧ ns.length + 1 < scanBound ∧
  ∀ p c, H p = none → c ≤ ns.length → Q (.ref p) (upd H p (SetO w p (fun j => decide (j ∈ ns)) c))
theorem cr_setI (hc : X.calm = true) : CallR X (.type "set") (rSetI X.K X.w) := by
  intro pins s σ H xs us Q I r h
  obtain ⟨l, ns, rfl, hl, hb, q⟩ := h
  rw [Vals.ref1 r]
  obtain ⟨its, rv, pl, hz⟩ := I.list hl
  refine set_list (P := X.prog) (w := X.w) ns (I.ok.hd hc) pl.isList (ints_of_vals rv) hb fun h' tk c S' hle k => ?_
  exact ⟨.ref s.heap.objs.size, upd H s.heap.objs.size (SetO X.w s.heap.objs.size (fun j => decide (j ∈ ns)) c), I.laid (t' := tk) k (Nat.le_refl _) (setO_new S'), rfl, q _ c (I.hok.fresh (Nat.le_refl _)) hle⟩
theorem dedup_mem : ∀ {ns : List Int} {k : Int}, k ∈ dedupI ns ↔ k ∈ ns
  | [], k => Iff.rfl
  | x :: r, k => by
    unfold dedupI
    split
    · rename_i h
      rw [dedup_mem, List.mem_cons]
      exact ⟨Or.inr, fun z => z.elim (fun e => e ▸ h) id⟩
    · rw [List.mem_cons, List.mem_cons, dedup_mem]
theorem dedup_nodup : ∀ ns : List Int, (dedupI ns).Nodup
  | [] => List.nodup_nil
  | x :: r => by
    unfold dedupI
    split
    · exact dedup_nodup r
    · rename_i h
      exact List.nodup_cons.mpr ⟨fun z => h (dedup_mem.mp z), dedup_nodup r⟩
theorem lt_le_pairwise {l : List Int} (h : l.Pairwise (· < ·)) : l.Pairwise (· ≤ ·) ∧ l.Nodup := ⟨h.imp fun z => Int.le_of_lt z, h.imp fun z e => by omega⟩
theorem perm_of_mem : ∀ {a b : List Int}, a.Nodup → b.Nodup → (∀ k, k ∈ a ↔ k ∈ b) → a.Perm b
  | [], b, _, _, h => by
    cases b with
    | nil => exact List.Perm.nil
    | cons x r => exact absurd ((h x).mpr List.mem_cons_self) (by simp)
  | x :: r, b, ha, hb, h => by
    have hx : x ∈ b := (h x).mp List.mem_cons_self
    have p := List.perm_cons_erase hx
    refine (List.Perm.cons x (perm_of_mem (List.nodup_cons.mp ha).2 (hb.erase x) fun k => ?_)).trans p.symm
    rw [hb.mem_erase_iff, ← h k, List.mem_cons]
    constructor
    · exact fun z => ⟨fun e => (List.nodup_cons.mp ha).1 (e ▸ z), Or.inr z⟩
    · exact fun z => z.2.resolve_left z.1
/-- sorted(set(xs)) -/
theorem se_sset {p1 p2 pos2 : Pos} (hc : X.calm = true) (hg : Gl X "sorted") (hm : X.mg "sorted" = none) (hv : bootBuiltins "sorted" = some (.builtin "sorted")) (hg2 : Gl X "set") (hm2 : X.mg "set" = none) (hv2 : bootBuiltins "set" = some (.type "set")) (h : SemE C X e m) (he : starEach [e] X.env = (false, eval e X.env) :: starEach [] X.env := by rfl)
    (he2 : starEach [.Call (.Name "set" p2) [e] [] pos2] X.env = (false, eval (.Call (.Name "set" p2) [e] [] pos2) X.env) :: starEach [] X.env := by rfl) : SemE C X (.Call (.Name "sorted" p1) [.Call (.Name "set" p2) [e] [] pos2] [] pos) (.sset m) :=
  ⟨fun T H0 Hf0 => PE.imp (pe_callB (cr_sortedSet hc) hg hm hv (pa_cons (pe_callTy (cr_setI hc) hg2 hm2 hv2 (pa_cons (h.run T H0 Hf0) pa_nil he) (by decide) (by decide) he) pa_nil he2) (by decide) (by decide) he2) fun σ H Q ⟨Hf, env, t, d, t', A, e, k⟩ => by
    unfold ev at e
    split at e
    · rename_i xs t1 e1
      split at e
      · rename_i ns hns
        split at e
        · rename_i h64
          cases e
          refine ⟨Hf, env, t, .list xs, _, A, e1, fun v Hf1 H1 A1 k1 r1 => ?_⟩
          cases r1 with
          | @lst l vs _ hl hr =>
            have hv := hr.ints hns
            subst hv
            refine ⟨l, ns, rfl, SqL.of (A1.ex _ _ hl), Nat.lt_trans (Nat.succ_lt_succ h64) (by decide), fun p c hp hcn => ?_⟩
            obtain ⟨f1, f2, f3⟩ := A1.fresh hp
            have A2 := A1.other (o := SetO X.w p (fun j => decide (j ∈ ns)) c) f3 f1 f2 (A1.notmut hp)
            have kk : Kp T Hf1 H1 Hf1 (upd H1 p (SetO X.w p (fun j => decide (j ∈ ns)) c)) := (Kp.refl _ _ _).grow f3 hp
            refine ⟨p, _, c, rfl, upd_same, by omega, fun ys q hs hm hlen hq => ?_⟩
            have hperm : ys.Perm (dedupI ns) := perm_of_mem (lt_le_pairwise hs).2 (dedup_nodup ns) fun k => by
              rw [hm k, dedup_mem, decide_eq_true_eq]
            rw [sortI_uniq hperm (lt_le_pairwise hs).1]
            exact k (.ref q) _ _ (A2.newd hq) (k1.trans (kk.trans (A2.kpn hq))) (.lst upd_same (rp_ints _))
        · cases e
      · cases e
    · cases e⟩
end
end Pl

set_option Elab.async false
set_option linter.all false
set_option maxRecDepth 100000
set_option maxHeartbeats 1000000
/-! Pl: a law's tail that changes the second part of a pair that was told. -/
namespace Pl
open PySem PySem.Spec PyProof.Rows L2
/-- a pair whose second part is a new list -/
def New2 (H Hx : Hp) (v : V) : Prop := ∃ (p : Addr) (o : Obj) (vm : V) (g : Addr) (gs : List V), v = .ref p ∧ Hx p = some (.frz o (.tup [vm, .ref g])) ∧ Hx g = some (.lst gs) ∧ H g = none ∧ gs.length < sizeLine
theorem New2.mono {H Hx Hy : Hp} {v : V} (h : New2 H Hx v) (e : Ex Hx Hy) : New2 H Hy v := by
  obtain ⟨p, o, vm, g, gs, h1, h2, h3, h4⟩ := h
  exact ⟨p, o, vm, g, gs, h1, e _ _ h2, e _ _ h3, h4⟩
def Nw2 (H Hx : Hp) (v : V) : Prop := ∀ p o vm vg, v = .ref p → Hx p = some (.frz o (.tup [vm, vg])) → NwL false H Hx vg
theorem new2_of {H Hx : Hp} {v : V} {r : PyData} (hb : new2B r = true) (hr : Rp Hx v r) (n : Nw2 H Hx v) : New2 H Hx v := by
  unfold new2B at hb
  split at hb
  · rename_i m gs
    have b := of_decide_eq_true hb
    cases hr with
    | @tup p o xs _ h hd hs =>
      cases hs with
      | @cons vm _ _ _ hm hs =>
        cases hs with
        | @cons v1 _ _ _ h1 hs =>
          cases hs
          cases h1 with
          | @lst g xs1 _ hg hr1 => exact ⟨p, o, vm, g, xs1, rfl, h, hg, (n _ _ _ _ rfl h _ _ rfl hg).1, by rw [hr1.len]; exact Nat.lt_of_lt_of_le b (by decide)⟩
  · cases hb
def sp2 (K : PySem.W.Frag) (C : CallF) (np f : Nat) : Sp := fun vs H Q _ => vs.length = np ∧ ∃ T Hf lvs t r t', C f lvs t = some (r, t') ∧ new2B r = true ∧ Ex Hf H ∧ Hf T = none ∧ H T = some (.lst [.int t]) ∧ Paired (ArgOK K T Hf) vs lvs ∧
  ∀ v Hf' H', Ex Hf' H' → Kp T Hf H Hf' H' → H' T = some (.lst [.int t']) → Rp Hf' v r → New2 H Hf' v → Q v H'
section
variable (K : PySem.W.Frag) (C : CallF) (W : Nat) (T : Addr) (H0 Hf0 : Hp)
def tTl2 (i : Nat) (qs : List M) (c : M) (r1 r2 : S) : TS := fun D σ H => ∃ (Hf : Hp) (env : Env) (t : Int) (Hx : Hp) (x : PyData) (t3 : Int) (o : Out) (v : V), Abs K T H0 Hf0 Hf (env.set i none) t σ H ∧ Abs K T H0 Hf0 Hx (env.set i (some (.d x))) t σ H ∧ Ex Hf Hx ∧ σ[i]? = some (some v) ∧ (∃ Hn, New2 Hn Hx v ∧ (∀ a, Hn a = none → Hf a = none ∧ H0 a = none ∧ a ≠ T)) ∧ noMut (env.set i none) ∧
  qtest C (env.set i (some (.d x))) qs t = some t3 ∧ tail2 C W c r1 r2 (env.set i none) (env.set i (some (.d x))) t3 = some o ∧ Wants NwT K T H0 Hf0 Hf D o
end
structure SemL2 (C : CallF) (W : Nat) (X : Cx) (sts : List Stmt) (i : Nat) (qs : List M) (c : M) (r1 r2 : S) : Prop where
  run : ∀ T H0 Hf0, PSs X sts (tTl2 X.K C W T H0 Hf0 i qs c r1 r2)
section
variable {C : CallF} {W : Nat} {X : Cx} {a b c e tg : Expr} {es : List Expr} {ma mb mc m mq : M} {pos : Pos} {K : PySem.W.Frag} {T : Addr} {H0 Hf0 Hf : Hp} {env : Env} {t t1 t2 : Int} {σ : L2.St} {H : Hp} {st : Stmt} {sts : List Stmt} {s1 s2 r1 r2 : S} {qs : List M} {i : Nat}
theorem sl2_test {body : List Stmt} {mr : S} (hc : SemT C X c mc) (hb : SemB NwT C W X body mr) (h : SemL2 C W X sts i qs mq r1 r2) : SemL2 C W X (.If c body [] pos :: sts) i (mc :: qs) mq r1 r2 :=
  ⟨fun T H0 Hf0 => PSs.imp (pss_cons (ps_if (hc.run T H0 Hf0) (hb.run T H0 Hf0) pss_nil) (h.run T H0 Hf0)) fun D σ H ⟨Hf, env, t, Hx, x, t3, o, v, A, Ax, ex, hs, hn, nm, q, e, k⟩ => by
    unfold qtest at q
    split at q
    · rename_i t1 e1
      refine ⟨Hx, _, t, false, t1, Ax, e1, fun Hx1 H1 A1 k1 => iteF ?_⟩
      have kk : Kp T Hf H Hf H1 := ⟨Ex.refl _, k1.same, fun _ _ _ h => h, k1.tt⟩
      obtain ⟨Hn, n3, hn⟩ := hn
      exact ⟨Hf, env, t1, Hx1, x, t3, o, v, A.kept kk (fun a u h => k1.same a u (fun e => by
        subst e
        rw [A.tf] at h
        cases h) (A.ex a u h)) A1.th, A1, ex.trans k1.ex, hs, ⟨Hn, n3.mono k1.ex, hn⟩, nm, q, e, k⟩
    · cases q⟩
theorem sl2_end {x : Str} {ca : Expr} {w1 : V} {q1 q2 q3 q4 q5 q6 : Pos} {j3} {rest : List Stmt} (hN : X.N[i]? = some x) (hv : Vis X.env.scope x) (hc : SemT C X c mc) (ha : PE X ca (tC w1)) (h1 : SemB NwT C W X rest r1) (h2 : SemB NwT C W X sts r2) (hd : (x == ("__debug__" : Str)) = false := by decide) (hcd : (x == ("__classdict__" : Str)) = false := by decide)
    (hb2 : attributeBase (.Subscript (.Name x q1) (.Constant (.int 1) j3 q2) q3) "append" X.env (eval (.Subscript (.Name x q1) (.Constant (.int 1) j3 q2) q3) X.env) = eval (.Subscript (.Name x q1) (.Constant (.int 1) j3 q2) q3) X.env := by rfl)
    (hf2 : ((backTo q5 (starEach [ca] X.env)).all (fun x => !x.1) && (backToKw q5 (keywordEach [] X.env)).all (fun x => x.1.isSome) && decide ([ca].length + ([] : List Keyword).length + (if ([] : List Keyword).isEmpty then 0 else 1) < 30)) = true := by rfl)
    (hl2 : (q4.endLine == q5.line) = true := by rfl) (hs2 : starEach [ca] X.env = (false, eval ca X.env) :: starEach [] X.env := by rfl) (hw2 : swapsWith (.Call (.Attribute (.Subscript (.Name x q1) (.Constant (.int 1) j3 q2) q3) "append" q4) [ca] [] q5) none q6.line X.env = pure false := by rfl) :
    SemL2 C W X (.If c (.Expr (.Call (.Attribute (.Subscript (.Name x q1) (.Constant (.int 1) j3 q2) q3) "append" q4) [ca] [] q5) q6 :: rest) [] pos :: sts) i [] mc r1 r2 :=
  ⟨fun T H0 Hf0 => PSs.imp (pss_cons (ps_if (hc.run T H0 Hf0) (pss_cons (ps_expr (pe_bm F.plainAttrs_list F.slot_list_append F.type_list_append mt_append (pe_ix ix_tup (pe_var hN hv hd hcd) pe_int (fun _ _ => rfl)) (pa_cons ha pa_nil hs2) hb2 hf2 hl2 hs2) hw2) (h1.run T H0 Hf0)) pss_nil) (h2.run T H0 Hf0)) fun D σ H ⟨Hf, env, t, Hx, x, t3, o, v, A, Ax, ex, hs, ⟨Hn, n2, hn⟩, nm, q, e, k⟩ => by
    cases q
    unfold tail2 at e
    split at e
    · rename_i t4 e1
      split at e
      · rename_i d t5 e2
        cases e
        refine ⟨Hx, _, t, true, t4, Ax, e1, fun Hx1 H1 A1 k1 => iteT ?_⟩
        obtain ⟨p, ob, vm, g, gs, rfl, g1, g2, g3, z2⟩ := n2.mono k1.ex
        have h1 := A1.ex _ _ g1
        have h4 := A1.ex _ _ g2
        obtain ⟨b1, b2, b3⟩ := hn _ g3
        have kk : Kp T Hf H Hf H1 := ⟨Ex.refl _, k1.same, fun _ _ _ h => h, k1.tt⟩
        have A' := A.kept kk (fun a u h => k1.same a u (fun e => by
          subst e
          rw [A.tf] at h
          cases h) (A.ex a u h)) A1.th
        have nmA : ∀ (D : Addr) (j : Nat) (lv : LV), (env.set i none)[j]? = some (some lv) → lv.mut = true → σ[j]? ≠ some (some (.ref D)) := fun D j lv hj hm => by
          rw [nm j lv hj] at hm
          cases hm
        refine ⟨.ref p, hs, p, _, 1, .ref g, rfl, rfl, .inl (.inr ⟨ob, h1⟩), rfl, .inl ⟨rfl, _, SqL.of h4⟩, g, gs, w1, rfl, rfl, h4, z2, ?_⟩
        exact ⟨Hf, _, _, _, A'.other b3 b1 b2 (nmA g), e2, k⟩
      · cases e
    · rename_i t4 e1
      refine ⟨Hx, _, t, false, t4, Ax, e1, fun Hx1 H1 A1 k1 => iteF ?_⟩
      exact ⟨Hx1, _, _, o, A1, e, k.mono (ex.trans k1.ex)⟩
    · cases e⟩
theorem sb_tail2 {f k np : Nat} {fa : Addr} {fd : FuncData} {ps : List Str} {x y : Str} {pos' p p3 : Pos} (F : FnOk X.prog X.w X.K X.mg X.base CX0 k fa fd ps (sp2 X.K C np f)) (hr : Room k X.A) (hm : X.mg x = some (.ref fa)) (hk : PySem.W.keepIn X.K (.ref fa) = true) (hb : Binds X.K fd ps [])
    (hNd : X.N.Nodup) (ha : SemA C X (e :: es) m) (hL : SemL2 C W X sts i qs mq r1 r2) (hi : X.N[i]? = some y := by rfl) (hx : Loc X.env.scope y := by first | exact Or.inl rfl | exact Or.inr rfl) (hf : X.fn y = true ∨ X.env.scope.names.lookup y = some .local := by first | exact Or.inl rfl | exact Or.inr rfl) (hml : argc m = np := by rfl) (hg : Gl X x := by rfl)
    (hdb : (x == ("__debug__" : Str)) = false := by decide) (he : starEach (e :: es) X.env = (false, eval e X.env) :: starEach es X.env := by rfl) (hpl : (backTo p (starEach es X.env)).any (·.1) = false := by rfl) (hs : swapsWith (.Call (.Name x p3) (e :: es) [] p) (some (.Name y pos')) pos.line X.env = pure false := by rfl) :
    SemB NwT C W X (.Assign [.Name y pos'] (.Call (.Name x p3) (e :: es) [] p) pos :: sts) (.tail2 i f m qs mq r1 r2) :=
  ⟨fun T H0 Hf0 => PSs.imp (pss_cons (ps_set hNd hi hx (pe_call F hr hg hm hk hb .nil pass0 (ha.run T H0 Hf0) hdb he hpl) hs hf) (hL.run T H0 Hf0)) fun D σ H ⟨Hf, env, t, o, A, e, q⟩ => by
    unfold exs at e
    split at e
    · rename_i lvs t1 e1
      split at e
      · rename_i x0 t2 e2
        split at e
        · rename_i hne
          split at e
          rotate_left
          · cases e
          rename_i t3 e3
          refine ⟨Hf, env, t, lvs, t1, A, e1, fun vs Hf1 H1 A1 k1 r1 => ?_⟩
          show sp2 X.K C np f (vs ++ []) H1 _ E0
          rw [List.append_nil]
          refine ⟨by rw [paired_len r1]; rw [evs_len m _ _ _ e1, hml], T, Hf1, lvs, t1, x0, t2, e2, hne.2.2, A1.ex, A1.tf, A1.th, r1, fun v Hf2 H2 ex2 k2 th rr n3 => ?_⟩
          have A2 := A1.kept k2 ex2 th
          have kk : Kp T Hf1 H1 Hf1 H2 := ⟨Ex.refl _, k2.same, fun _ _ _ h => h, k2.tt⟩
          have A3 : Abs X.K T H0 Hf0 Hf1 env t2 σ H2 := A1.kept kk (k2.ex.trans ex2) th
          exact ⟨Hf1, env, t2, Hf2, x0, t3, o, v, A3.forget, A2.set rr, k2.ex, List.getElem?_set_self (by
              rw [A.len]
              exact hne.2.1), ⟨H1, n3, fun a ha => A1.fresh ha⟩, noMut_of hne.1, e3, by unfold tail2; exact e, q.mono k1.ex⟩
        · cases e
      · cases e
    · cases e⟩
/-! ### pairs with a new second part -/
theorem se_tup2N {x1} {e0 e1 : Expr} {m0 m1 : M} (h0 : SemE C X e0 m0) (h1 : SemN C X e1 m1 (NwL false)) (n0 : ∀ i, m0 ≠ .tape i := by intro _ h; cases h) (n1 : ∀ i, m1 ≠ .tape i := by intro _ h; cases h) (z0 : m0 ≠ .edict := by intro h; cases h) (z1 : m1 ≠ .edict := by intro h; cases h)
    (s0 : starEach [e0, e1] X.env = (false, eval e0 X.env) :: starEach [e1] X.env := by rfl) (s1 : starEach [e1] X.env = (false, eval e1 X.env) :: starEach [] X.env := by rfl) :
    SemN C X (.Tuple [e0, e1] x1 pos) (.tup (.cons m0 (.cons m1 .nil))) Nw2 :=
  ⟨fun T H0 Hf0 => PE.imp (pe_tupS (pa_cons (h0.run T H0 Hf0) (pa_cons (h1.run T H0 Hf0) pa_nil s1) s0)) fun σ H Q ⟨Hf, env, t, d, t', A, e, k⟩ => by
    unfold ev at e
    split at e
    · rename_i lvs tt el
      obtain ⟨d0, t1, r0, a1, el1, rfl⟩ := evs_cons n0 z0 el
      obtain ⟨d1, t2, r1, a2, el2, rfl⟩ := evs_cons n1 z1 el1
      unfold evs at el2
      cases el2
      cases e
      refine ⟨Hf, env, t, d0, t1, A, a1, fun v0 Hf1 H1 A1 k1 q0 => ⟨Hf1, env, t1, d1, _, A1, a2, fun v1 Hf2 H2 A2 k2 q1 w1 => ⟨by show 2 ≤ sizeLine; decide, fun p o hp hd => ?_⟩⟩⟩
      have ad : Ad Hf2 H2 (upd Hf2 p (.frz o (.tup [v0, v1]))) (upd H2 p (.frz o (.tup [v0, v1]))) := .new p _ hp
      have en : Ex Hf2 (upd Hf2 p (.frz o (.tup [v0, v1]))) := Ex.new (ex_none A2.ex hp)
      refine k (.ref p) _ _ (ad.abs A2).1 (k1.trans (k2.trans (ad.abs A2).2)) (.tup upd_same hd (.cons (Rp.mono (k2.ex.trans en) _ _ q0) (.cons (Rp.mono en _ _ q1) .nil))) fun p' o' vm vg e1 e2 => ?_
      cases e1
      rw [upd_same] at e2
      cases e2
      exact w1.later q1 en
    · cases e⟩
/-- a dict's new list -/
theorem se_dgetL (i : Nat) {x : Str} {p1 : Pos} (hu : X.A.units + 1 < cLine) (ha : SemE C X a ma) (hs : NoSl a := by intro _ _; rfl) (hN : X.N[i]? = some x := by rfl) (hv : Vis X.env.scope x := by first | exact Or.inl rfl | exact Or.inr (Or.inl rfl) | exact Or.inr (Or.inr rfl)) (hd : (x == ("__debug__" : Str)) = false := by decide) (hcd : (x == ("__classdict__" : Str)) = false := by decide) :
    SemN C X (.Subscript (.Name x p1) a pos) (.dgetN i ma) (NwL false) :=
  ⟨fun T H0 Hf0 => PE.imp (pe_dget hu (pe_var hN hv hd hcd) (ha.run T H0 Hf0) hs) fun σ H Q ⟨Hf, env, t, d, t', A, e, k⟩ => by
    unfold ev at e
    split at e
    · rename_i kvs hk
      exact dget_rd A e fun v Hf' H' A' k' r n => k v Hf' H' A' k' r fun g vs e1 e2 => ⟨n kvs hk g e1, fun z => by cases z⟩
    · cases e⟩
end
theorem fn_sem2 {C : CallF} {W : Nat} {K : PySem.W.Frag} {P : Program} {w : World} {mg : Str → Option Value} {base : Heap} {x qual : Str} {st : Stmt} {fa : Addr} {fd : FuncData} {N ps : List Str} {k f : Nat} {C' : CallF} {fm : FnM} (F : Fun K x qual st fa fd) (S : FnScope N ps (defScope st)) (hnp : ps.length = fm.np) (hn : N.length = fm.n)
    (hC : ∀ args t, C' f args t = runF C W fm args t)
    (hb : ∀ (cdv : Value) (A : Around) (outer : List PySem.Env) (s : Shared) (H : Hp) (E : XK), Room k (A.deeper (envOfC qual (defScope st) s.heap.objs.size fa cdv)) → SemB Nw2 C W (cxOf CX0 P w K mg base N qual (defScope st) fa cdv A outer s H E).nox (defBody st) fm.body) :
    FnOk P w K mg base CX0 (k + 1) fa fd ps (sp2 K C' fm.np f) :=
  fn_semN F S hnp hn hC (fun vs H Q E h => by
    obtain ⟨hl, T, Hf, lvs, t, r, t', hc, hb3, ex, tf, th, ra, q⟩ := h
    exact ⟨hl, T, Hf, lvs, t, r, t', hc, fun e => (by rw [e] at hb3; cases hb3), ex, tf, th, ra, fun v Hf' H' e1 e2 e3 e4 n => q v Hf' H' e1 e2 e3 e4 (new2_of hb3 e4 n)⟩) hb
end Pl

set_option Elab.async false
set_option linter.all false
set_option maxRecDepth 100000
set_option maxHeartbeats 4000000
namespace Lw
open PySem PySem.Spec PyProof.Rows L2 Pl
/-! ### the text, by places -/
def topS (i : Nat) : Stmt := PySem.Challenge.pw_placesay_k06_sought.main.body.getD i (.Pass ⟨0, 0, 0, 0⟩)
abbrev ssought : Stmt := topS 1
abbrev nsought : List Str := ["machine", "rows", "waiting", "marks", "steps", "good", "room", "spot", "other"]
abbrev psought : List Str := ["machine"]
theorem scsought : FnScope nsought psought (defScope ssought) := ⟨rfl, rfl, rfl, by decide +kernel, rfl, by decide +kernel, by decide +kernel⟩
abbrev slaw_draw : Stmt := topS 3
abbrev nlaw_draw : List Str := ["_law_script", "_law_tape", "_law_many", "_law_seed", "_law_cell"]
abbrev plaw_draw : List Str := ["_law_script", "_law_tape", "_law_many"]
theorem sclaw_draw : FnScope nlaw_draw plaw_draw (defScope slaw_draw) := ⟨rfl, rfl, rfl, by decide +kernel, rfl, by decide +kernel, by decide +kernel⟩
abbrev slaw_marks : Stmt := topS 4
abbrev nlaw_marks : List Str := ["_law_script", "_law_tape", "_law_many", "_law_signs", "_law_at", "_law_step", "_law_k"]
abbrev plaw_marks : List Str := ["_law_script", "_law_tape", "_law_many"]
theorem sclaw_marks : FnScope nlaw_marks plaw_marks (defScope slaw_marks) := ⟨rfl, rfl, rfl, by decide +kernel, rfl, by decide +kernel, by decide +kernel⟩
abbrev slaw_things : Stmt := topS 5
abbrev nlaw_things : List Str := ["_law_script", "_law_tape", "_law_many", "_law_signs", "_law_way", "_law_k"]
abbrev plaw_things : List Str := ["_law_script", "_law_tape", "_law_many"]
theorem sclaw_things : FnScope nlaw_things plaw_things (defScope slaw_things) := ⟨rfl, rfl, rfl, by decide +kernel, rfl, by decide +kernel, by decide +kernel⟩
abbrev slaw_machine : Stmt := topS 6
abbrev nlaw_machine : List Str := ["_law_script", "_law_tape", "_law_marks_here", "_law_many", "_law_steps", "_law_good", "_law_room", "_law_row", "_law_mark", "_law_to"]
abbrev plaw_machine : List Str := ["_law_script", "_law_tape", "_law_marks_here"]
theorem sclaw_machine : FnScope nlaw_machine plaw_machine (defScope slaw_machine) := ⟨rfl, rfl, rfl, by decide +kernel, rfl, by decide +kernel, by decide +kernel⟩
abbrev slaw_copy : Stmt := topS 7
abbrev nlaw_copy : List Str := ["_law_machine_here", "_law_row"]
abbrev plaw_copy : List Str := ["_law_machine_here"]
theorem sclaw_copy : FnScope nlaw_copy plaw_copy (defScope slaw_copy) := ⟨rfl, rfl, rfl, by decide +kernel, rfl, by decide +kernel, by decide +kernel⟩
abbrev slaw_lets : Stmt := topS 8
abbrev nlaw_lets : List Str := ["_law_machine_here", "_law_row", "_law_room", "_law_mark"]
abbrev plaw_lets : List Str := ["_law_machine_here", "_law_row"]
theorem sclaw_lets : FnScope nlaw_lets plaw_lets (defScope slaw_lets) := ⟨rfl, rfl, rfl, by decide +kernel, rfl, by decide +kernel, by decide +kernel⟩
abbrev slaw_first : Stmt := topS 9
abbrev nlaw_first : List Str := ["_law_machine_here", "_law_rows", "_law_ahead", "_law_room", "_law_later", "_law_k", "_law_other"]
abbrev plaw_first : List Str := ["_law_machine_here"]
theorem sclaw_first : FnScope nlaw_first plaw_first (defScope slaw_first) := ⟨rfl, rfl, rfl, by decide +kernel, rfl, by decide +kernel, by decide +kernel⟩
abbrev slaw_rooms : Stmt := topS 10
abbrev nlaw_rooms : List Str := ["_law_machine_here", "_law_met", "_law_place", "_law_room"]
abbrev plaw_rooms : List Str := ["_law_machine_here"]
theorem sclaw_rooms : FnScope nlaw_rooms plaw_rooms (defScope slaw_rooms) := ⟨rfl, rfl, rfl, by decide +kernel, rfl, by decide +kernel, by decide +kernel⟩
abbrev slaw : Stmt := topS 11
def sigA : Str := Str.ofString "0123456789abcdefghijklmnopqrstuvwxyzABCDEFGHIJKLMNOPQRSTUVWXYZ"
def sigB : Str := Str.ofString "#$&'()*+,-./:;<=>?\x40[]^_{|}~! \"\\`"
def fsought : FnM := ⟨1, 9, (.seq (.asg (.tp [3, 4, 5]) (.var 0)) (.seq (.newK 1 (.lit (.int 0)) (.lst .nil)) (.seq (.own 2 (.cons (.lit (.int 0)) .nil)) (.seq (.whileL 2 (.seq (.pop0 6 2) (.seq (.ife (.idx (.var 5) (.var 6)) (.ret (.tup (.cons (.lit (.str (Str.ofString "row"))) (.cons (.dgetN 1 (.var 6)) .nil)))) .nop) (.for .range (.blt .len (.cons (.var 3) .nil)) (.nm 7) (.seq (.asg (.nm 8) (.idx (.idx (.var 4) (.var 6)) (.var 7))) (.ife (.din true 1 (.var 8)) (.seq (.dputN 1 (.var 8) (.bin .add (.dget 1 (.var 6)) (.lst (.cons (.idx (.var 3) (.var 7)) .nil)))) (.app 2 (.var 8))) .nop)))))) (.ret (.tup (.cons (.lit (.str (Str.ofString "none"))) (.cons (.dsorted 1) .nil))))))))⟩
def flaw_draw : FnM := ⟨3, 5, (.seq (.tape 1 (.bin .add (.tape 1) (.lit (.int 1)))) (.seq (.ife (.cmp .le (.tape 1) (.blt .len (.cons (.bor 0) .nil))) (.ret (.bin .mod (.idx (.bor 0) (.bin .sub (.tape 1) (.lit (.int 1)))) (.var 2))) .nop) (.seq (.asg (.nm 3) (.blt .len (.cons (.bor 0) .nil))) (.seq (.for .seq (.slc (.bor 0) (.lit .none) (.part (.lit (.int 4)))) (.nm 4) (.asg (.nm 3) (.bin .mod (.bin .add (.bin .mul (.var 3) (.lit (.int 131))) (.var 4)) (.lit (.int 1000003))))) (.ret (.bin .mod (.bin .mod (.bin .mul (.bin .add (.var 3) (.lit (.int 7))) (.bin .add (.bin .mul (.tape 1) (.tape 1)) (.lit (.int 48271)))) (.lit (.int 1000003))) (.var 2)))))))⟩
def flaw_marks : FnM := ⟨3, 7, (.seq (.asg (.nm 3) (.lit (.str sigA))) (.seq (.asg (.nm 3) (.bin .add (.var 3) (.lit (.str sigB)))) (.seq (.asg (.nm 4) (.call 1 (.cons (.tape 0) (.cons (.tape 1) (.cons (.lit (.int 94)) .nil))))) (.seq (.asg (.nm 5) (.bin .add (.lit (.int 1)) (.call 1 (.cons (.tape 0) (.cons (.tape 1) (.cons (.lit (.int 23)) .nil)))))) (.ret (.lc .range (.var 2) (.nm 6) [6] (.lit (.bool true)) (.idx (.var 3) (.bin .mod (.bin .add (.var 4) (.bin .mul (.var 5) (.var 6))) (.lit (.int 94))))))))))⟩
def flaw_things : FnM := ⟨3, 6, (.seq (.asg (.nm 3) (.call 2 (.cons (.tape 0) (.cons (.tape 1) (.cons (.var 2) .nil))))) (.seq (.asg (.nm 4) (.call 1 (.cons (.tape 0) (.cons (.tape 1) (.cons (.lit (.int 6)) .nil))))) (.seq (.ife (.cmp .eq (.var 4) (.lit (.int 1))) (.ret (.lc .range (.var 2) (.nm 5) [5] (.lit (.bool true)) (.tup (.cons (.idx (.var 3) (.lit (.int 0))) (.cons (.var 5) .nil))))) .nop) (.seq (.ife (.cmp .eq (.var 4) (.lit (.int 2))) (.ret (.lc .range (.var 2) (.nm 5) [5] (.lit (.bool true)) (.bin .mul (.idx (.var 3) (.lit (.int 0))) (.bin .add (.var 5) (.lit (.int 1)))))) .nop) (.seq (.ife (.cmp .eq (.var 4) (.lit (.int 3))) (.ret (.lc .range (.var 2) (.nm 5) [5] (.lit (.bool true)) (.bin .mul (.lit (.int 7)) (.var 5)))) .nop) (.ret (.var 3)))))))⟩
def flaw_machine : FnM := ⟨3, 10, (.seq (.asg (.nm 3) (.bin .add (.lit (.int 1)) (.call 1 (.cons (.tape 0) (.cons (.tape 1) (.cons (.lit (.int 5)) .nil)))))) (.seq (.ife (.cmp .eq (.call 1 (.cons (.tape 0) (.cons (.tape 1) (.cons (.lit (.int 8)) .nil)))) (.lit (.int 3))) (.asg (.nm 3) (.bin .add (.var 3) (.call 1 (.cons (.tape 0) (.cons (.tape 1) (.cons (.lit (.int 6)) .nil)))))) .nop) (.seq (.own 4 .nil) (.seq (.own 5 .nil) (.seq (.for .range (.var 3) (.nm 6) (.seq (.own 7 .nil) (.seq (.for .seq (.var 2) (.nm 8) (.seq (.asg (.nm 9) (.call 1 (.cons (.tape 0) (.cons (.tape 1) (.cons (.bin .mul (.lit (.int 3)) (.var 3)) .nil))))) (.ife (.cmp .lt (.var 9) (.bin .mul (.lit (.int 2)) (.var 3))) (.app 7 (.bin .mod (.var 9) (.var 3))) (.app 7 (.blt .min (.cons (.bin .sub (.var 3) (.lit (.int 1))) (.cons (.bin .add (.var 6) (.lit (.int 1))) .nil))))))) (.seq (.frz 7) (.seq (.app 4 (.var 7)) (.app 5 (.cmp .eq (.call 1 (.cons (.tape 0) (.cons (.tape 1) (.cons (.lit (.int 3)) .nil)))) (.lit (.int 0))))))))) (.seq (.frz 5) (.seq (.frz 4) (.ret (.tup (.cons (.blt .tuple (.cons (.var 2) .nil)) (.cons (.var 4) (.cons (.var 5) .nil))))))))))))⟩
def flaw_copy : FnM := ⟨1, 2, (.ret (.tup (.cons (.idx (.var 0) (.lit (.int 0))) (.cons (.lc .seq (.idx (.var 0) (.lit (.int 1))) (.nm 1) [1] (.lit (.bool true)) (.blt .list (.cons (.var 1) .nil))) (.cons (.blt .list (.cons (.idx (.var 0) (.lit (.int 2))) .nil)) .nil)))))⟩
def flaw_lets : FnM := ⟨2, 4, (.seq (.asg (.nm 2) (.lit (.int 0))) (.seq (.for .seq (.var 1) (.nm 3) (.asg (.nm 2) (.idx (.idx (.idx (.var 0) (.lit (.int 1))) (.var 2)) (.index (.idx (.var 0) (.lit (.int 0))) (.var 3))))) (.ret (.idx (.idx (.var 0) (.lit (.int 2))) (.var 2)))))⟩
def flaw_first : FnM := ⟨1, 7, (.seq (.newK 1 (.lit (.int 0)) (.lst .nil)) (.seq (.asg (.nm 2) (.lst (.cons (.lit (.int 0)) .nil))) (.seq (.while (.cmp .gt (.blt .len (.cons (.var 2) .nil)) (.lit (.int 0))) (.seq (.for .seq (.var 2) (.nm 3) (.ife (.idx (.idx (.var 0) (.lit (.int 2))) (.var 3)) (.ret (.dget 1 (.var 3))) .nop)) (.seq (.own 4 .nil) (.seq (.for .seq (.var 2) (.nm 3) (.for .range (.blt .len (.cons (.idx (.var 0) (.lit (.int 0))) .nil)) (.nm 5) (.seq (.asg (.nm 6) (.idx (.idx (.idx (.var 0) (.lit (.int 1))) (.var 3)) (.var 5))) (.ife (.din true 1 (.var 6)) (.seq (.dputN 1 (.var 6) (.bin .add (.dget 1 (.var 3)) (.lst (.cons (.idx (.idx (.var 0) (.lit (.int 0))) (.var 5)) .nil)))) (.app 4 (.var 6))) .nop)))) (.seq (.frz 4) (.asg (.nm 2) (.var 4))))))) (.ret (.lit .none)))))⟩
def flaw_rooms : FnM := ⟨1, 4, (.seq (.asg (.nm 1) (.lst (.cons (.lit (.int 0)) .nil))) (.seq (.asg (.nm 2) (.lit (.int 0))) (.seq (.while (.cmp .lt (.var 2) (.blt .len (.cons (.var 1) .nil))) (.seq (.asg (.nm 1) (.bin .add (.var 1) (.lc .seq (.sset (.idx (.idx (.var 0) (.lit (.int 1))) (.idx (.var 1) (.var 2)))) (.nm 3) [3] (.cmp .notin (.var 3) (.var 1)) (.var 3)))) (.asg (.nm 2) (.bin .add (.var 2) (.lit (.int 1)))))) (.ret (.blt .sorted (.cons (.var 1) .nil))))))⟩
def tab : Nat → Option FnM
  | 0 => some fsought
  | 1 => some flaw_draw
  | 2 => some flaw_marks
  | 3 => some flaw_things
  | 4 => some flaw_machine
  | 5 => some flaw_copy
  | 6 => some flaw_lets
  | 7 => some flaw_first
  | 8 => some flaw_rooms
  | _ => none
abbrev isought : Nat := 0
abbrev ilaw_draw : Nat := 1
abbrev ilaw_marks : Nat := 2
abbrev ilaw_things : Nat := 3
abbrev ilaw_machine : Nat := 4
abbrev ilaw_copy : Nat := 5
abbrev ilaw_lets : Nat := 6
abbrev ilaw_first : Nat := 7
abbrev ilaw_rooms : Nat := 8
def cf (W : Nat) : Nat → CallF
  | 0, _, _, _ => none
  | k + 1, f, args, t => match tab f with
    | some fm => runF (cf W k) W fm args t
    | none => none
theorem usought {W k : Nat} {args : List LV} {t : Int} : cf W (k + 1) isought args t = runF (cf W k) W fsought args t := rfl
theorem ulaw_draw {W k : Nat} {args : List LV} {t : Int} : cf W (k + 1) ilaw_draw args t = runF (cf W k) W flaw_draw args t := rfl
theorem ulaw_marks {W k : Nat} {args : List LV} {t : Int} : cf W (k + 1) ilaw_marks args t = runF (cf W k) W flaw_marks args t := rfl
theorem ulaw_things {W k : Nat} {args : List LV} {t : Int} : cf W (k + 1) ilaw_things args t = runF (cf W k) W flaw_things args t := rfl
theorem ulaw_machine {W k : Nat} {args : List LV} {t : Int} : cf W (k + 1) ilaw_machine args t = runF (cf W k) W flaw_machine args t := rfl
theorem ulaw_copy {W k : Nat} {args : List LV} {t : Int} : cf W (k + 1) ilaw_copy args t = runF (cf W k) W flaw_copy args t := rfl
theorem ulaw_lets {W k : Nat} {args : List LV} {t : Int} : cf W (k + 1) ilaw_lets args t = runF (cf W k) W flaw_lets args t := rfl
theorem ulaw_first {W k : Nat} {args : List LV} {t : Int} : cf W (k + 1) ilaw_first args t = runF (cf W k) W flaw_first args t := rfl
theorem ulaw_rooms {W k : Nat} {args : List LV} {t : Int} : cf W (k + 1) ilaw_rooms args t = runF (cf W k) W flaw_rooms args t := rfl
structure Txt (K : PySem.W.Frag) (mg : Str → Option Value) (fa : Nat → Addr) (fd : Nat → FuncData) : Prop where
  Fsought : Fun K "sought" "sought" ssought (fa 0) (fd 0)
  gsought : mg "sought" = some (.ref (fa 0))
  bsought : Binds K (fd 0) psought []
  Flaw_draw : Fun K "_law_draw" "_law_draw" slaw_draw (fa 1) (fd 1)
  glaw_draw : mg "_law_draw" = some (.ref (fa 1))
  blaw_draw : Binds K (fd 1) plaw_draw []
  Flaw_marks : Fun K "_law_marks" "_law_marks" slaw_marks (fa 2) (fd 2)
  glaw_marks : mg "_law_marks" = some (.ref (fa 2))
  blaw_marks : Binds K (fd 2) plaw_marks []
  Flaw_things : Fun K "_law_things" "_law_things" slaw_things (fa 3) (fd 3)
  glaw_things : mg "_law_things" = some (.ref (fa 3))
  blaw_things : Binds K (fd 3) plaw_things []
  Flaw_machine : Fun K "_law_machine" "_law_machine" slaw_machine (fa 4) (fd 4)
  glaw_machine : mg "_law_machine" = some (.ref (fa 4))
  blaw_machine : Binds K (fd 4) plaw_machine []
  Flaw_copy : Fun K "_law_copy" "_law_copy" slaw_copy (fa 5) (fd 5)
  glaw_copy : mg "_law_copy" = some (.ref (fa 5))
  blaw_copy : Binds K (fd 5) plaw_copy []
  Flaw_lets : Fun K "_law_lets" "_law_lets" slaw_lets (fa 6) (fd 6)
  glaw_lets : mg "_law_lets" = some (.ref (fa 6))
  blaw_lets : Binds K (fd 6) plaw_lets []
  Flaw_first : Fun K "_law_first" "_law_first" slaw_first (fa 7) (fd 7)
  glaw_first : mg "_law_first" = some (.ref (fa 7))
  blaw_first : Binds K (fd 7) plaw_first []
  Flaw_rooms : Fun K "_law_rooms" "_law_rooms" slaw_rooms (fa 8) (fd 8)
  glaw_rooms : mg "_law_rooms" = some (.ref (fa 8))
  blaw_rooms : Binds K (fd 8) plaw_rooms []
  z_all : mg "all" = none
  z_bool : mg "bool" = none
  z_int : mg "int" = none
  z_isinstance : mg "isinstance" = none
  z_len : mg "len" = none
  z_list : mg "list" = none
  z_min : mg "min" = none
  z_range : mg "range" = none
  z_set : mg "set" = none
  z_sorted : mg "sorted" = none
  z_tuple : mg "tuple" = none
structure Oks (P : Program) (w : World) (K : PySem.W.Frag) (mg : Str → Option Value) (base : Heap) (fa : Nat → Addr) (fd : Nat → FuncData) (W k : Nat) : Prop where
  osought : FnOk P w K mg base CX0 k (fa 0) (fd 0) psought (spF K (cf W k) 1 0)
  olaw_draw : FnOk P w K mg base CX0 k (fa 1) (fd 1) plaw_draw (spF K (cf W k) 3 1)
  olaw_marks : FnOk P w K mg base CX0 k (fa 2) (fd 2) plaw_marks (spF K (cf W k) 3 2)
  olaw_things : FnOk P w K mg base CX0 k (fa 3) (fd 3) plaw_things (spF K (cf W k) 3 3)
  olaw_machine : FnOk P w K mg base CX0 k (fa 4) (fd 4) plaw_machine (spF K (cf W k) 3 4)
  olaw_copy : FnOk P w K mg base CX0 k (fa 5) (fd 5) plaw_copy (spF K (cf W k) 1 5)
  olaw_lets : FnOk P w K mg base CX0 k (fa 6) (fd 6) plaw_lets (spF K (cf W k) 2 6)
  olaw_first : FnOk P w K mg base CX0 k (fa 7) (fd 7) plaw_first (spF K (cf W k) 1 7)
  olaw_rooms : FnOk P w K mg base CX0 k (fa 8) (fd 8) plaw_rooms (spF K (cf W k) 1 8)
theorem b_all : bootBuiltins "all" = some (.builtin "all") := by decide +kernel
theorem b_bool : bootBuiltins "bool" = some (.type "bool") := by decide +kernel
theorem b_int : bootBuiltins "int" = some (.type "int") := by decide +kernel
theorem b_isinstance : bootBuiltins "isinstance" = some (.builtin "isinstance") := by decide +kernel
theorem b_len : bootBuiltins "len" = some (.builtin "len") := by decide +kernel
theorem b_list : bootBuiltins "list" = some (.type "list") := by decide +kernel
theorem b_min : bootBuiltins "min" = some (.builtin "min") := by decide +kernel
theorem b_range : bootBuiltins "range" = some (.type "range") := by decide +kernel
theorem b_set : bootBuiltins "set" = some (.type "set") := by decide +kernel
theorem b_sorted : bootBuiltins "sorted" = some (.builtin "sorted") := by decide +kernel
theorem b_tuple : bootBuiltins "tuple" = some (.type "tuple") := by decide +kernel
section
variable {P : Program} {w : World} {K : PySem.W.Frag} {mg : Str → Option Value} {base : Heap} {fa : Nat → Addr} {fd : Nat → FuncData} {W k : Nat}
theorem dvsought (Z : Txt K mg fa fd) (O : Oks P w K mg base fa fd W k) (cdv : Value) (A : Around) (outer : List PySem.Env) (s : Shared) (H : Hp) (E : XK) (hr : Room k (A.deeper (envOfC "sought" (defScope ssought) s.heap.objs.size (fa 0) cdv))) :
    SemB NwT (cf W k) W (cxOf CX0 P w K mg base nsought "sought" (defScope ssought) (fa 0) cdv A outer s H E).nox (defBody ssought) fsought.body := by
  have nd : (cxOf CX0 P w K mg base nsought "sought" (defScope ssought) (fa 0) cdv A outer s H E).nox.N.Nodup := scsought.nd
  exact (sb_cons (ss_asgT (xv 0) (sg_tup rfl (gs1 3 nd (gs1 4 nd (gs1 5 nd gs0)))))
  (sb_cons (ss_newK 1 nd se_int (se_lstN sa_nil))
  (sb_cons (yown 2 nd (sa_cons se_int sa_nil))
  (sb_cons (ywhileL 2
  (sb_cons (ypop0 6 2 nd)
  (sb_cons (ss_if (st_val (xi (SemE.r (xv 5)) (xv 6)))
  (sb_one (ss_ret (SemN.sem (se_tup2N se_str (se_dgetL 1 (Room.u1 hr) (xv 6))))))
  sb_nil)
  (sb_one (ss_for PassesOwn.never rfl (si_range rfl Z.z_range (se_blt1 c_len rfl Z.z_len b_len (SemE.r (xv 3)))) (gn 7 nd)
  (sb_cons (yset 8 nd (xi (SemE.r (xi (SemE.r (xv 4)) (xv 6))) (xv 7)))
  (sb_one (ss_if (SemC.tst (sc_dnotin 1 (Room.u1 hr) (xv 8)))
  (sb_cons (ss_dputN 1 (Room.u1 hr) (xv 8) (se_addN (se_dget 1 (Room.u1 hr) (xv 6)) (se_lst (sa_cons (xi (SemE.r (xv 3)) (xv 7)) sa_nil))))
  (sb_one (yapp 2 (xv 8))))
  sb_nil))))))))
  (sb_one (ss_ret (SemN.sem (se_tup2N se_str (se_dsortedN 1 rfl rfl Z.z_sorted b_sorted)))))))))
theorem dvlaw_draw (Z : Txt K mg fa fd) (O : Oks P w K mg base fa fd W k) (cdv : Value) (A : Around) (outer : List PySem.Env) (s : Shared) (H : Hp) (E : XK) (hr : Room k (A.deeper (envOfC "_law_draw" (defScope slaw_draw) s.heap.objs.size (fa 1) cdv))) :
    SemB NwT (cf W k) W (cxOf CX0 P w K mg base nlaw_draw "_law_draw" (defScope slaw_draw) (fa 1) cdv A outer s H E).nox (defBody slaw_draw) flaw_draw.body := by
  have nd : (cxOf CX0 P w K mg base nlaw_draw "_law_draw" (defScope slaw_draw) (fa 1) cdv A outer s H E).nox.N.Nodup := sclaw_draw.nd
  exact (sb_cons (ytape 1 (se_add (xt 1) se_int))
  (sb_cons (ss_if (SemC.tst (sc_le (xt 1) (se_blt1 c_len rfl Z.z_len b_len (xb 0))))
  (sb_one (ss_ret (se_mod (xi (xb 0) (se_sub (xt 1) se_int)) (xv 2))))
  sb_nil)
  (sb_cons (yset 3 nd (se_blt1 c_len rfl Z.z_len b_len (xb 0)))
  (sb_cons (ss_for PassesOwn.never rfl (si_seq (se_slc (xb 0) so_none (so_some se_int))) (gn 4 nd)
  (sb_one (yset 3 nd (se_mod (se_add (se_mul (xv 3) se_int) (xv 4)) se_int))))
  (sb_one (ss_ret (se_mod (se_mod (se_mul (se_add (xv 3) se_int) (se_add (se_mul (xt 1) (xt 1)) se_int)) se_int) (xv 2))))))))
theorem dvlaw_marks (Z : Txt K mg fa fd) (O : Oks P w K mg base fa fd W k) (cdv : Value) (A : Around) (outer : List PySem.Env) (s : Shared) (H : Hp) (E : XK) (hr : Room k (A.deeper (envOfC "_law_marks" (defScope slaw_marks) s.heap.objs.size (fa 2) cdv))) :
    SemB NwT (cf W k) W (cxOf CX0 P w K mg base nlaw_marks "_law_marks" (defScope slaw_marks) (fa 2) cdv A outer s H E).nox (defBody slaw_marks) flaw_marks.body := by
  have nd : (cxOf CX0 P w K mg base nlaw_marks "_law_marks" (defScope slaw_marks) (fa 2) cdv A outer s H E).nox.N.Nodup := sclaw_marks.nd
  exact (sb_cons (yset 3 nd se_str)
  (sb_cons (yset 3 nd (se_add (xv 3) se_str))
  (sb_cons (yset 4 nd (xcall O.olaw_draw hr Z.glaw_draw Z.Flaw_draw.kp Z.blaw_draw (xp 0 (xp 1 (sa_cons se_int sa_nil)))))
  (sb_cons (yset 5 nd (se_add se_int (xcall O.olaw_draw hr Z.glaw_draw Z.Flaw_draw.kp Z.blaw_draw (xp 0 (xp 1 (sa_cons se_int sa_nil))))))
  (sb_one (ss_ret (se_lc (own := [("_law_k", 6)]) rfl nd (si_range rfl Z.z_range (xv 2)) (blkOk_by (own := [("_law_k", 6)]) (N := nlaw_marks) (sc := defScope slaw_marks) (by decide +kernel)) (by decide) (fun _ _ _ _ _ => (gn 6 nd)) (fun _ _ _ _ _ => pts_all) (fun _ _ _ _ _ => (xi (SemE.r (xv 3)) (se_mod (se_add (xv 4) (se_mul (xv 5) (xv 6))) se_int))))))))))
theorem dvlaw_things (Z : Txt K mg fa fd) (O : Oks P w K mg base fa fd W k) (cdv : Value) (A : Around) (outer : List PySem.Env) (s : Shared) (H : Hp) (E : XK) (hr : Room k (A.deeper (envOfC "_law_things" (defScope slaw_things) s.heap.objs.size (fa 3) cdv))) :
    SemB NwT (cf W k) W (cxOf CX0 P w K mg base nlaw_things "_law_things" (defScope slaw_things) (fa 3) cdv A outer s H E).nox (defBody slaw_things) flaw_things.body := by
  have nd : (cxOf CX0 P w K mg base nlaw_things "_law_things" (defScope slaw_things) (fa 3) cdv A outer s H E).nox.N.Nodup := sclaw_things.nd
  exact (sb_cons (yset 3 nd (xcall O.olaw_marks hr Z.glaw_marks Z.Flaw_marks.kp Z.blaw_marks (xp 0 (xp 1 (sa_cons (xv 2) sa_nil)))))
  (sb_cons (yset 4 nd (xcall O.olaw_draw hr Z.glaw_draw Z.Flaw_draw.kp Z.blaw_draw (xp 0 (xp 1 (sa_cons se_int sa_nil)))))
  (sb_cons (ss_if (SemC.tst (sc_eq (Room.u64 hr) (xv 4) se_int))
  (sb_one (ss_ret (se_lc (own := [("_law_k", 5)]) rfl nd (si_range rfl Z.z_range (xv 2)) (blkOk_by (own := [("_law_k", 5)]) (N := nlaw_things) (sc := defScope slaw_things) (by decide +kernel)) (by decide) (fun _ _ _ _ _ => (gn 5 nd)) (fun _ _ _ _ _ => pts_all) (fun _ _ _ _ _ => (se_tup (sa_cons (xi (SemE.r (xv 3)) se_int) (sa_cons (xv 5) sa_nil)))))))
  sb_nil)
  (sb_cons (ss_if (SemC.tst (sc_eq (Room.u64 hr) (xv 4) se_int))
  (sb_one (ss_ret (se_lc (own := [("_law_k", 5)]) rfl nd (si_range rfl Z.z_range (xv 2)) (blkOk_by (own := [("_law_k", 5)]) (N := nlaw_things) (sc := defScope slaw_things) (by decide +kernel)) (by decide) (fun _ _ _ _ _ => (gn 5 nd)) (fun _ _ _ _ _ => pts_all) (fun _ _ _ _ _ => (se_mul (xi (SemE.r (xv 3)) se_int) (se_add (xv 5) se_int))))))
  sb_nil)
  (sb_cons (ss_if (SemC.tst (sc_eq (Room.u64 hr) (xv 4) se_int))
  (sb_one (ss_ret (se_lc (own := [("_law_k", 5)]) rfl nd (si_range rfl Z.z_range (xv 2)) (blkOk_by (own := [("_law_k", 5)]) (N := nlaw_things) (sc := defScope slaw_things) (by decide +kernel)) (by decide) (fun _ _ _ _ _ => (gn 5 nd)) (fun _ _ _ _ _ => pts_all) (fun _ _ _ _ _ => (se_mul se_int (xv 5))))))
  sb_nil)
  (sb_one (ss_ret (xv 3))))))))
theorem dvlaw_machine (Z : Txt K mg fa fd) (O : Oks P w K mg base fa fd W k) (cdv : Value) (A : Around) (outer : List PySem.Env) (s : Shared) (H : Hp) (E : XK) (hr : Room k (A.deeper (envOfC "_law_machine" (defScope slaw_machine) s.heap.objs.size (fa 4) cdv))) :
    SemB NwT (cf W k) W (cxOf CX0 P w K mg base nlaw_machine "_law_machine" (defScope slaw_machine) (fa 4) cdv A outer s H E).nox (defBody slaw_machine) flaw_machine.body := by
  have nd : (cxOf CX0 P w K mg base nlaw_machine "_law_machine" (defScope slaw_machine) (fa 4) cdv A outer s H E).nox.N.Nodup := sclaw_machine.nd
  exact (sb_cons (yset 3 nd (se_add se_int (xcall O.olaw_draw hr Z.glaw_draw Z.Flaw_draw.kp Z.blaw_draw (xp 0 (xp 1 (sa_cons se_int sa_nil))))))
  (sb_cons (ss_if (SemC.tst (sc_eq (Room.u64 hr) (xcall O.olaw_draw hr Z.glaw_draw Z.Flaw_draw.kp Z.blaw_draw (xp 0 (xp 1 (sa_cons se_int sa_nil)))) se_int))
  (sb_one (yset 3 nd (se_add (xv 3) (xcall O.olaw_draw hr Z.glaw_draw Z.Flaw_draw.kp Z.blaw_draw (xp 0 (xp 1 (sa_cons se_int sa_nil)))))))
  sb_nil)
  (sb_cons (yown 4 nd sa_nil)
  (sb_cons (yown 5 nd sa_nil)
  (sb_cons (ss_for PassesOwn.never rfl (si_range rfl Z.z_range (xv 3)) (gn 6 nd)
  (sb_cons (yown 7 nd sa_nil)
  (sb_cons (ss_for PassesOwn.never rfl (si_seq (xv 2)) (gn 8 nd)
  (sb_cons (yset 9 nd (xcall O.olaw_draw hr Z.glaw_draw Z.Flaw_draw.kp Z.blaw_draw (xp 0 (xp 1 (sa_cons (se_mul se_int (xv 3)) sa_nil)))))
  (sb_one (ss_if (SemC.tst (sc_lt (xv 9) (se_mul se_int (xv 3))))
  (sb_one (yapp 7 (se_mod (xv 9) (xv 3))))
  (sb_one (yapp 7 (se_blt (c_min rfl) rfl Z.z_min b_min (sa_cons (se_sub (xv 3) se_int) (sa_cons (se_add (xv 6) se_int) sa_nil)))))))))
  (sb_frz 7 (sb_cons (yapp 4 (xv 7))
  (sb_one (yapp 5 (SemC.val (sc_eq (Room.u64 hr) (xcall O.olaw_draw hr Z.glaw_draw Z.Flaw_draw.kp Z.blaw_draw (xp 0 (xp 1 (sa_cons se_int sa_nil)))) se_int)))))))))
  (sb_frz 5 (sb_frz 4 (sb_one (ss_ret (se_tup (sa_cons (se_bty1 c_tuple rfl Z.z_tuple b_tuple (SemE.r (xv 2))) (sa_cons (xv 4) (sa_cons (xv 5) sa_nil)))))))))))))
theorem dvlaw_copy (Z : Txt K mg fa fd) (O : Oks P w K mg base fa fd W k) (cdv : Value) (A : Around) (outer : List PySem.Env) (s : Shared) (H : Hp) (E : XK) (hr : Room k (A.deeper (envOfC "_law_copy" (defScope slaw_copy) s.heap.objs.size (fa 5) cdv))) :
    SemB NwT (cf W k) W (cxOf CX0 P w K mg base nlaw_copy "_law_copy" (defScope slaw_copy) (fa 5) cdv A outer s H E).nox (defBody slaw_copy) flaw_copy.body := by
  have nd : (cxOf CX0 P w K mg base nlaw_copy "_law_copy" (defScope slaw_copy) (fa 5) cdv A outer s H E).nox.N.Nodup := sclaw_copy.nd
  exact (sb_one (ss_ret (se_tup (sa_cons (xi (SemE.r (xv 0)) se_int) (sa_cons (se_lc (own := [("_law_row", 1)]) rfl nd (si_seq (xi (SemE.r (xv 0)) se_int)) (blkOk_by (own := [("_law_row", 1)]) (N := nlaw_copy) (sc := defScope slaw_copy) (by decide +kernel)) (by decide) (fun _ _ _ _ _ => (gn 1 nd)) (fun _ _ _ _ _ => pts_all) (fun _ _ _ _ _ => (se_bty1 (c_list rfl) rfl Z.z_list b_list (SemE.r (xv 1))))) (sa_cons (se_bty1 (c_list rfl) rfl Z.z_list b_list (SemE.r (xi (SemE.r (xv 0)) se_int))) sa_nil))))))
theorem dvlaw_lets (Z : Txt K mg fa fd) (O : Oks P w K mg base fa fd W k) (cdv : Value) (A : Around) (outer : List PySem.Env) (s : Shared) (H : Hp) (E : XK) (hr : Room k (A.deeper (envOfC "_law_lets" (defScope slaw_lets) s.heap.objs.size (fa 6) cdv))) :
    SemB NwT (cf W k) W (cxOf CX0 P w K mg base nlaw_lets "_law_lets" (defScope slaw_lets) (fa 6) cdv A outer s H E).nox (defBody slaw_lets) flaw_lets.body := by
  have nd : (cxOf CX0 P w K mg base nlaw_lets "_law_lets" (defScope slaw_lets) (fa 6) cdv A outer s H E).nox.N.Nodup := sclaw_lets.nd
  exact (sb_cons (yset 2 nd se_int)
  (sb_cons (ss_for PassesOwn.never rfl (si_seq (xv 1)) (gn 3 nd)
  (sb_one (yset 2 nd (xi (SemE.r (xi (SemE.r (xi (SemE.r (xv 0)) se_int)) (xv 2))) (se_index (Room.u65 hr) (SemE.r (xi (SemE.r (xv 0)) se_int)) (xv 3))))))
  (sb_one (ss_ret (xi (SemE.r (xi (SemE.r (xv 0)) se_int)) (xv 2))))))
theorem dvlaw_first (Z : Txt K mg fa fd) (O : Oks P w K mg base fa fd W k) (cdv : Value) (A : Around) (outer : List PySem.Env) (s : Shared) (H : Hp) (E : XK) (hr : Room k (A.deeper (envOfC "_law_first" (defScope slaw_first) s.heap.objs.size (fa 7) cdv))) :
    SemB NwT (cf W k) W (cxOf CX0 P w K mg base nlaw_first "_law_first" (defScope slaw_first) (fa 7) cdv A outer s H E).nox (defBody slaw_first) flaw_first.body := by
  have nd : (cxOf CX0 P w K mg base nlaw_first "_law_first" (defScope slaw_first) (fa 7) cdv A outer s H E).nox.N.Nodup := sclaw_first.nd
  exact (sb_cons (ss_newK 1 nd se_int (se_lstN sa_nil))
  (sb_cons (yset 2 nd (se_lst (sa_cons se_int sa_nil)))
  (sb_cons (ss_while PassesOwn.never (SemC.tst (sc_gt (se_blt1 c_len rfl Z.z_len b_len (SemE.r (xv 2))) se_int))
  (sb_cons (ss_for PassesOwn.never rfl (si_seq (xv 2)) (gn 3 nd)
  (sb_one (ss_if (st_val (xi (SemE.r (xi (SemE.r (xv 0)) se_int)) (xv 3)))
  (sb_one (ss_ret (se_dget 1 (Room.u1 hr) (xv 3))))
  sb_nil)))
  (sb_cons (yown 4 nd sa_nil)
  (sb_cons (ss_for PassesOwn.never rfl (si_seq (xv 2)) (gn 3 nd)
  (sb_one (ss_for PassesOwn.never rfl (si_range rfl Z.z_range (se_blt1 c_len rfl Z.z_len b_len (SemE.r (xi (SemE.r (xv 0)) se_int)))) (gn 5 nd)
  (sb_cons (yset 6 nd (xi (SemE.r (xi (SemE.r (xi (SemE.r (xv 0)) se_int)) (xv 3))) (xv 5)))
  (sb_one (ss_if (SemC.tst (sc_dnotin 1 (Room.u1 hr) (xv 6)))
  (sb_cons (ss_dputN 1 (Room.u1 hr) (xv 6) (se_addN (se_dget 1 (Room.u1 hr) (xv 3)) (se_lst (sa_cons (xi (SemE.r (xi (SemE.r (xv 0)) se_int)) (xv 5)) sa_nil))))
  (sb_one (yapp 4 (xv 6))))
  sb_nil))))))
  (sb_frz 4 (sb_one (yset 2 nd (xv 4))))))))
  (sb_one (ss_ret se_none)))))
theorem dvlaw_rooms (Z : Txt K mg fa fd) (O : Oks P w K mg base fa fd W k) (cdv : Value) (A : Around) (outer : List PySem.Env) (s : Shared) (H : Hp) (E : XK) (hr : Room k (A.deeper (envOfC "_law_rooms" (defScope slaw_rooms) s.heap.objs.size (fa 8) cdv))) :
    SemB NwT (cf W k) W (cxOf CX0 P w K mg base nlaw_rooms "_law_rooms" (defScope slaw_rooms) (fa 8) cdv A outer s H E).nox (defBody slaw_rooms) flaw_rooms.body := by
  have nd : (cxOf CX0 P w K mg base nlaw_rooms "_law_rooms" (defScope slaw_rooms) (fa 8) cdv A outer s H E).nox.N.Nodup := sclaw_rooms.nd
  exact (sb_cons (yset 1 nd (se_lst (sa_cons se_int sa_nil)))
  (sb_cons (yset 2 nd se_int)
  (sb_cons (ss_while PassesOwn.never (SemC.tst (sc_lt (xv 2) (se_blt1 c_len rfl Z.z_len b_len (SemE.r (xv 1)))))
  (sb_cons (yset 1 nd (se_add (xv 1) (se_lc (own := [("_law_room", 3)]) rfl nd (si_seq (se_sset rfl rfl Z.z_sorted b_sorted rfl Z.z_set b_set (xi (SemE.r (xi (SemE.r (xv 0)) se_int)) (xi (SemE.r (xv 1)) (xv 2))))) (blkOk_by (own := [("_law_room", 3)]) (N := nlaw_rooms) (sc := defScope slaw_rooms) (by decide +kernel)) (by decide) (fun _ _ _ _ _ => (gn 3 nd)) (fun _ _ _ _ _ => pts_if (SemC.tst (sc_notin (Room.u65 hr) (xv 3) (SemE.r (xv 1))))) (fun _ _ _ _ _ => (xv 3)))))
  (sb_one (yset 2 nd (se_add (xv 2) se_int)))))
  (sb_one (ss_ret (se_blt1 c_sorted rfl Z.z_sorted b_sorted (SemE.r (xv 1))))))))
theorem oks (Z : Txt K mg fa fd) : ∀ k, Oks P w K mg base fa fd W k
  | 0 => ⟨fn_none fun _ _ => rfl, fn_none fun _ _ => rfl, fn_none fun _ _ => rfl, fn_none fun _ _ => rfl, fn_none fun _ _ => rfl, fn_none fun _ _ => rfl, fn_none fun _ _ => rfl, fn_none fun _ _ => rfl, fn_none fun _ _ => rfl⟩
  | k + 1 => ⟨fn_sem Z.Fsought scsought rfl rfl (fun _ _ => rfl) (dvsought Z (oks Z k)),
    fn_sem Z.Flaw_draw sclaw_draw rfl rfl (fun _ _ => rfl) (dvlaw_draw Z (oks Z k)),
    fn_sem Z.Flaw_marks sclaw_marks rfl rfl (fun _ _ => rfl) (dvlaw_marks Z (oks Z k)),
    fn_sem Z.Flaw_things sclaw_things rfl rfl (fun _ _ => rfl) (dvlaw_things Z (oks Z k)),
    fn_sem Z.Flaw_machine sclaw_machine rfl rfl (fun _ _ => rfl) (dvlaw_machine Z (oks Z k)),
    fn_sem Z.Flaw_copy sclaw_copy rfl rfl (fun _ _ => rfl) (dvlaw_copy Z (oks Z k)),
    fn_sem Z.Flaw_lets sclaw_lets rfl rfl (fun _ _ => rfl) (dvlaw_lets Z (oks Z k)),
    fn_sem Z.Flaw_first sclaw_first rfl rfl (fun _ _ => rfl) (dvlaw_first Z (oks Z k)),
    fn_sem Z.Flaw_rooms sclaw_rooms rfl rfl (fun _ _ => rfl) (dvlaw_rooms Z (oks Z k))⟩
theorem nwsought (Z : Txt K mg fa fd) : FnOk P w K mg base CX0 (k + 1) (fa 0) (fd 0) psought (sp2 K (cf W (k + 1)) 1 0) :=
  fn_sem2 (C := cf W k) (W := W) (fm := fsought) Z.Fsought scsought rfl rfl (fun _ _ => rfl) fun cdv A outer s H E hr => by
    have O : Oks P w K mg base fa fd W k := oks Z k
    have nd : (cxOf CX0 P w K mg base nsought "sought" (defScope ssought) (fa 0) cdv A outer s H E).nox.N.Nodup := scsought.nd
    exact (sb_cons (ss_asgT (xv 0) (sg_tup rfl (gs1 3 nd (gs1 4 nd (gs1 5 nd gs0)))))
  (sb_cons (ss_newK 1 nd se_int (se_lstN sa_nil))
  (sb_cons (yown 2 nd (sa_cons se_int sa_nil))
  (sb_cons (ywhileL 2
  (sb_cons (ypop0 6 2 nd)
  (sb_cons (ss_if (st_val (xi (SemE.r (xv 5)) (xv 6)))
  (sb_one (ss_retN (se_tup2N se_str (se_dgetL 1 (Room.u1 hr) (xv 6)))))
  sb_nil)
  (sb_one (ss_for PassesOwn.never rfl (si_range rfl Z.z_range (se_blt1 c_len rfl Z.z_len b_len (SemE.r (xv 3)))) (gn 7 nd)
  (sb_cons (yset 8 nd (xi (SemE.r (xi (SemE.r (xv 4)) (xv 6))) (xv 7)))
  (sb_one (ss_if (SemC.tst (sc_dnotin 1 (Room.u1 hr) (xv 8)))
  (sb_cons (ss_dputN 1 (Room.u1 hr) (xv 8) (se_addN (se_dget 1 (Room.u1 hr) (xv 6)) (se_lst (sa_cons (xi (SemE.r (xv 3)) (xv 7)) sa_nil))))
  (sb_one (yapp 2 (xv 8))))
  sb_nil))))))))
  (sb_one (ss_retN (se_tup2N se_str (se_dsortedN 1 rfl rfl Z.z_sorted b_sorted))))))))
end
abbrev nlaw : List Str := ["_law_script", "_law_tape", "_law_none", "_law_marks_here", "_law_machine_here", "_law_kept", "_law_due", "_law_told", "_law_room"]
theorem sclaw : FnScope nlaw ["_law_script"] (defScope slaw) := ⟨rfl, rfl, rfl, by decide +kernel, rfl, by decide +kernel, by decide +kernel⟩
def flaw : S := (.seq (.asg (.nm 2) (.call 1 (.cons (.tape 0) (.cons (.tape 1) (.cons (.lit (.int 4)) .nil))))) (.seq (.asg (.nm 3) (.call 3 (.cons (.tape 0) (.cons (.tape 1) (.cons (.bin .add (.lit (.int 1)) (.call 1 (.cons (.tape 0) (.cons (.tape 1) (.cons (.lit (.int 4)) .nil))))) .nil))))) (.seq (.asg (.nm 4) (.call 4 (.cons (.tape 0) (.cons (.tape 1) (.cons (.var 3) .nil))))) (.seq (.ife (.cmp .eq (.var 2) (.lit (.int 1))) (.asg (.nm 4) (.tup (.cons (.idx (.var 4) (.lit (.int 0))) (.cons (.idx (.var 4) (.lit (.int 1))) (.cons (.lc .seq (.idx (.var 4) (.lit (.int 1))) (.nm 8) [8] (.lit (.bool true)) (.lit (.bool false))) .nil))))) .nop) (.seq (.asg (.nm 5) (.call 5 (.cons (.var 4) .nil))) (.seq (.asg (.nm 6) (.call 7 (.cons (.var 5) .nil))) (.tail2 7 0 (.cons (.var 4) .nil) [(.or (.not (.blt .isTuple (.cons (.var 7) .nil))) (.or (.cmp .ne (.blt .len (.cons (.var 7) .nil)) (.lit (.int 2))) (.or (.not (.blt .isList (.cons (.idx (.var 7) (.lit (.int 1))) .nil))) (.cmp .ne (.var 4) (.var 5))))), (.and (.isN true (.var 6)) (.or (.cmp .ne (.idx (.var 7) (.lit (.int 0))) (.lit (.str (Str.ofString "row")))) (.cmp .ne (.idx (.var 7) (.lit (.int 1))) (.var 6))))] (.isN true (.var 6)) (.ret (.cmp .eq (.idx (.call 0 (.cons (.var 4) .nil)) (.lit (.int 1))) (.var 6))) (.seq (.ife (.not (.blt .all (.cons (.lc .seq (.idx (.var 7) (.lit (.int 1))) (.nm 8) [8] (.lit (.bool true)) (.and (.blt .isInt (.cons (.var 8) .nil)) (.not (.blt .isBool (.cons (.var 8) .nil))))) .nil))) (.ret (.lit (.bool false))) .nop) (.ret (.and (.cmp .eq (.idx (.var 7) (.lit (.int 0))) (.lit (.str (Str.ofString "none")))) (.cmp .eq (.idx (.var 7) (.lit (.int 1))) (.call 8 (.cons (.var 5) .nil)))))))))))))
section
variable {P : Program} {w : World} {K : PySem.W.Frag} {mg : Str → Option Value} {base : Heap} {fa : Nat → Addr} {fd : Nat → FuncData} {W k : Nat} {fl : Addr}
theorem dvlaw (Z : Txt K mg fa fd) (O : Oks P w K mg base fa fd W k) (hN : FnOk P w K mg base CX0 k (fa 0) (fd 0) psought (sp2 K (cf W k) 1 0)) (cdv : Value) (A : Around) (outer : List PySem.Env) (s : Shared) (H : Hp) (E : XK) (hr : Room k (A.deeper (envOfC "law" (defScope slaw) s.heap.objs.size fl cdv))) :
    SemB NwT (cf W k) W (cxOf CX0 P w K mg base nlaw "law" (defScope slaw) fl cdv A outer s H E).nox (List.tail (defBody slaw)) flaw := by
  have nd : (cxOf CX0 P w K mg base nlaw "law" (defScope slaw) fl cdv A outer s H E).nox.N.Nodup := sclaw.nd
  exact (sb_cons (yset 2 nd (xcall O.olaw_draw hr Z.glaw_draw Z.Flaw_draw.kp Z.blaw_draw (xp 0 (xp 1 (sa_cons se_int sa_nil)))))
  (sb_cons (yset 3 nd (xcall O.olaw_things hr Z.glaw_things Z.Flaw_things.kp Z.blaw_things (xp 0 (xp 1 (sa_cons (se_add se_int (xcall O.olaw_draw hr Z.glaw_draw Z.Flaw_draw.kp Z.blaw_draw (xp 0 (xp 1 (sa_cons se_int sa_nil))))) sa_nil)))))
  (sb_cons (yset 4 nd (xcall O.olaw_machine hr Z.glaw_machine Z.Flaw_machine.kp Z.blaw_machine (xp 0 (xp 1 (sa_cons (xv 3) sa_nil)))))
  (sb_cons (ss_if (SemC.tst (sc_eq (Room.u64 hr) (xv 2) se_int))
  (sb_one (yset 4 nd (se_tup (sa_cons (xi (SemE.r (xv 4)) se_int) (sa_cons (xi (SemE.r (xv 4)) se_int) (sa_cons (se_lc (own := [("_law_room", 8)]) rfl nd (si_seq (xi (SemE.r (xv 4)) se_int)) (blkOk_by (own := [("_law_room", 8)]) (N := nlaw) (sc := defScope slaw) (by decide +kernel)) (by decide) (fun _ _ _ _ _ => (gn 8 nd)) (fun _ _ _ _ _ => pts_all) (fun _ _ _ _ _ => se_bool)) sa_nil))))))
  sb_nil)
  (sb_cons (yset 5 nd (xcall O.olaw_copy hr Z.glaw_copy Z.Flaw_copy.kp Z.blaw_copy (sa_cons (xv 4) sa_nil)))
  (sb_cons (yset 6 nd (xcall O.olaw_first hr Z.glaw_first Z.Flaw_first.kp Z.blaw_first (sa_cons (xv 5) sa_nil)))
  (sb_tail2 (i := 7) hN hr Z.gsought Z.Fsought.kp Z.bsought nd (sa_cons (xv 4) sa_nil)
  (sl2_test (SemW.tst (sw_or (st_not (st_val (se_isi c_isTuple rfl Z.z_isinstance b_isinstance rfl Z.z_tuple b_tuple (SemE.r (xv 7))))) (sw_or (SemC.tst (sc_ne (Room.u64 hr) (se_blt1 c_len rfl Z.z_len b_len (SemE.r (xv 7))) se_int)) (sw_or (st_not (st_val (se_isi c_isList rfl Z.z_isinstance b_isinstance rfl Z.z_list b_list (SemE.r (xi (SemE.r (xv 7)) se_int))))) (sw_or1 (SemC.tst (sc_ne (Room.u64 hr) (xv 4) (xv 5)))))))) (sb_one (ss_ret se_bool))
  (sl2_test (SemW.tst (sw_and (SemC.tst (sc_notN (xv 6))) (sw_and1 (SemW.tst (sw_or (SemC.tst (sc_ne (Room.u64 hr) (xi (SemE.r (xv 7)) se_int) se_str)) (sw_or1 (SemC.tst (sc_ne (Room.u64 hr) (xi (SemE.r (xv 7)) se_int) (xv 6))))))))) (sb_one (ss_ret se_bool))
  (sl2_end (i := 7) rfl (by first | exact Or.inl rfl | exact Or.inr (Or.inl rfl)) (SemC.tst (sc_notN (xv 6))) pe_int
  (sb_one (ss_ret (SemC.val (sc_eq (Room.u64 hr) (xi (SemE.r (xcall O.osought hr Z.gsought Z.Fsought.kp Z.bsought (sa_cons (xv 4) sa_nil))) se_int) (xv 6)))))
  (sb_cons (ss_if (st_not (st_val (se_blt1 (c_all rfl) rfl Z.z_all b_all (SemE.r (se_lc (own := [("_law_room", 8)]) rfl nd (si_seq (xi (SemE.r (xv 7)) se_int)) (blkOk_by (own := [("_law_room", 8)]) (N := nlaw) (sc := defScope slaw) (by decide +kernel)) (by decide) (fun _ _ _ _ _ => (gn 8 nd)) (fun _ _ _ _ _ => pts_all) (fun _ _ _ _ _ => (se_and (se_isi c_isInt rfl Z.z_isinstance b_isinstance rfl Z.z_int b_int (SemE.r (xv 8))) (se_one (se_not (se_isi c_isBool rfl Z.z_isinstance b_isinstance rfl Z.z_bool b_bool (SemE.r (xv 8))))))))))))
  (sb_one (ss_ret se_bool))
  sb_nil)
  (sb_one (ss_ret (se_and (SemC.val (sc_eq (Room.u64 hr) (xi (SemE.r (xv 7)) se_int) se_str)) (se_one (SemC.val (sc_eq (Room.u64 hr) (xi (SemE.r (xv 7)) se_int) (xcall O.olaw_rooms hr Z.glaw_rooms Z.Flaw_rooms.kp Z.blaw_rooms (sa_cons (xv 5) sa_nil)))))))))))))))))))
theorem law_all (Z : Txt K mg fa fd) (hN : FnOk P w K mg base CX0 k (fa 0) (fd 0) psought (sp2 K (cf W k) 1 0)) {fdl : FuncData} (Fl : Fun K "law" "law" slaw fl fdl) (he : ∀ ns : List Int, ns.length ≤ 63 → ∃ t, exs (cf W k) W flaw (env0 ns 9) 0 = some (.rt (.bool true) t)) : FnOk P w K mg base CX0 (k + 1) fl fdl ["_law_script"] (spLaw K) :=
  law_ok (n := 9) (rest := List.tail (defBody slaw)) Fl sclaw rfl rfl (by decide) rfl (by first | exact Or.inl rfl | exact Or.inr rfl) (dvlaw Z (oks Z k) hN) (fun _ _ _ _ _ _ => rfl) he
end
theorem all_mk {l : PySem.W.OpenLaw} {w : World} {K : PySem.W.Frag} {h : Heap} {mg : Str → Option Value} {fl : Addr} {W k : Nat} (X : K.In h) (G : h.Ns mainGlobals mg) (hfa : mg "law" = some (.ref fl))
    {f0 : Addr} {od0 an0 : Option Addr} {sl0 : Array (Option Value)} {oc0 kV0 dc0 pm0 cd0 ct0 : Value}
    (a0 : PySem.W.nsIn K mainGlobals "sought" = some (some (.ref f0))) (l0 : K.lookup f0 = some ⟨oc0, od0, .func (PySem.W.fnOf "sought" "sought" (defArgs ssought) (defBody ssought) (defScope ssought) .none kV0 dc0 pm0 an0 cd0 ct0), sl0⟩) (c0 : PySem.W.codeIn K cd0 "sought" = true) (k0 : PySem.W.keepIn K (.ref f0) = true)
    {f1 : Addr} {od1 an1 : Option Addr} {sl1 : Array (Option Value)} {oc1 kV1 dc1 pm1 cd1 ct1 : Value}
    (a1 : PySem.W.nsIn K mainGlobals "_law_draw" = some (some (.ref f1))) (l1 : K.lookup f1 = some ⟨oc1, od1, .func (PySem.W.fnOf "_law_draw" "_law_draw" (defArgs slaw_draw) (defBody slaw_draw) (defScope slaw_draw) .none kV1 dc1 pm1 an1 cd1 ct1), sl1⟩) (c1 : PySem.W.codeIn K cd1 "_law_draw" = true) (k1 : PySem.W.keepIn K (.ref f1) = true)
    {f2 : Addr} {od2 an2 : Option Addr} {sl2 : Array (Option Value)} {oc2 kV2 dc2 pm2 cd2 ct2 : Value}
    (a2 : PySem.W.nsIn K mainGlobals "_law_marks" = some (some (.ref f2))) (l2 : K.lookup f2 = some ⟨oc2, od2, .func (PySem.W.fnOf "_law_marks" "_law_marks" (defArgs slaw_marks) (defBody slaw_marks) (defScope slaw_marks) .none kV2 dc2 pm2 an2 cd2 ct2), sl2⟩) (c2 : PySem.W.codeIn K cd2 "_law_marks" = true) (k2 : PySem.W.keepIn K (.ref f2) = true)
    {f3 : Addr} {od3 an3 : Option Addr} {sl3 : Array (Option Value)} {oc3 kV3 dc3 pm3 cd3 ct3 : Value}
    (a3 : PySem.W.nsIn K mainGlobals "_law_things" = some (some (.ref f3))) (l3 : K.lookup f3 = some ⟨oc3, od3, .func (PySem.W.fnOf "_law_things" "_law_things" (defArgs slaw_things) (defBody slaw_things) (defScope slaw_things) .none kV3 dc3 pm3 an3 cd3 ct3), sl3⟩) (c3 : PySem.W.codeIn K cd3 "_law_things" = true) (k3 : PySem.W.keepIn K (.ref f3) = true)
    {f4 : Addr} {od4 an4 : Option Addr} {sl4 : Array (Option Value)} {oc4 kV4 dc4 pm4 cd4 ct4 : Value}
    (a4 : PySem.W.nsIn K mainGlobals "_law_machine" = some (some (.ref f4))) (l4 : K.lookup f4 = some ⟨oc4, od4, .func (PySem.W.fnOf "_law_machine" "_law_machine" (defArgs slaw_machine) (defBody slaw_machine) (defScope slaw_machine) .none kV4 dc4 pm4 an4 cd4 ct4), sl4⟩) (c4 : PySem.W.codeIn K cd4 "_law_machine" = true) (k4 : PySem.W.keepIn K (.ref f4) = true)
    {f5 : Addr} {od5 an5 : Option Addr} {sl5 : Array (Option Value)} {oc5 kV5 dc5 pm5 cd5 ct5 : Value}
    (a5 : PySem.W.nsIn K mainGlobals "_law_copy" = some (some (.ref f5))) (l5 : K.lookup f5 = some ⟨oc5, od5, .func (PySem.W.fnOf "_law_copy" "_law_copy" (defArgs slaw_copy) (defBody slaw_copy) (defScope slaw_copy) .none kV5 dc5 pm5 an5 cd5 ct5), sl5⟩) (c5 : PySem.W.codeIn K cd5 "_law_copy" = true) (k5 : PySem.W.keepIn K (.ref f5) = true)
    {f6 : Addr} {od6 an6 : Option Addr} {sl6 : Array (Option Value)} {oc6 kV6 dc6 pm6 cd6 ct6 : Value}
    (a6 : PySem.W.nsIn K mainGlobals "_law_lets" = some (some (.ref f6))) (l6 : K.lookup f6 = some ⟨oc6, od6, .func (PySem.W.fnOf "_law_lets" "_law_lets" (defArgs slaw_lets) (defBody slaw_lets) (defScope slaw_lets) .none kV6 dc6 pm6 an6 cd6 ct6), sl6⟩) (c6 : PySem.W.codeIn K cd6 "_law_lets" = true) (k6 : PySem.W.keepIn K (.ref f6) = true)
    {f7 : Addr} {od7 an7 : Option Addr} {sl7 : Array (Option Value)} {oc7 kV7 dc7 pm7 cd7 ct7 : Value}
    (a7 : PySem.W.nsIn K mainGlobals "_law_first" = some (some (.ref f7))) (l7 : K.lookup f7 = some ⟨oc7, od7, .func (PySem.W.fnOf "_law_first" "_law_first" (defArgs slaw_first) (defBody slaw_first) (defScope slaw_first) .none kV7 dc7 pm7 an7 cd7 ct7), sl7⟩) (c7 : PySem.W.codeIn K cd7 "_law_first" = true) (k7 : PySem.W.keepIn K (.ref f7) = true)
    {f8 : Addr} {od8 an8 : Option Addr} {sl8 : Array (Option Value)} {oc8 kV8 dc8 pm8 cd8 ct8 : Value}
    (a8 : PySem.W.nsIn K mainGlobals "_law_rooms" = some (some (.ref f8))) (l8 : K.lookup f8 = some ⟨oc8, od8, .func (PySem.W.fnOf "_law_rooms" "_law_rooms" (defArgs slaw_rooms) (defBody slaw_rooms) (defScope slaw_rooms) .none kV8 dc8 pm8 an8 cd8 ct8), sl8⟩) (c8 : PySem.W.codeIn K cd8 "_law_rooms" = true) (k8 : PySem.W.keepIn K (.ref f8) = true)
    {f9 : Addr} {od9 an9 : Option Addr} {sl9 : Array (Option Value)} {oc9 kV9 dc9 pm9 cd9 ct9 : Value}
    (a9 : PySem.W.nsIn K mainGlobals "law" = some (some (.ref f9))) (l9 : K.lookup f9 = some ⟨oc9, od9, .func (PySem.W.fnOf "law" "law" (defArgs slaw) (defBody slaw) (defScope slaw) .none kV9 dc9 pm9 an9 cd9 ct9), sl9⟩) (c9 : PySem.W.codeIn K cd9 "law" = true) (k9 : PySem.W.keepIn K (.ref f9) = true)
    (z_all : PySem.W.nsIn K mainGlobals "all" = some none)
    (z_bool : PySem.W.nsIn K mainGlobals "bool" = some none)
    (z_int : PySem.W.nsIn K mainGlobals "int" = some none)
    (z_isinstance : PySem.W.nsIn K mainGlobals "isinstance" = some none)
    (z_len : PySem.W.nsIn K mainGlobals "len" = some none)
    (z_list : PySem.W.nsIn K mainGlobals "list" = some none)
    (z_min : PySem.W.nsIn K mainGlobals "min" = some none)
    (z_range : PySem.W.nsIn K mainGlobals "range" = some none)
    (z_set : PySem.W.nsIn K mainGlobals "set" = some none)
    (z_sorted : PySem.W.nsIn K mainGlobals "sorted" = some none)
    (z_tuple : PySem.W.nsIn K mainGlobals "tuple" = some none)
    (hN : ∀ (base : Heap) (fa : Nat → Addr) (fd : Nat → FuncData), K.In base → base.Ns mainGlobals mg → Txt K mg fa fd → FnOk l.prog w K mg base CX0 k (fa 0) (fd 0) psought (sp2 K (cf W k) 1 0)) (he : ∀ ns : List Int, ns.length ≤ 63 → ∃ t, exs (cf W k) W flaw (env0 ns 9) 0 = some (.rt (.bool true) t)) :
    ∃ fd : FuncData, (∀ (s : Shared) (v : Value), BindsTo s fd ⟨[v], []⟩ [("_law_script", v)]) ∧ ∀ base : Heap, K.In base → base.Ns mainGlobals mg → FnOk l.prog w K mg base CX0 (k + 1) fl fd ["_law_script"] (spLaw K) := by
  have e := hfa.symm.trans (PySem.W.mg_of X G a9)
  cases e
  have F0 := fun_mk (st := ssought) l0 c0 k0
  have F1 := fun_mk (st := slaw_draw) l1 c1 k1
  have F2 := fun_mk (st := slaw_marks) l2 c2 k2
  have F3 := fun_mk (st := slaw_things) l3 c3 k3
  have F4 := fun_mk (st := slaw_machine) l4 c4 k4
  have F5 := fun_mk (st := slaw_copy) l5 c5 k5
  have F6 := fun_mk (st := slaw_lets) l6 c6 k6
  have F7 := fun_mk (st := slaw_first) l7 c7 k7
  have F8 := fun_mk (st := slaw_rooms) l8 c8 k8
  have F9 := fun_mk (st := slaw) l9 c9 k9
  let fa : Nat → Addr := fun | 0 => f0 | 1 => f1 | 2 => f2 | 3 => f3 | 4 => f4 | 5 => f5 | 6 => f6 | 7 => f7 | 8 => f8 | _ => 0
  let fd : Nat → FuncData := fun | 0 => PySem.W.fnOf "sought" "sought" (defArgs ssought) (defBody ssought) (defScope ssought) .none kV0 dc0 pm0 an0 cd0 ct0 | 1 => PySem.W.fnOf "_law_draw" "_law_draw" (defArgs slaw_draw) (defBody slaw_draw) (defScope slaw_draw) .none kV1 dc1 pm1 an1 cd1 ct1 | 2 => PySem.W.fnOf "_law_marks" "_law_marks" (defArgs slaw_marks) (defBody slaw_marks) (defScope slaw_marks) .none kV2 dc2 pm2 an2 cd2 ct2 | 3 => PySem.W.fnOf "_law_things" "_law_things" (defArgs slaw_things) (defBody slaw_things) (defScope slaw_things) .none kV3 dc3 pm3 an3 cd3 ct3 | 4 => PySem.W.fnOf "_law_machine" "_law_machine" (defArgs slaw_machine) (defBody slaw_machine) (defScope slaw_machine) .none kV4 dc4 pm4 an4 cd4 ct4 | 5 => PySem.W.fnOf "_law_copy" "_law_copy" (defArgs slaw_copy) (defBody slaw_copy) (defScope slaw_copy) .none kV5 dc5 pm5 an5 cd5 ct5 | 6 => PySem.W.fnOf "_law_lets" "_law_lets" (defArgs slaw_lets) (defBody slaw_lets) (defScope slaw_lets) .none kV6 dc6 pm6 an6 cd6 ct6 | 7 => PySem.W.fnOf "_law_first" "_law_first" (defArgs slaw_first) (defBody slaw_first) (defScope slaw_first) .none kV7 dc7 pm7 an7 cd7 ct7 | 8 => PySem.W.fnOf "_law_rooms" "_law_rooms" (defArgs slaw_rooms) (defBody slaw_rooms) (defScope slaw_rooms) .none kV8 dc8 pm8 an8 cd8 ct8 | _ => PySem.W.fnOf "sought" "sought" (defArgs ssought) (defBody ssought) (defScope ssought) .none kV0 dc0 pm0 an0 cd0 ct0
  have Z : Txt K mg fa fd := ⟨F0,
    PySem.W.mg_of X G a0,
    F0.binds (ps := psought) fun _ _ _ _ _ _ us hl => match us, hl with | [_], _ => rfl,
    F1,
    PySem.W.mg_of X G a1,
    F1.binds (ps := plaw_draw) fun _ _ _ _ _ _ us hl => match us, hl with | [_, _, _], _ => rfl,
    F2,
    PySem.W.mg_of X G a2,
    F2.binds (ps := plaw_marks) fun _ _ _ _ _ _ us hl => match us, hl with | [_, _, _], _ => rfl,
    F3,
    PySem.W.mg_of X G a3,
    F3.binds (ps := plaw_things) fun _ _ _ _ _ _ us hl => match us, hl with | [_, _, _], _ => rfl,
    F4,
    PySem.W.mg_of X G a4,
    F4.binds (ps := plaw_machine) fun _ _ _ _ _ _ us hl => match us, hl with | [_, _, _], _ => rfl,
    F5,
    PySem.W.mg_of X G a5,
    F5.binds (ps := plaw_copy) fun _ _ _ _ _ _ us hl => match us, hl with | [_], _ => rfl,
    F6,
    PySem.W.mg_of X G a6,
    F6.binds (ps := plaw_lets) fun _ _ _ _ _ _ us hl => match us, hl with | [_, _], _ => rfl,
    F7,
    PySem.W.mg_of X G a7,
    F7.binds (ps := plaw_first) fun _ _ _ _ _ _ us hl => match us, hl with | [_], _ => rfl,
    F8,
    PySem.W.mg_of X G a8,
    F8.binds (ps := plaw_rooms) fun _ _ _ _ _ _ us hl => match us, hl with | [_], _ => rfl,
    PySem.W.mg_none_of X G z_all,
    PySem.W.mg_none_of X G z_bool,
    PySem.W.mg_none_of X G z_int,
    PySem.W.mg_none_of X G z_isinstance,
    PySem.W.mg_none_of X G z_len,
    PySem.W.mg_none_of X G z_list,
    PySem.W.mg_none_of X G z_min,
    PySem.W.mg_none_of X G z_range,
    PySem.W.mg_none_of X G z_set,
    PySem.W.mg_none_of X G z_sorted,
    PySem.W.mg_none_of X G z_tuple⟩
  exact ⟨PySem.W.fnOf "law" "law" (defArgs slaw) (defBody slaw) (defScope slaw) .none kV9 dc9 pm9 an9 cd9 ct9, fun s v => .of_eq rfl, fun base hk hg => law_all Z (hN base fa fd hk hg Z) F9 he⟩
end Lw

set_option Elab.async false
set_option linter.all false
set_option maxRecDepth 100000
set_option maxHeartbeats 400000
namespace Lw
open PySem PySem.Spec PyProof.Rows L2 Pl
/-! ### draws -/
def seedD (ns : List Int) : Int := (ns.take 4).foldl (fun s c => (s * 131 + c) % 1000003) (ns.length : Int)
def drawD (ns : List Int) (t m : Int) : Int := if t + 1 ≤ (ns.length : Int) then ns.getD t.toNat 0 % m else (seedD ns + 7) * ((t + 1) * (t + 1) + 48271) % 1000003 % m
theorem drawD_lo {ns : List Int} {t m : Int} (hm : 0 < m) : 0 ≤ drawD ns t m := by
  unfold drawD
  split <;> exact Int.emod_nonneg _ (by omega)
theorem drawD_hi {ns : List Int} {t m : Int} (hm : 0 < m) : drawD ns t m < m := by
  unfold drawD
  split <;> exact Int.emod_lt_of_pos _ hm
theorem seed_bd : ∀ (cs : List Int) (s : Int), 0 ≤ s → s ≤ 1000003 → 0 ≤ cs.foldl (fun s c => (s * 131 + c) % 1000003) s ∧ cs.foldl (fun s c => (s * 131 + c) % 1000003) s ≤ 1000003
  | [], s, h1, h2 => ⟨h1, h2⟩
  | c :: cs, s, h1, h2 => seed_bd cs _ (Int.emod_nonneg _ (by decide)) (Int.le_of_lt (Int.emod_lt_of_pos _ (by decide)))
theorem seedD_bd {ns : List Int} (h : ns.length ≤ 63) : 0 ≤ seedD ns ∧ seedD ns ≤ 1000003 := seed_bd _ _ (by omega) (by omega)
theorem cut4 (ns : List Int) : Pl.cutD (ns.map PyData.int) none (some 4) = (ns.take 4).map PyData.int := by
  unfold Pl.cutD
  rw [HT.sIx_none, show (some (4 : Int)) = some ((4 : Nat) : Int) from rfl, HT.sIx_nat, List.drop_zero, Nat.sub_zero, List.length_map, List.map_take]
  by_cases h : 4 ≤ ns.length
  · rw [Nat.min_eq_left h]
  · rw [Nat.min_eq_right (by omega), List.take_of_length_le (by simp), List.take_of_length_le (by simp; omega)]
section
variable {W k : Nat} {ns : List Int} {t m : Int}
theorem draw_loop (C : CallF) (m : PyData) : ∀ (cs : List Int) (s : Int) (x : Option LV) (t : Int), 0 ≤ s → s ≤ 1000003 →
    ∃ x', forL (lp C W (.asg (.nm 3) (.bin .mod (.bin .add (.bin .mul (.var 3) (.lit (.int 131))) (.var 4)) (.lit (.int 1000003))))) (.nm 4) (cs.map PyData.int) [some (.scr ns), some .tp, some (.d m), some (.d (.int s)), x] t =
      some (.nx [some (.scr ns), some .tp, some (.d m), some (.d (.int (cs.foldl (fun s c => (s * 131 + c) % 1000003) s))), x'] t)
  | [], s, x, t, _, _ => ⟨x, rfl⟩
  | c :: cs, s, x, t, h1, h2 => by
    obtain ⟨x', e⟩ := draw_loop C m cs ((s * 131 + c) % 1000003) (some (.d (.int c))) t (Int.emod_nonneg _ (by decide)) (Int.le_of_lt (Int.emod_lt_of_pos _ (by decide)))
    refine ⟨x', ?_⟩
    have b1 : s.natAbs < 18446744073709551616 := by omega
    rw [List.map_cons, forL]
    simp [x_lp, b1]
    exact e
theorem draw_eq (h : ns.length ≤ 63) (ht : 0 ≤ t) (ht2 : t ≤ 1000000) (hm : 0 < m) : cf W (k + 1) ilaw_draw [.scr ns, .tp, .d (.int m)] t = some (.int (drawD ns t m), t + 1) := by
  unfold drawD
  by_cases hl : t + 1 ≤ (ns.length : Int)
  · have e1 : atI (ns.map PyData.int) t = some (.int (ns.getD t.toNat 0)) := by
      rw [atI_ok ht (by simp; omega), List.getElem_map, List.getD_eq_getElem?_getD, List.getElem?_eq_getElem (by omega)]
      rfl
    rw [ulaw_draw]
    simp [flaw_draw, hl, hm, e1]
  · obtain ⟨x', e⟩ := draw_loop (W := W) (ns := ns) (cf W k) (.int m) (ns.take 4) (ns.length : Int) none (t + 1) (by omega) (by omega)
    obtain ⟨s0, s1⟩ := seedD_bd h
    have e' : (ns.take 4).foldl (fun s c => (s * 131 + c) % 1000003) (ns.length : Int) = seedD ns := rfl
    rw [e', List.map_take] at e
    have b1 : (seedD ns + 7).natAbs < 18446744073709551616 := by omega
    have b3 : (t + 1).natAbs < 18446744073709551616 := by omega
    rw [ulaw_draw]
    simp [flaw_draw, hl, hm, cut4, e, b1, b3]
end
/-! ### marks -/
def signsD : List Nat := (sigA ++ sigB).cps.toList
theorem sig_len : sigA.length + sigB.length ≤ sizeLine := by
  have h1 : sigA.length = 62 := by decide +kernel
  have h2 : sigB.length = 32 := by decide +kernel
  rw [h1, h2]
  decide
theorem sig_cat : (sigA ++ sigB).cps.toList = signsD := rfl
theorem signsD_len : signsD.length = 94 := by decide +kernel
theorem signsD_ok : signsD.all (fun c => decide (c < 127)) = true := by decide +kernel
def signAt (i : Int) : PyData := sign (signsD.getD (i % 94).toNat 0)
def marksD (ns : List Int) (t : Int) (n : Nat) : List PyData := (List.range n).map fun (k : Nat) => signAt (drawD ns t 94 + (1 + drawD ns (t + 1) 23) * (k : Int))
theorem signAt_ok (i : Int) : ∃ c : Nat, signAt i = sign c ∧ c < 127 := by
  refine ⟨_, rfl, ?_⟩
  have h1 := Int.emod_nonneg i (b := 94) (by decide)
  have h2 := Int.emod_lt_of_pos i (b := 94) (by decide)
  have hl := signsD_len
  have hi : (i % 94).toNat < signsD.length := by omega
  rw [List.getD_eq_getElem?_getD, List.getElem?_eq_getElem hi, Option.getD_some]
  exact of_decide_eq_true (List.all_eq_true.mp signsD_ok _ (List.getElem_mem hi))
theorem okSign {c : Nat} (h : c < 127) : OkMark (sign c) := by
  refine ⟨?_, by simp [sign, PyData.depth]⟩
  simp [sign, PyData.canLay0, PyData.strOk]
  omega
section
variable {W k : Nat} {ns : List Int} {t m : Int}
theorem marks_turn {C : CallF} {sg : Str} {x y z : PyData} {a b : Int} {i : Nat} {t : Int} (hsg : sg.cps.toList = signsD) (hsl : sg.length ≤ sizeLine) (c1 : b.natAbs < 18446744073709551616) :
    lcF C [some (.scr ns), some .tp, some (.d x), some (.d (.str sg)), some (.d (.int a)), some (.d (.int b)), none] [6] (.nm 6) (.lit (.bool true)) (.idx (.var 3) (.bin .mod (.bin .add (.var 4) (.bin .mul (.var 5) (.var 6))) (.lit (.int 94)))) (.int (i : Nat)) t = some (some (signAt (a + b * (i : Int))), t) := by
  have g1 := Int.emod_nonneg (a + b * (i : Int)) (b := 94) (by decide)
  have g2 := Int.emod_lt_of_pos (a + b * (i : Int)) (b := 94) (by decide)
  have e3 : atI sg.cps.toList ((a + b * (i : Int)) % 94) = some (signsD.getD ((a + b * (i : Int)) % 94).toNat 0) := by
    have hl := signsD_len
    rw [hsg, atI_ok g1 (by omega), List.getD_eq_getElem?_getD, List.getElem?_eq_getElem (by omega), Option.getD_some]
  simp [c1, hsl, e3, signAt]
theorem marks_eq {n : Nat} (h : ns.length ≤ 63) (ht : 0 ≤ t) (ht2 : t ≤ 900000) (hn : n ≤ 100) : cf W (k + 2) ilaw_marks [.scr ns, .tp, .d (.int (n : Nat))] t = some (.list (marksD ns t n), t + 1 + 1) := by
  have d1 := draw_eq (W := W) (k := k) (m := 94) h ht (by omega) (by decide)
  have d2 := draw_eq (W := W) (k := k) (t := t + 1) (m := 23) h (by omega) (by omega) (by decide)
  have b1 := drawD_lo (ns := ns) (t := t + 1) (m := 23) (by decide)
  have b2 := drawD_hi (ns := ns) (t := t + 1) (m := 23) (by decide)
  have e0 := sig_len
  have hsg := sig_cat
  have hsl : (sigA ++ sigB).length ≤ sizeLine := by
    have : (sigA ++ sigB).length = 94 := by
      show (sigA ++ sigB).cps.size = 94
      rw [← Array.length_toList, hsg, signsD_len]
    rw [this]
    decide
  generalize hs : sigA ++ sigB = sg at hsg hsl
  have q1 : (n : Int) < 4611686018427387904 := by omega
  have q2 : -4611686018427387904 ≤ (n : Int) := by omega
  have q3 : n < sizeLine := Nat.lt_of_le_of_lt hn (by decide)
  have q4 : n < 1000000000 := by omega
  generalize hb : 1 + drawD ns (t + 1) 23 = b
  generalize ha : drawD ns t 94 = a at d1
  have lc := lc_range n (t + 1 + 1) fun i _ => marks_turn (ns := ns) (C := cf W (k + 1)) (x := .int (n : Nat)) (y := .none) (z := .none) (a := a) (b := b) (i := i) (t := t + 1 + 1) hsg hsl (by omega)
  rw [ulaw_marks]
  unfold marksD
  rw [hb, ha]
  unfold flaw_marks
  generalize sigA = sa at hs e0 ⊢
  generalize sigB = sb at hs e0 ⊢
  simp [d1, d2, hb, e0, hs, q1, q2, q3, q4, lc]
/-- one to four marks: signs, pairs, texts, numbers -/
def thingsD (ns : List Int) (t : Int) (n : Nat) : List PyData :=
  if drawD ns (t + 2) 6 = 1 then (List.range n).map fun k => .tuple [(marksD ns t n).getD 0 .none, .int (k : Nat)]
  else if drawD ns (t + 2) 6 = 2 then (List.range n).map fun k => match (marksD ns t n).getD 0 .none with
    | .str z => .str (Txt.mul z ((k : Nat) + 1))
    | _ => .none
  else if drawD ns (t + 2) 6 = 3 then (List.range n).map fun k => .int (7 * (k : Nat))
  else marksD ns t n
end
end Lw

set_option Elab.async false
set_option linter.all false
set_option maxRecDepth 100000
set_option maxHeartbeats 400000
namespace Lw
open PySem PySem.Spec PyProof.Rows L2 Pl
/-! ### marks of all kinds -/
@[simp] theorem at0 {x : PyData} {xs : List PyData} : atI (x :: xs) 0 = some x := by
  rw [atI_ok (by omega) (by simp)]
  rfl
section
variable {W k : Nat} {ns : List Int} {t m : Int}
theorem marksD_len {n : Nat} : (marksD ns t n).length = n := by simp [marksD]
theorem marksD_ok {n : Nat} : ∀ d ∈ marksD ns t n, ∃ c : Nat, d = sign c ∧ c < 127 := by
  intro d hd
  obtain ⟨i, _, rfl⟩ := List.mem_map.mp hd
  exact signAt_ok _
/-- a mark: a short text, a number, or a pair of a sign and a number -/
def Mk (d : PyData) : Prop := (∃ z, d = .str z ∧ PyData.strOk z = true ∧ z.length ≤ 100) ∨ (∃ i, d = .int i) ∨ ∃ c i, c < 127 ∧ d = .tuple [sign c, .int i]
theorem mk_ok {d : PyData} (h : Mk d) : OkMark d := by
  rcases h with ⟨z, rfl, h, _⟩ | ⟨i, rfl⟩ | ⟨c, i, h, rfl⟩
  · exact ⟨by simpa [PyData.canLay0] using h, by simp [PyData.depth]⟩
  · exact ⟨by simp [PyData.canLay0], by simp [PyData.depth]⟩
  · obtain ⟨g1, g2⟩ := okSign h
    constructor
    · simp [PyData.canLay0, PyData.canLayAll0, g1]
    · simp [PyData.depth, PyData.depthAll, sign]
theorem mk_sign {c : Nat} (h : c < 127) : Mk (sign c) := .inl ⟨_, rfl, by simpa [sign, PyData.canLay0] using (okSign h).1, by show (1 : Nat) ≤ 100; omega⟩
theorem mul_sign {c : Nat} {k : Nat} (h : c < 127) (hk : k < 100) : Mk (.str (Txt.mul ⟨#[c]⟩ ((k : Int) + 1))) := by
  refine .inl ⟨_, rfl, ?_, PyProof.Rows.len_mul_one (c := c) rfl (by omega)⟩
  have e : (Txt.mul ⟨#[c]⟩ ((k : Int) + 1)).cps.toList = List.replicate ((k : Int) + 1).toNat c := PyProof.Rows.mul_one_list c _
  simp only [PyData.strOk]
  rw [← Array.all_toList, e, List.all_eq_true]
  intro x hx
  rw [List.eq_of_mem_replicate hx]
  exact decide_eq_true (by omega)
theorem things_eq {n : Nat} (h : ns.length ≤ 63) (ht : 0 ≤ t) (ht2 : t ≤ 800000) (h1 : 1 ≤ n) (hn : n ≤ 100) : ∃ ds, cf W (k + 3) ilaw_things [.scr ns, .tp, .d (.int (n : Nat))] t = some (.list ds, t + 1 + 1 + 1) ∧ ds.length = n ∧ ∀ d ∈ ds, Mk d := by
  have mk := marks_eq (W := W) (k := k) (n := n) h ht (by omega) hn
  have d1 := draw_eq (W := W) (k := k + 1) (t := t + 1 + 1) (m := 6) h (by omega) (by omega) (by decide)
  have a1 := drawD_lo (ns := ns) (t := t + 1 + 1) (m := 6) (by decide)
  have a2 := drawD_hi (ns := ns) (t := t + 1 + 1) (m := 6) (by decide)
  have ok := marksD_ok (ns := ns) (t := t) (n := n)
  have ln := marksD_len (ns := ns) (t := t) (n := n)
  generalize marksD ns t n = ms at mk ok ln
  generalize drawD ns (t + 1 + 1) 6 = way at d1 a1 a2
  obtain ⟨m0, mr, rfl⟩ : ∃ m0 mr, ms = m0 :: mr := by
    cases ms with
    | nil => simp at ln; omega
    | cons a b => exact ⟨a, b, rfl⟩
  obtain ⟨c, rfl, hc⟩ := ok m0 List.mem_cons_self
  have q3 : n < sizeLine := Nat.lt_of_le_of_lt hn (by decide)
  have q4 : n < 1000000000 := by omega
  rw [ulaw_things]
  unfold flaw_things
  rcases (show way = 1 ∨ way = 2 ∨ way = 3 ∨ (way ≠ 1 ∧ way ≠ 2 ∧ way ≠ 3) by omega) with e | e | e | ⟨e1, e2, e3⟩
  · subst e
    have lc := lc_range (f := lcF (cf W (k + 2)) [some (.scr ns), some .tp, some (.d (.int (n : Nat))), some (.d (.list (sign c :: mr))), some (.d (.int 1)), none] [5] (.nm 5) (.lit (.bool true)) (.tup (.cons (.idx (.var 3) (.lit (.int 0))) (.cons (.var 5) .nil)))) (g := fun i => .tuple [sign c, .int (i : Nat)]) n (t + 1 + 1 + 1) (by intro i hi; simp)
    refine ⟨(List.range n).map (fun i => .tuple [sign c, .int (i : Nat)]), ?_, ?_, ?_⟩
    · simp [mk, d1, q3, q4, lc]
    · simp
    · intro d hd
      obtain ⟨i, _, rfl⟩ := List.mem_map.mp hd
      exact .inr (.inr ⟨c, _, hc, rfl⟩)
  · subst e
    have lc := lc_range (f := lcF (cf W (k + 2)) [some (.scr ns), some .tp, some (.d (.int (n : Nat))), some (.d (.list (sign c :: mr))), some (.d (.int 2)), none] [5] (.nm 5) (.lit (.bool true)) (.bin .mul (.idx (.var 3) (.lit (.int 0))) (.bin .add (.var 5) (.lit (.int 1))))) (g := fun i => .str (Txt.mul ⟨#[c]⟩ ((i : Int) + 1))) n (t + 1 + 1 + 1) (by
      intro i hi
      have z1 : (0 : Int) ≤ (i : Int) + 1 := by omega
      have z2 : (i : Int) + 1 ≤ 100 := by omega
      have z3 : (⟨#[c]⟩ : Str).length ≤ 100 := by show (1 : Nat) ≤ 100; omega
      simp [sign, z1, z2, z3])
    refine ⟨(List.range n).map (fun (i : Nat) => .str (Txt.mul ⟨#[c]⟩ ((i : Int) + 1))), ?_, ?_, ?_⟩
    · simp [mk, d1, q3, q4, lc]
    · simp
    · intro d hd
      obtain ⟨i, hi, rfl⟩ := List.mem_map.mp hd
      have hi := List.mem_range.mp hi
      exact mul_sign hc (by omega)
  · subst e
    have lc := lc_range (f := lcF (cf W (k + 2)) [some (.scr ns), some .tp, some (.d (.int (n : Nat))), some (.d (.list (sign c :: mr))), some (.d (.int 3)), none] [5] (.nm 5) (.lit (.bool true)) (.bin .mul (.lit (.int 7)) (.var 5))) (g := fun i => .int (7 * (i : Nat))) n (t + 1 + 1 + 1) (by intro i hi; simp)
    refine ⟨(List.range n).map (fun i => .int (7 * (i : Nat))), ?_, ?_, ?_⟩
    · simp [mk, d1, q3, q4, lc]
    · simp
    · intro d hd
      obtain ⟨i, _, rfl⟩ := List.mem_map.mp hd
      exact .inr (.inl ⟨_, rfl⟩)
  · refine ⟨sign c :: mr, ?_, ln, ?_⟩
    · have e1' : (way == 1) = false := by simpa using e1
      have e2' : (way == 2) = false := by simpa using e2
      have e3' : (way == 3) = false := by simpa using e3
      simp [mk, d1, e1', e2', e3']
    · intro d hd
      obtain ⟨c', rfl, hc'⟩ := ok d hd
      exact mk_sign hc'
end
/-! ### machines -/
abbrev bRow : S := (.seq (.asg (.nm 9) (.call 1 (.cons (.tape 0) (.cons (.tape 1) (.cons (.bin .mul (.lit (.int 3)) (.var 3)) .nil))))) (.ife (.cmp .lt (.var 9) (.bin .mul (.lit (.int 2)) (.var 3))) (.app 7 (.bin .mod (.var 9) (.var 3))) (.app 7 (.blt .min (.cons (.bin .sub (.var 3) (.lit (.int 1))) (.cons (.bin .add (.var 6) (.lit (.int 1))) .nil))))))
abbrev bRows : S := (.seq (.own 7 .nil) (.seq (.for .seq (.var 2) (.nm 8) bRow) (.seq (.frz 7) (.seq (.app 4 (.var 7)) (.app 5 (.cmp .eq (.call 1 (.cons (.tape 0) (.cons (.tape 1) (.cons (.lit (.int 3)) .nil)))) (.lit (.int 0))))))))
def Draws (ns : List Int) (C : CallF) : Prop := ∀ {t m : Int}, 0 ≤ t → t ≤ 1000000 → 0 < m → C ilaw_draw [.scr ns, .tp, .d (.int m)] t = some (.int (drawD ns t m), t + 1)
theorem draws {W k : Nat} {ns : List Int} (h : ns.length ≤ 63) : Draws ns (cf W (k + 1)) := fun h1 h2 h3 => draw_eq h h1 h2 h3
section
variable {W k : Nat} {ns : List Int}
abbrev envM (ns : List Int) (ds : List PyData) (m : Nat) (S G : List PyData) (room : Option LV) (R x8 x9 : Option LV) : Pl.Env := [some (.scr ns), some .tp, some (.d (.list ds)), some (.d (.int (m : Nat))), some (.own S), some (.own G), room, R, x8, x9]
theorem row_turns {C : CallF} (hC : Draws ns C) {ds S G : List PyData} {m i : Nat} (hm : 0 < m) {x8' x9' : Option LV} {t0 : Int} (ht : 0 ≤ t0) (ht2 : t0 ≤ 900000) (hd : ds.length ≤ 100) :
    ∃ (rs : List Nat) (x8 x9 : Option LV), forL (lp C W bRow) (.nm 8) ds (envM ns ds m S G (some (.d (.int (i : Nat)))) (some (.own [])) x8' x9') t0 =
      some (.nx (envM ns ds m S G (some (.d (.int (i : Nat)))) (some (.own (rs.map fun i => .int (i : Nat)))) x8 x9) (t0 + ds.length)) ∧ rs.length = ds.length ∧ ∀ r ∈ rs, r < m := by
  obtain ⟨e, t', h1, rs, y8, y9, h2, h3, h4, h5⟩ := forL_ok0 (f := lp C W bRow) (tg := .nm 8) (fun (j : Nat) env t => ∃ (rs : List Nat) (x8 x9 : Option LV), rs.length = j ∧ (∀ r ∈ rs, r < m) ∧ env = envM ns ds m S G (some (.d (.int (i : Nat)))) (some (.own (rs.map fun i => .int (i : Nat)))) x8 x9 ∧ t = t0 + (j : Int))
    (xs := ds) (env := envM ns ds m S G (some (.d (.int (i : Nat)))) (some (.own [])) x8' x9') (t := t0) ⟨[], _, _, rfl, by simp, rfl, by simp⟩ fun j d env t hj ⟨rs, y8, y9, e1, e2, e3, e4⟩ => by
      subst e3
      have hj' : j < ds.length := (List.getElem?_eq_some_iff.mp hj).1
      have hs : rs.length < sizeLine := Nat.lt_of_le_of_lt (show rs.length ≤ 100 by omega) (by decide)
      have d1 := hC (t := t) (m := 3 * (m : Int)) (by omega) (by omega) (by omega)
      have a1 := drawD_lo (ns := ns) (t := t) (m := 3 * (m : Int)) (by omega)
      generalize drawD ns t (3 * (m : Int)) = to at d1 a1
      by_cases hl : to < 2 * (m : Int)
      · have g1 := Int.emod_nonneg to (b := (m : Int)) (by omega)
        have g2 := Int.emod_lt_of_pos to (b := (m : Int)) (by omega)
        refine ⟨_, envM ns ds m S G (some (.d (.int (i : Nat)))) (some (.own ((rs ++ [(to % (m : Int)).toNat]).map fun i => .int (i : Nat)))) (some (.d d)) (some (.d (.int to))), t + 1, rfl, ?_, rs ++ [(to % (m : Int)).toNat], _, _, by simp [e1], ?_, rfl, by push_cast; omega⟩
        · simp [x_lp, hs, d1, hl, hm, Int.toNat_of_nonneg g1]
        · intro r hr
          rcases List.mem_append.mp hr with hr | hr
          · exact e2 r hr
          · rw [List.mem_singleton.mp hr]
            omega
      · refine ⟨_, envM ns ds m S G (some (.d (.int (i : Nat)))) (some (.own ((rs ++ [if i + 1 < m - 1 then i + 1 else m - 1]).map fun i => .int (i : Nat)))) (some (.d d)) (some (.d (.int to))), t + 1, rfl, ?_, rs ++ [if i + 1 < m - 1 then i + 1 else m - 1], _, _, by simp [e1], ?_, rfl, by push_cast; omega⟩
        · by_cases hx : i + 1 < m - 1
          · have hx' : (i : Int) + 1 < (m : Int) - 1 := by omega
            simp [x_lp, hs, d1, hl, hx, hx']
          · have hx' : ¬ (i : Int) + 1 < (m : Int) - 1 := by omega
            have hx2 : (((m - 1 : Nat) : Nat) : Int) = (m : Int) - 1 := by omega
            simp [x_lp, hs, d1, hl, hx, hx', hx2]
        · intro r hr
          rcases List.mem_append.mp hr with hr | hr
          · exact e2 r hr
          · rw [List.mem_singleton.mp hr]
            split <;> omega
  exact ⟨rs, y8, y9, by rw [h1, h4, h5], h2, h3⟩
theorem rows_turns {C : CallF} (hC : Draws ns C) {ds : List PyData} {m : Nat} (hm : 0 < m) (hm2 : m ≤ 100) {t0 : Int} (ht : 0 ≤ t0) (ht2 : t0 ≤ 800000) (hd : ds.length ≤ 100) :
    ∃ (s : List (List Nat)) (g : List Bool) (x6 x7 x8 x9 : Option LV) (t' : Int), forL (lp C W bRows) (.nm 6) ((List.range m).map fun i => PyData.int (i : Nat)) (envM ns ds m [] [] none none none none) t0 =
      some (.nx (envM ns ds m (s.map rowD) (g.map .bool) x6 x7 x8 x9) t') ∧ s.length = m ∧ g.length = m ∧ (∀ r ∈ s, r.length = ds.length ∧ ∀ i ∈ r, i < m) ∧ t0 ≤ t' ∧ t' ≤ t0 + 200 * m := by
  obtain ⟨e, t', h1, s, g, y6, y7, y8, y9, h2, h3, h4, h5, h6, h7⟩ := forL_ok0 (f := lp C W bRows) (tg := .nm 6) (fun (j : Nat) env t => ∃ (s : List (List Nat)) (g : List Bool) (x6 x7 x8 x9 : Option LV), s.length = j ∧ g.length = j ∧ (∀ r ∈ s, r.length = ds.length ∧ ∀ i ∈ r, i < m) ∧ env = envM ns ds m (s.map rowD) (g.map .bool) x6 x7 x8 x9 ∧ t0 ≤ t ∧ t ≤ t0 + 200 * (j : Int))
    (xs := (List.range m).map fun i => PyData.int (i : Nat)) (env := envM ns ds m [] [] none none none none) (t := t0) ⟨[], [], _, _, _, _, rfl, rfl, by simp, rfl, by simp, by simp⟩ fun j d env t hj ⟨s, g, y6, y7, y8, y9, e1, e2, e3, e4, e5, e6⟩ => by
      subst e4
      have hj' : j < m := by simpa using (List.getElem?_eq_some_iff.mp hj).1
      have hd' : d = .int (j : Nat) := by
        obtain ⟨_, hq⟩ := List.getElem?_eq_some_iff.mp hj
        simp at hq
        exact hq.symm
      subst hd'
      have hs : s.length < sizeLine := Nat.lt_of_le_of_lt (show s.length ≤ 100 by omega) (by decide)
      have hg : g.length < sizeLine := Nat.lt_of_le_of_lt (show g.length ≤ 100 by omega) (by decide)
      obtain ⟨rs, z8, z9, r1, r2, r3⟩ := row_turns (W := W) hC (ds := ds) (S := s.map rowD) (G := g.map .bool) (m := m) (i := j) hm (x8' := y8) (x9' := y9) (t0 := t) (by omega) (by omega) hd
      have d1 := hC (t := t + ds.length) (m := 3) (by omega) (by omega) (by decide)
      generalize drawD ns (t + ds.length) 3 = to at d1
      refine ⟨_, envM ns ds m ((s ++ [rs]).map rowD) ((g ++ [to == 0]).map .bool) (some (.d (.int (j : Nat)))) (some (.d (rowD rs))) z8 z9, t + ds.length + 1, rfl, ?_, s ++ [rs], g ++ [to == 0], _, _, _, _, by simp [e1], by simp [e2], ?_, rfl, by omega, by push_cast; omega⟩
      · simp [x_lp, hs, hg, d1, r1, rowD]
      · intro r hr
        rcases List.mem_append.mp hr with hr | hr
        · exact e3 r hr
        · rw [List.mem_singleton.mp hr]
          exact ⟨r2, r3⟩
  simp only [List.length_map, List.length_range] at h2 h3 h7
  exact ⟨s, g, y6, y7, y8, y9, t', by rw [h1, h5], h2, h3, h4, h6, h7⟩
theorem machine_eq {ds : List PyData} {t : Int} (h : ns.length ≤ 63) (ht : 0 ≤ t) (ht2 : t ≤ 700000) (hd : ds.length ≤ 100) : ∃ s g t', cf W (k + 2) ilaw_machine [.scr ns, .tp, .d (.list ds)] t = some (mkM ds s g, t') ∧ MachOK ds.length s g ∧ s.length ≤ 10 ∧ t ≤ t' ∧ t' ≤ t + 3000 := by
  have d1 := draw_eq (W := W) (k := k) (t := t) (m := 5) h (by omega) (by omega) (by decide)
  have a1 := drawD_lo (ns := ns) (t := t) (m := 5) (by decide)
  have a2 := drawD_hi (ns := ns) (t := t) (m := 5) (by decide)
  generalize drawD ns t 5 = n1 at d1 a1 a2
  have d2 := draw_eq (W := W) (k := k) (t := t + 1) (m := 8) h (by omega) (by omega) (by decide)
  generalize drawD ns (t + 1) 8 = n2 at d2
  have main : ∀ (m : Nat) (t0 : Int), 0 < m → m ≤ 10 → t ≤ t0 → t0 ≤ t + 3 → ∃ s g t', exs (cf W (k + 1)) W (.seq (.own 4 .nil) (.seq (.own 5 .nil) (.seq (.for .range (.var 3) (.nm 6) bRows) (.seq (.frz 5) (.seq (.frz 4) (.ret (.tup (.cons (.blt .tuple (.cons (.var 2) .nil)) (.cons (.var 4) (.cons (.var 5) .nil)))))))))) [some (.scr ns), some .tp, some (.d (.list ds)), some (.d (.int (m : Nat))), none, none, none, none, none, none] t0 = some (.rt (mkM ds s g) t') ∧ MachOK ds.length s g ∧ s.length ≤ 10 ∧ t ≤ t' ∧ t' ≤ t + 3000 := by
    intro m t0 m1 m2 t1 t2
    obtain ⟨s, g, y6, y7, y8, y9, t', r1, r2, r3, r4, r5, r6⟩ := rows_turns (W := W) (draws (W := W) (k := k) h) (ds := ds) m1 (by omega) (t0 := t0) (by omega) (by omega) hd
    have q3 : m < sizeLine := Nat.lt_of_le_of_lt m2 (by decide)
    have q4 : m < 1000000000 := by omega
    refine ⟨s, g, t', ?_, ⟨by omega, by omega, fun r hr => (r4 r hr).1, fun r hr i hi => by rw [r2]; exact (r4 r hr).2 i hi⟩, by omega, by omega, by omega⟩
    have fr : exs (cf W (k + 1)) W (.for .range (.var 3) (.nm 6) bRows) (envM ns ds m [] [] none none none none) t0 = some (.nx (envM ns ds m (s.map rowD) (g.map .bool) y6 y7 y8 y9) t') := ex_forR (n := m) (by simp) (by omega) r1
    simp [-x_for, fr, mkM, stepsD, goodD]
  rw [ulaw_machine]
  unfold flaw_machine
  generalize S.seq (.own 4 .nil) (.seq (.own 5 .nil) (.seq (.for .range (.var 3) (.nm 6) bRows) (.seq (.frz 5) (.seq (.frz 4) (.ret (.tup (.cons (.blt .tuple (.cons (.var 2) .nil)) (.cons (.var 4) (.cons (.var 5) .nil))))))))) = B at main ⊢
  by_cases e : n2 = 3
  · subst e
    have d3 := draw_eq (W := W) (k := k) (t := t + 1 + 1) (m := 6) h (by omega) (by omega) (by decide)
    have b1 := drawD_lo (ns := ns) (t := t + 1 + 1) (m := 6) (by decide)
    have b2 := drawD_hi (ns := ns) (t := t + 1 + 1) (m := 6) (by decide)
    generalize drawD ns (t + 1 + 1) 6 = n3 at d3 b1 b2
    obtain ⟨m, hm⟩ : ∃ m : Nat, 1 + n1 + n3 = m := ⟨(1 + n1 + n3).toNat, by omega⟩
    obtain ⟨s, g, t', r1, r2⟩ := main m (t + 1 + 1 + 1) (by omega) (by omega) (by omega) (by omega)
    exact ⟨s, g, t', by simp [d1, d2, d3, hm, r1], r2⟩
  · have e' : (n2 == 3) = false := by simpa using e
    obtain ⟨m, hm⟩ : ∃ m : Nat, 1 + n1 = m := ⟨(1 + n1).toNat, by omega⟩
    obtain ⟨s, g, t', r1, r2⟩ := main m (t + 1 + 1) (by omega) (by omega) (by omega) (by omega)
    exact ⟨s, g, t', by simp [d1, d2, e', hm, r1], r2⟩
end
end Lw

set_option Elab.async false
set_option linter.all false
set_option maxRecDepth 100000
set_option maxHeartbeats 400000
namespace Lw
open PySem PySem.Spec PyProof.Rows L2 Pl
/-! ### walks -/
def walkD (ms : List PyData) (s : List (List Nat)) : Nat → List PyData → Nat
  | r, [] => r
  | r, d :: ds => walkD ms s ((s.getD r []).getD ((findI d ms).getD 0) 0) ds
theorem getD_in {α : Type} {l : List α} {i : Nat} {d : α} (h : i < l.length) : l.getD i d ∈ l := by
  rw [List.getD_eq_getElem?_getD, List.getElem?_eq_getElem h]
  exact List.getElem_mem h
theorem idx_steps {s : List (List Nat)} {r : Nat} (h : r < s.length) : idxD (stepsD s) (.int (r : Nat)) = some (rowD (s.getD r [])) := by
  have : atI (s.map rowD) (r : Int) = some (rowD (s.getD r [])) := by
    rw [atI_ok (by omega) (by simp; omega)]
    simp [List.getD_eq_getElem?_getD, List.getElem?_eq_getElem h]
  simpa [stepsD] using this
theorem idx_row {s : List Nat} {r : Nat} (h : r < s.length) : idxD (rowD s) (.int (r : Nat)) = some (.int ((s.getD r 0 : Nat))) := by
  have : atI (s.map fun i => PyData.int (i : Nat)) (r : Int) = some (.int ((s.getD r 0 : Nat))) := by
    rw [atI_ok (by omega) (by simp; omega)]
    simp [List.getD_eq_getElem?_getD, List.getElem?_eq_getElem h]
  simpa [rowD] using this
theorem idx_good {s : List Bool} {r : Nat} (h : r < s.length) : idxD (goodD s) (.int (r : Nat)) = some (.bool (s.getD r false)) := by
  have : atI (s.map PyData.bool) (r : Int) = some (.bool (s.getD r false)) := by
    rw [atI_ok (by omega) (by simp; omega)]
    simp [List.getD_eq_getElem?_getD, List.getElem?_eq_getElem h]
  simpa [goodD] using this
section
variable {W k : Nat} {ns : List Int} {ms : List PyData} {s : List (List Nat)} {g : List Bool}
theorem mach_row (h : MachOK ms.length s g) {r j : Nat} (hr : r < s.length) (hj : j < ms.length) : j < (s.getD r []).length ∧ (s.getD r []).getD j 0 < s.length := by
  have h1 := h.row _ (getD_in (d := []) hr)
  exact ⟨by omega, h.lt _ (getD_in hr) _ (getD_in (by omega))⟩
end
section
variable {W k : Nat} {ns : List Int} {ms : List PyData} {s : List (List Nat)} {g : List Bool}
theorem copy_rows {f : PyData → Int → Option (Option PyData × Int)} {t : Int} (h : ∀ r : List Nat, f (rowD r) t = some (some (rowD r), t)) : lcLoop f (s.map rowD) t = some (s.map rowD, t) := by
  have := lcLoop_map (f := f) (g := id) (s.map rowD) t fun d hd => by
    obtain ⟨r, _, rfl⟩ := List.mem_map.mp hd
    exact h r
  simpa using this
theorem copy_eq {t : Int} (h : s.length ≤ 1000000) : cf W (k + 1) ilaw_copy [.d (mkM ms s g)] t = some (mkM ms s g, t) := by
  have lc := copy_rows (s := s) (f := lcF (cf W k) [some (.d (mkM ms s g)), none] [1] (.nm 1) (.lit (.bool true)) (.blt .list (.cons (.var 1) .nil))) (t := t) (fun r => by simp [rowD])
  have m0 : idxD (mkM ms s g) (.int 0) = some (.tuple ms) := rfl
  have m1 : idxD (mkM ms s g) (.int 1) = some (stepsD s) := rfl
  have m2 : idxD (mkM ms s g) (.int 2) = some (goodD g) := rfl
  have e := ev_lcS (C := cf W k) (k := .seq) (x := stepsD s) (xs := s.map rowD) (it := .idx (.var 0) (.lit (.int 1))) (env := [some (.d (mkM ms s g)), none]) (t := t) (t1 := t) (by simp [-idxD, m1]) rfl (by simpa using h) lc
  rw [ulaw_copy]
  unfold flaw_copy
  simp [-idxD, -x_lc, e, m0, m1, m2]
  simp [goodD, mkM, stepsD]
end
/-! ### rooms by coming: rows as kept in a dict -/
abbrev Rws := List (L2.Key × PyData)
def rkey (r : Nat) : L2.Key := .inl (r : Nat)
/-- one room's steps, place by place: what is new is kept with its row -/
def visit1 (row : List PyData) : List (Nat × PyData) → Rws × List Nat → Rws × List Nat
  | [], st => st
  | (o, m) :: r, (kvs, add) => visit1 row r (if (lookD kvs (rkey o)).isSome then (kvs, add) else (putD kvs (rkey o) (.list (row ++ [m])), add ++ [o]))
def rowOf (kvs : Rws) (r : Nat) : List PyData := match lookD kvs (rkey r) with
  | some (.list xs) => xs
  | _ => []
theorem lookD_put {κ : Type} [DecidableEq κ] {kvs : List (κ × PyData)} {k j : κ} {d : PyData} : lookD (putD kvs k d) j = if k = j then some d else lookD kvs j := by
  unfold putD
  split
  · rename_i h
    induction kvs with
    | nil => cases h
    | cons p r ih =>
      obtain ⟨i, u⟩ := p
      have st : ∀ (v : PyData) (l : List (κ × PyData)) (i j : κ), lookD ((i, v) :: l) j = if i = j then some v else lookD l j := fun v l i j => by
        by_cases e : i = j <;> simp [lookD, List.find?_cons, e]
      rw [List.map_cons]
      by_cases e : i = k
      · subst e
        simp only [if_true]
        rw [st, st]
        by_cases e2 : i = j
        · simp only [if_pos e2]
        · simp only [if_neg e2]
          clear h ih
          induction r with
          | nil => rfl
          | cons q r ih =>
            obtain ⟨i3, u3⟩ := q
            rw [List.map_cons]
            by_cases e3 : i3 = i
            · subst e3
              simp only [if_true]
              rw [st, st]
              simp only [if_neg e2]
              exact ih
            · simp only [if_neg e3]
              rw [st, st, ih]
      · simp only [if_neg e]
        have h' : (r.any fun kv => decide (kv.1 = k)) = true := by simpa [e] using h
        rw [st, st, ih h']
        by_cases e4 : i = j
        · have : ¬ k = j := fun z => e (e4.trans z.symm)
          rw [if_pos e4, if_pos e4, if_neg this]
        · rw [if_neg e4, if_neg e4]
  · rename_i h
    have none_k : lookD kvs k = none := by
      unfold lookD
      rw [List.find?_eq_none.mpr fun x hx hk => h (List.any_eq_true.mpr ⟨x, hx, hk⟩)]
      rfl
    unfold lookD at none_k ⊢
    rw [List.find?_append]
    by_cases e : k = j
    · subst e
      rw [if_pos rfl]
      cases hq : kvs.find? fun kv => decide (kv.1 = k) with
      | none => simp [List.find?_cons]
      | some p =>
        rw [hq] at none_k
        cases none_k
    · rw [if_neg e]
      cases hq : kvs.find? fun kv => decide (kv.1 = j) with
      | none => simp [List.find?_cons, e]
      | some p => rfl
/-- what was kept stays as it was -/
theorem visit1_old {row : List PyData} : ∀ (ps : List (Nat × PyData)) (st : Rws × List Nat) (k : L2.Key) (d : PyData), lookD st.1 k = some d → lookD (visit1 row ps st).1 k = some d
  | [], _, _, _, h => h
  | (o, m) :: r, (kvs, add), k, d, h => by
    unfold visit1
    refine visit1_old r _ k d ?_
    split
    · exact h
    · rename_i hn
      show lookD (putD kvs (rkey o) _) k = some d
      rw [lookD_put]
      by_cases e : rkey o = k
      · subst e
        have h : lookD kvs (rkey o) = some d := h
        rw [h] at hn
        exact absurd rfl hn
      · rw [if_neg e]
        exact h
end Lw

set_option Elab.async false
set_option linter.all false
set_option maxRecDepth 100000
set_option maxHeartbeats 400000
namespace Lw
open PySem PySem.Spec PyProof.Rows L2 Pl
theorem visit1_app {row : List PyData} : ∀ (a b : List (Nat × PyData)) (st : Rws × List Nat), visit1 row (a ++ b) st = visit1 row b (visit1 row a st)
  | [], _, _ => rfl
  | (o, m) :: a, b, (kvs, add) => by
    show visit1 row (a ++ b) _ = visit1 row b (visit1 row a _)
    exact visit1_app a b _
/-- all rows kept are lists -/
def RwOK (kvs : Rws) : Prop := ∀ k d, lookD kvs k = some d → ∃ xs : List PyData, d = .list xs ∧ xs.length ≤ 1000
abbrev bSpot (vm vs : M) (rw : Nat) (room spot other q : Nat) : S := .seq (.asg (.nm other) (.idx (.idx vs (.var room)) (.var spot))) (.ife (.din true rw (.var other)) (.seq (.dputN rw (.var other) (.bin .add (.dget rw (.var room)) (.lst (.cons (.idx vm (.var spot)) .nil)))) (.app q (.var other))) .nop)
def prs (ms : List PyData) (s : List (List Nat)) (r : Nat) : List (Nat × PyData) := (s.getD r []).zip ms
def visit (ms : List PyData) (s : List (List Nat)) (r : Nat) (st : Rws × List Nat) : Rws × List Nat := visit1 (rowOf st.1 r) (prs ms s r) st
section
variable {W : Nat} {t : Int} {ms : List PyData} {s : List (List Nat)} {g : List Bool}
theorem visit1_len {row : List PyData} : ∀ (ps : List (Nat × PyData)) (st : Rws × List Nat), (visit1 row ps st).1.length ≤ st.1.length + ps.length ∧ (visit1 row ps st).2.length ≤ st.2.length + ps.length
  | [], st => by simp [visit1]
  | (o, m) :: r, (kvs, add) => by
    unfold visit1
    have h := visit1_len (row := row) r (if (lookD kvs (rkey o)).isSome then (kvs, add) else (putD kvs (rkey o) (.list (row ++ [m])), add ++ [o]))
    have hp : (putD kvs (rkey o) (.list (row ++ [m]))).length ≤ kvs.length + 1 := by
      unfold putD
      split
      · rw [List.length_map]
        omega
      · simp
    split at h
    · rw [if_pos (by assumption)]
      simp only [List.length_cons] at h ⊢
      omega
    · rw [if_neg (by assumption)]
      simp only [List.length_append, List.length_cons, List.length_nil] at h ⊢
      omega
/-- the program's inner loop is visit1 -/
theorem spot_turns {C : CallF} {r : Nat} {kvs0 : Rws} {add0 : List Nat} {row : List PyData} (hr : r < s.length) (hrow : (s.getD r []).length = ms.length) (hms : ms.length ≤ 100) (hk : lookD kvs0 (rkey r) = some (.list row)) (hrl : row.length ≤ 900) (hkl : kvs0.length ≤ 1000) (hal : add0.length ≤ 1000) {e0 x7 x8 : Option LV} :
    ∃ x7' x8', forL (lp C W (bSpot (.var 3) (.var 4) 1 6 7 8 2)) (.nm 7) ((List.range ms.length).map fun i => PyData.int (i : Nat)) [e0, some (.dk true kvs0), some (.own (add0.map fun i => .int (i : Nat))), some (.d (.tuple ms)), some (.d (stepsD s)), some (.d (goodD g)), some (.d (.int (r : Nat))), x7, x8] t =
      some (.nx [e0, some (.dk true (visit1 row (prs ms s r) (kvs0, add0)).1), some (.own ((visit1 row (prs ms s r) (kvs0, add0)).2.map fun i => .int (i : Nat))), some (.d (.tuple ms)), some (.d (stepsD s)), some (.d (goodD g)), some (.d (.int (r : Nat))), x7', x8'] t) := by
  obtain ⟨env, t', h1, x7', x8', h2, h3⟩ := forL_ok0 (f := lp C W (bSpot (.var 3) (.var 4) 1 6 7 8 2)) (tg := .nm 7) (fun (i : Nat) env t1 => ∃ x7 x8, env = [e0, some (.dk true (visit1 row ((prs ms s r).take i) (kvs0, add0)).1), some (.own ((visit1 row ((prs ms s r).take i) (kvs0, add0)).2.map fun i => .int (i : Nat))), some (.d (.tuple ms)), some (.d (stepsD s)), some (.d (goodD g)), some (.d (.int (r : Nat))), x7, x8] ∧ t1 = t)
    (xs := (List.range ms.length).map fun i => PyData.int (i : Nat)) (env := [e0, some (.dk true kvs0), some (.own (add0.map fun i => .int (i : Nat))), some (.d (.tuple ms)), some (.d (stepsD s)), some (.d (goodD g)), some (.d (.int (r : Nat))), x7, x8]) (t := t) ⟨x7, x8, rfl, rfl⟩ fun i d env t1 hd ⟨x7, x8, e1, e2⟩ => by
      subst e1 e2
      have hi : i < ms.length := by simpa using (List.getElem?_eq_some_iff.mp hd).1
      have hd' : d = .int (i : Nat) := by
        obtain ⟨_, hq⟩ := List.getElem?_eq_some_iff.mp hd
        simp at hq
        exact hq.symm
      subst hd'
      have hpl : (prs ms s r).length = ms.length := by
        unfold prs
        rw [List.length_zip, hrow, Nat.min_self]
      have hget : (prs ms s r)[i]? = some ((s.getD r []).getD i 0, ms.getD i .none) := by
        unfold prs
        have h1 : i < (s.getD r []).length := by omega
        refine List.getElem?_zip_eq_some.mpr ⟨?_, ?_⟩
        · show (s.getD r [])[i]? = some ((s.getD r []).getD i 0)
          rw [List.getD_eq_getElem?_getD (l := s.getD r []), List.getElem?_eq_getElem h1]
          rfl
        · show ms[i]? = some (ms.getD i .none)
          rw [List.getD_eq_getElem?_getD, List.getElem?_eq_getElem hi]
          rfl
      have htake : (prs ms s r).take (i + 1) = (prs ms s r).take i ++ [((s.getD r []).getD i 0, ms.getD i .none)] := by
        rw [List.take_add_one, hget]
        rfl
      have hkey := visit1_old (row := row) ((prs ms s r).take i) (kvs0, add0) _ _ hk
      have hlen := visit1_len (row := row) ((prs ms s r).take i) (kvs0, add0)
      have htl : ((prs ms s r).take i).length ≤ 100 := by rw [List.length_take]; omega
      rw [htake, visit1_app]
      generalize visit1 row ((prs ms s r).take i) (kvs0, add0) = st at hkey hlen
      obtain ⟨kvs, add⟩ := st
      simp only at hkey hlen
      have i1 := idx_steps (s := s) hr
      have i2 := idx_row (s := s.getD r []) (r := i) (by omega)
      have i3 : atI ms (i : Int) = some (ms.getD i .none) := by
        rw [atI_ok (by omega) (by omega), List.getD_eq_getElem?_getD, List.getElem?_eq_getElem (by omega)]
        simp
      generalize (s.getD r []).getD i 0 = o at i2
      generalize ms.getD i .none = m at i3
      have hkey' : lookD kvs (Sum.inl (r : Int)) = some (.list row) := hkey
      have z1 : row.length + 1 ≤ sizeLine := Nat.le_trans (show row.length + 1 ≤ 1000 by omega) (by decide)
      have z2 : kvs.length < sizeLine := Nat.lt_of_le_of_lt (show kvs.length ≤ 1100 by omega) (by decide)
      have z3 : add.length < sizeLine := Nat.lt_of_le_of_lt (show add.length ≤ 1100 by omega) (by decide)
      unfold visit1
      cases hq : (lookD kvs (rkey o)).isSome with
      | true =>
        have hq' : (lookD kvs (Sum.inl (o : Int))).isSome = true := hq
        refine ⟨_, [e0, some (.dk true kvs), some (.own (add.map fun i => .int (i : Nat))), some (.d (.tuple ms)), some (.d (stepsD s)), some (.d (goodD g)), some (.d (.int (r : Nat))), some (.d (.int (i : Nat))), some (.d (.int (o : Nat)))], t1, rfl, ?_, _, _, rfl, rfl⟩
        simp [-idxD, -List.getD_eq_getElem?_getD, x_lp, i1, i2, hq']
      | false =>
        have hq' : (lookD kvs (Sum.inl (o : Int))).isSome = false := hq
        refine ⟨_, [e0, some (.dk true (putD kvs (rkey o) (.list (row ++ [m])))), some (.own ((add ++ [o]).map fun i => .int (i : Nat))), some (.d (.tuple ms)), some (.d (stepsD s)), some (.d (goodD g)), some (.d (.int (r : Nat))), some (.d (.int (i : Nat))), some (.d (.int (o : Nat)))], t1, rfl, ?_, _, _, rfl, rfl⟩
        have i4 : idxD (.tuple ms) (.int (i : Nat)) = some m := i3
        simp [-idxD, -List.getD_eq_getElem?_getD, x_lp, i1, i2, i4, hq', hkey', z1, z2, z3, isListD, rkey]
  have hpl : (prs ms s r).length = ms.length := by
    unfold prs
    rw [List.length_zip, hrow, Nat.min_self]
  rw [List.length_map, List.length_range, ← hpl, List.take_length] at h2
  exact ⟨x7', x8', by rw [h1, h2, h3]⟩
end
end Lw

set_option Elab.async false
set_option linter.all false
set_option maxRecDepth 100000
set_option maxHeartbeats 400000
namespace Lw
open PySem PySem.Spec PyProof.Rows L2 Pl
/-! ### by a queue, by levels -/
section
variable {ms : List PyData} {s : List (List Nat)} {g : List Bool}
theorem visit1_shift {row : List PyData} : ∀ (ps : List (Nat × PyData)) (kvs : Rws) (c add : List Nat), visit1 row ps (kvs, c ++ add) = ((visit1 row ps (kvs, add)).1, c ++ (visit1 row ps (kvs, add)).2)
  | [], _, _, _ => rfl
  | (o, m) :: r, kvs, c, add => by
    unfold visit1
    split
    · exact visit1_shift r _ c add
    · rw [List.append_assoc]
      exact visit1_shift r _ c (add ++ [o])
theorem visit_shift {r : Nat} {kvs : Rws} {c add : List Nat} : visit ms s r (kvs, c ++ add) = ((visit ms s r (kvs, add)).1, c ++ (visit ms s r (kvs, add)).2) := visit1_shift _ _ _ _
theorem visit_old {r : Nat} {st : Rws × List Nat} {k : L2.Key} {d : PyData} (h : lookD st.1 k = some d) : lookD (visit ms s r st).1 k = some d := visit1_old _ _ _ _ h
def visits (ms : List PyData) (s : List (List Nat)) (l : List Nat) (st : Rws × List Nat) : Rws × List Nat := l.foldl (fun st r => visit ms s r st) st
theorem visits_shift : ∀ (l : List Nat) (kvs : Rws) (c add : List Nat), visits ms s l (kvs, c ++ add) = ((visits ms s l (kvs, add)).1, c ++ (visits ms s l (kvs, add)).2)
  | [], _, _, _ => rfl
  | r :: l, kvs, c, add => by
    show visits ms s l (visit ms s r (kvs, c ++ add)) = ((visits ms s l (visit ms s r (kvs, add))).1, c ++ (visits ms s l (visit ms s r (kvs, add))).2)
    rw [visit_shift]
    exact visits_shift l _ c _
theorem visits_old : ∀ (l : List Nat) (st : Rws × List Nat) (k : L2.Key) (d : PyData), lookD st.1 k = some d → lookD (visits ms s l st).1 k = some d
  | [], _, _, _, h => h
  | r :: l, st, k, d, h => visits_old l (visit ms s r st) k d (visit_old h)
def qrun (ms : List PyData) (s : List (List Nat)) (g : List Bool) : Nat → Rws → List Nat → Option (Option (List PyData) × Rws)
  | 0, _, _ => none
  | _ + 1, kvs, [] => some (none, kvs)
  | n + 1, kvs, r :: q => if g.getD r false = true then some (some (rowOf kvs r), kvs) else qrun ms s g n (visit ms s r (kvs, q)).1 (visit ms s r (kvs, q)).2
def lrun (ms : List PyData) (s : List (List Nat)) (g : List Bool) : Nat → Rws → List Nat → Option (Option (List PyData))
  | 0, _, _ => none
  | n + 1, kvs, l => if l = [] then some none else match l.find? fun r => g.getD r false with
    | some r => some (some (rowOf kvs r))
    | none => lrun ms s g n (visits ms s l (kvs, [])).1 (visits ms s l (kvs, [])).2
/-- rooms that are not good, one behind the other -/
theorem qrun_skip : ∀ (a c : List Nat) (n : Nat) (kvs : Rws) (res : Option (List PyData) × Rws), (∀ r ∈ a, g.getD r false = false) → qrun ms s g n kvs (a ++ c) = some res → ∃ m, qrun ms s g m (visits ms s a (kvs, [])).1 (c ++ (visits ms s a (kvs, [])).2) = some res
  | [], c, n, kvs, res, _, h => ⟨n, by simpa [visits] using h⟩
  | r :: a, c, 0, kvs, res, _, h => by cases h
  | r :: a, c, n + 1, kvs, res, hg, h => by
    have hr := hg r List.mem_cons_self
    have h : qrun ms s g (n + 1) kvs (r :: (a ++ c)) = some res := h
    unfold qrun at h
    rw [hr, if_neg (by simp)] at h
    have e := visit_shift (ms := ms) (s := s) (r := r) (kvs := kvs) (c := a ++ c) (add := [])
    rw [List.append_nil] at e
    rw [e] at h
    simp only at h
    rw [List.append_assoc] at h
    obtain ⟨m, hm⟩ := qrun_skip a (c ++ (visit ms s r (kvs, [])).2) n _ res (fun x hx => hg x (List.mem_cons_of_mem _ hx)) h
    refine ⟨m, ?_⟩
    have e2 : visits ms s (r :: a) (kvs, []) = visits ms s a ((visit ms s r (kvs, [])).1, (visit ms s r (kvs, [])).2 ++ []) := by
      rw [List.append_nil]
      rfl
    rw [e2, visits_shift]
    simp only
    rw [← List.append_assoc]
    exact hm
theorem lq_same : ∀ (n m : Nat) (kvs : Rws) (l : List Nat) (a : Option (List PyData)) (res : Option (List PyData) × Rws), (∀ r ∈ l, ∃ d, lookD kvs (rkey r) = some d) → (∀ (kvs : Rws) (l : List Nat), (∀ r ∈ l, ∃ d, lookD kvs (rkey r) = some d) → ∀ r ∈ (visits ms s l (kvs, [])).2, ∃ d, lookD (visits ms s l (kvs, [])).1 (rkey r) = some d) → lrun ms s g n kvs l = some a → qrun ms s g m kvs l = some res → a = res.1
  | 0, _, _, _, _, _, _, _, h, _ => by cases h
  | n + 1, 0, _, _, _, _, _, _, _, h => by cases h
  | n + 1, m + 1, kvs, l, a, res, hk, hv, h1, h2 => by
    unfold lrun at h1
    by_cases hl : l = []
    · subst hl
      rw [if_pos rfl] at h1
      cases h1
      unfold qrun at h2
      cases h2
      rfl
    · rw [if_neg hl] at h1
      cases hf : l.find? fun r => g.getD r false with
      | some r =>
        rw [hf] at h1
        cases h1
        obtain ⟨hgr, b, c, hbc, hno⟩ := List.find?_eq_some_iff_append.mp hf
        have hno : ∀ x ∈ b, g.getD x false = false := fun x hx => by simpa using hno x hx
        subst hbc
        obtain ⟨m2, h3⟩ := qrun_skip b (r :: c) (m + 1) kvs res hno h2
        cases m2 with
        | zero => cases h3
        | succ m2 =>
          have h3 : qrun ms s g (m2 + 1) _ (r :: (c ++ (visits ms s b (kvs, [])).2)) = some res := h3
          unfold qrun at h3
          rw [if_pos hgr] at h3
          cases h3
          obtain ⟨d, hd⟩ := hk r (by simp)
          have := visits_old (ms := ms) (s := s) b (kvs, []) _ _ hd
          unfold rowOf
          rw [this, hd]
      | none =>
        rw [hf] at h1
        have hno : ∀ x ∈ l, g.getD x false = false := fun x hx => by
          have := List.find?_eq_none.mp hf x hx
          simpa using this
        obtain ⟨m2, h3⟩ := qrun_skip l [] (m + 1) kvs res hno (by rw [List.append_nil]; exact h2)
        rw [List.nil_append] at h3
        exact lq_same n m2 _ _ a res (hv kvs l hk) hv h1 h3
end
end Lw

set_option Elab.async false
set_option linter.all false
set_option maxRecDepth 100000
set_option maxHeartbeats 400000
namespace Lw
open PySem PySem.Spec PyProof.Rows L2 Pl
/-! ### what is kept -/
structure Kv (ms : List PyData) (R : Nat) (kvs : Rws) (ks : List Nat) : Prop where
  keys : kvs.map (·.1) = ks.map rkey
  nd : ks.Nodup
  lt : ∀ r ∈ ks, r < R
  rows : ∀ r d, lookD kvs (rkey r) = some d → ∃ xs : List PyData, d = .list xs ∧ (∀ m ∈ xs, m ∈ ms) ∧ xs.length < kvs.length
theorem rkey_inj {a b : Nat} (h : rkey a = rkey b) : a = b := by
  have := Sum.inl.inj h
  omega
section
variable {ms : List PyData} {s : List (List Nat)} {g : List Bool} {R : Nat}
theorem look_key : ∀ {kvs : Rws} {ks : List Nat} (h : kvs.map (·.1) = ks.map rkey) (r : Nat), (lookD kvs (rkey r)).isSome = true ↔ r ∈ ks
  | [], ks, h, r => by
    have : ks = [] := by simpa using h.symm
    subst this
    simp [lookD]
  | (k, d) :: kvs, [], h, r => by cases h
  | (k, d) :: kvs, j :: ks, h, r => by
    rw [List.map_cons, List.map_cons] at h
    obtain ⟨h1, h2⟩ := List.cons.inj h
    have h1 : k = rkey j := h1
    subst h1
    rw [List.mem_cons, ← look_key h2 r]
    by_cases e : j = r
    · subst e
      simp [lookD, List.find?_cons]
    · have e2 : ¬ rkey j = rkey r := fun z => e (rkey_inj z)
      have e3 : ¬ r = j := fun z => e z.symm
      simp [lookD, List.find?_cons, e2, e3]
theorem Kv.has {kvs : Rws} {ks : List Nat} (K : Kv ms R kvs ks) (r : Nat) : (lookD kvs (rkey r)).isSome = true ↔ r ∈ ks := look_key K.keys r
theorem Kv.len {kvs : Rws} {ks : List Nat} (K : Kv ms R kvs ks) : kvs.length = ks.length := by
  have := congrArg List.length K.keys
  simpa using this
theorem putD_new {kvs : Rws} {k : L2.Key} {d : PyData} (h : (lookD kvs k).isSome = false) : putD kvs k d = kvs ++ [(k, d)] := by
  unfold putD
  rw [if_neg]
  intro e
  obtain ⟨x, hx, hk⟩ := List.any_eq_true.mp e
  unfold lookD at h
  rw [Option.isSome_map] at h
  have hf : (kvs.find? fun kv => decide (kv.1 = k)).isSome = true := List.find?_isSome.mpr ⟨x, hx, hk⟩
  rw [h] at hf
  cases hf
theorem Kv.put {kvs : Rws} {ks : List Nat} (K : Kv ms R kvs ks) {o : Nat} {xs : List PyData} (hn : (lookD kvs (rkey o)).isSome = false) (ho : o < R) (hx : ∀ m ∈ xs, m ∈ ms) (hl : xs.length ≤ kvs.length) : Kv ms R (putD kvs (rkey o) (.list xs)) (ks ++ [o]) := by
  have hk : o ∉ ks := fun h => by
    rw [(K.has o).mpr h] at hn
    cases hn
  have hp := putD_new (d := .list xs) hn
  refine ⟨by rw [hp, List.map_append, List.map_append, K.keys]; rfl, ?_, fun r hr => ?_, fun r d h => ?_⟩
  · rw [List.nodup_append]
    refine ⟨K.nd, by simp, fun a ha b hb e => ?_⟩
    rw [List.mem_singleton.mp hb] at e
    exact hk (e ▸ ha)
  · rcases List.mem_append.mp hr with h | h
    · exact K.lt r h
    · rw [List.mem_singleton.mp h]
      exact ho
  · rw [lookD_put] at h
    rw [hp, List.length_append]
    split at h
    · cases h
      exact ⟨xs, rfl, hx, by simp; omega⟩
    · obtain ⟨ys, e1, e2, e3⟩ := K.rows r d h
      exact ⟨ys, e1, e2, by simp; omega⟩
theorem visit1_kv {row : List PyData} : ∀ (ps : List (Nat × PyData)) (kvs : Rws) (ks add : List Nat), Kv ms R kvs ks → (∀ p ∈ ps, p.1 < R ∧ p.2 ∈ ms) → (∀ m ∈ row, m ∈ ms) → row.length < kvs.length →
    ∃ new : List Nat, Kv ms R (visit1 row ps (kvs, add)).1 (ks ++ new) ∧ (visit1 row ps (kvs, add)).2 = add ++ new ∧ (∀ o ∈ new, ∃ p ∈ ps, p.1 = o) ∧ (∀ p ∈ ps, p.1 ∈ ks ++ new)
  | [], kvs, ks, add, K, _, _, _ => ⟨[], by simpa [visit1] using K, by simp [visit1], by simp, by simp⟩
  | (o, m) :: r, kvs, ks, add, K, hp, hr, hl => by
    unfold visit1
    cases hq : (lookD kvs (rkey o)).isSome with
    | true =>
      obtain ⟨new, h1, h2, h3, h4⟩ := visit1_kv r kvs ks add K (fun p hp' => hp p (List.mem_cons_of_mem _ hp')) hr hl
      refine ⟨new, by simpa using h1, by simpa using h2, fun x hx => ?_, fun p hp' => ?_⟩
      · obtain ⟨p, hp1, hp2⟩ := h3 x hx
        exact ⟨p, List.mem_cons_of_mem _ hp1, hp2⟩
      · rcases List.mem_cons.mp hp' with e | e
        · rw [e]
          exact List.mem_append_left _ ((K.has o).mp hq)
        · exact h4 p e
    | false =>
      obtain ⟨ho, hm⟩ := hp (o, m) List.mem_cons_self
      have K2 := K.put (o := o) (xs := row ++ [m]) hq ho (fun x hx => (List.mem_append.mp hx).elim (hr x) fun z => (List.mem_singleton.mp z) ▸ hm) (by rw [List.length_append]; simp; omega)
      have hlen : (putD kvs (rkey o) (.list (row ++ [m]))).length = kvs.length + 1 := by
        rw [putD_new hq, List.length_append]
        rfl
      obtain ⟨new, h1, h2, h3, h4⟩ := visit1_kv r _ _ (add ++ [o]) K2 (fun p hp' => hp p (List.mem_cons_of_mem _ hp')) hr (by omega)
      refine ⟨o :: new, ?_, ?_, fun x hx => ?_, fun p hp' => ?_⟩
      · rw [if_neg (by simp)]
        simpa using h1
      · rw [if_neg (by simp)]
        simpa using h2
      · rcases List.mem_cons.mp hx with e | e
        · exact ⟨(o, m), List.mem_cons_self, e.symm⟩
        · obtain ⟨p, hp1, hp2⟩ := h3 x e
          exact ⟨p, List.mem_cons_of_mem _ hp1, hp2⟩
      · rcases List.mem_cons.mp hp' with e | e
        · rw [e]
          simp
        · have := h4 p e
          simpa using this
theorem nodup_lt : ∀ (n : Nat) (l : List Nat), l.Nodup → (∀ x ∈ l, x < n) → l.length ≤ n
  | 0, l, _, h => by
    cases l with
    | nil => simp
    | cons a b => exact absurd (h a List.mem_cons_self) (by omega)
  | n + 1, l, hn, h => by
    have := nodup_lt n (l.erase n) (hn.erase n) fun x hx => by
      have h1 := hn.mem_erase_iff.mp hx
      have h2 := h x h1.2
      have := h1.1
      omega
    by_cases hm : n ∈ l
    · rw [List.length_erase_of_mem hm] at this
      omega
    · rw [List.erase_of_not_mem hm] at this
      omega
theorem Kv.le {kvs : Rws} {ks : List Nat} (K : Kv ms R kvs ks) : kvs.length ≤ R := by
  rw [K.len]
  exact nodup_lt R ks K.nd K.lt
end
end Lw

set_option Elab.async false
set_option linter.all false
set_option maxRecDepth 100000
set_option maxHeartbeats 400000
namespace Lw
open PySem PySem.Spec PyProof.Rows L2 Pl
/-! ### rooms that can be come to -/
abbrev stp (s : List (List Nat)) (r i : Nat) : Nat := (s.getD r []).getD i 0
inductive Rch (s : List (List Nat)) (n : Nat) : Nat → Prop
  | zero : Rch s n 0
  | step {r i : Nat} : Rch s n r → i < n → Rch s n (stp s r i)
section
variable {ms : List PyData} {s : List (List Nat)} {g : List Bool}
theorem prs_mem (h : MachOK ms.length s g) {r : Nat} (hr : r < s.length) : (∀ p ∈ prs ms s r, ∃ i, i < ms.length ∧ p.1 = stp s r i ∧ p.2 ∈ ms) ∧ ∀ i, i < ms.length → ∃ p ∈ prs ms s r, p.1 = stp s r i := by
  have hl : (s.getD r []).length = ms.length := h.row _ (getD_in hr)
  constructor
  · intro p hp
    obtain ⟨i, hi, e⟩ := List.mem_iff_getElem.mp hp
    unfold prs at hi e
    rw [List.length_zip] at hi
    rw [List.getElem_zip] at e
    refine ⟨i, by omega, ?_, ?_⟩
    · rw [← e]
      unfold stp
      rw [List.getD_eq_getElem?_getD (l := s.getD r []), List.getElem?_eq_getElem (by omega)]
      rfl
    · rw [← e]
      exact List.getElem_mem _
  · intro i hi
    have h1 : i < (s.getD r []).length := by omega
    refine ⟨((s.getD r [])[i], ms[i]), ?_, ?_⟩
    · unfold prs
      refine List.mem_iff_getElem.mpr ⟨i, by rw [List.length_zip]; omega, ?_⟩
      rw [List.getElem_zip]
    · unfold stp
      rw [List.getD_eq_getElem?_getD (l := s.getD r []), List.getElem?_eq_getElem h1]
      rfl
theorem visit_kv (h : MachOK ms.length s g) {kvs : Rws} {ks add : List Nat} {r : Nat} (K : Kv ms s.length kvs ks) (hr : r ∈ ks) :
    ∃ new : List Nat, Kv ms s.length (visit ms s r (kvs, add)).1 (ks ++ new) ∧ (visit ms s r (kvs, add)).2 = add ++ new ∧ (∀ o ∈ new, ∃ i, i < ms.length ∧ o = stp s r i) ∧ (∀ i, i < ms.length → stp s r i ∈ ks ++ new) := by
  have hlt := K.lt r hr
  obtain ⟨p1, p2⟩ := prs_mem h hlt
  obtain ⟨d, hd⟩ := Option.isSome_iff_exists.mp ((K.has r).mpr hr)
  obtain ⟨xs, rfl, x1, x2⟩ := K.rows r d hd
  have hrow : rowOf kvs r = xs := by
    unfold rowOf
    rw [hd]
  obtain ⟨new, h1, h2, h3, h4⟩ := visit1_kv (row := xs) (prs ms s r) kvs ks add K (fun p hp => by
    obtain ⟨i, hi, e, hm⟩ := p1 p hp
    exact ⟨by rw [e]; exact (mach_row h hlt hi).2, hm⟩) x1 x2
  unfold visit
  rw [hrow]
  refine ⟨new, h1, h2, fun o ho => ?_, fun i hi => ?_⟩
  · obtain ⟨p, hp, e⟩ := h3 o ho
    obtain ⟨i, hi, e2, _⟩ := p1 p hp
    exact ⟨i, hi, by rw [← e, e2]⟩
  · obtain ⟨p, hp, e⟩ := p2 i hi
    rw [← e]
    exact h4 p hp
theorem visits_kv (h : MachOK ms.length s g) : ∀ (l : List Nat) (kvs : Rws) (ks add : List Nat), Kv ms s.length kvs ks → (∀ r ∈ l, r ∈ ks) → ∃ new : List Nat, Kv ms s.length (visits ms s l (kvs, add)).1 (ks ++ new) ∧ (visits ms s l (kvs, add)).2 = add ++ new
  | [], kvs, ks, add, K, _ => ⟨[], by simpa [visits] using K, by simp [visits]⟩
  | r :: l, kvs, ks, add, K, hk => by
    obtain ⟨n1, a1, a2, _⟩ := visit_kv h (add := add) K (hk r List.mem_cons_self)
    have e : visits ms s (r :: l) (kvs, add) = visits ms s l ((visit ms s r (kvs, add)).1, add ++ n1) := by
      rw [← a2]
      rfl
    obtain ⟨n2, b1, b2⟩ := visits_kv h l _ (ks ++ n1) (add ++ n1) a1 fun x hx => List.mem_append_left _ (hk x (List.mem_cons_of_mem _ hx))
    rw [e]
    exact ⟨n1 ++ n2, by rw [← List.append_assoc]; exact b1, by rw [← List.append_assoc]; exact b2⟩
theorem lrun_ok (h : MachOK ms.length s g) : ∀ (n : Nat) (kvs : Rws) (ks l : List Nat), Kv ms s.length kvs ks → (∀ r ∈ l, r ∈ ks) → (s.length - kvs.length) + l.length < n → l.length ≤ s.length - 0 + l.length → ∃ a, lrun ms s g n kvs l = some a ∧ ∀ row, a = some row → ∀ m ∈ row, m ∈ ms
  | 0, _, _, _, _, _, h, _ => absurd h (by omega)
  | n + 1, kvs, ks, l, K, hk, hn, _ => by
    unfold lrun
    by_cases hl : l = []
    · rw [if_pos hl]
      exact ⟨none, rfl, fun row e => (by cases e)⟩
    · rw [if_neg hl]
      cases hf : l.find? fun r => g.getD r false with
      | some r =>
        refine ⟨_, rfl, fun row e m hm => ?_⟩
        cases e
        obtain ⟨d, hd⟩ := Option.isSome_iff_exists.mp ((K.has r).mpr (hk r (List.mem_of_find?_eq_some hf)))
        obtain ⟨xs, rfl, x1, _⟩ := K.rows r d hd
        unfold rowOf at hm
        rw [hd] at hm
        exact x1 m hm
      | none =>
        obtain ⟨new, b1, b2⟩ := visits_kv h l kvs ks [] K hk
        rw [List.nil_append] at b2
        have hle := b1.le
        have e1 := b1.len
        have e2 := K.len
        rw [List.length_append] at e1
        have hl0 : 0 < l.length := List.length_pos_iff.mpr hl
        exact lrun_ok h n _ (ks ++ new) _ b1 (by rw [b2]; exact fun x hx => List.mem_append_right _ hx) (by rw [b2]; omega) (by omega)
theorem qrun_ok (h : MachOK ms.length s g) : ∀ (n : Nat) (kvs : Rws) (ks q : List Nat), Kv ms s.length kvs ks → (∀ r ∈ q, r ∈ ks) → (s.length - kvs.length) + q.length < n → (∀ r ∈ ks, Rch s ms.length r) → (∀ r ∈ ks, r ∈ q ∨ ∀ i, i < ms.length → stp s r i ∈ ks) → 0 ∈ ks →
    ∃ res, qrun ms s g n kvs q = some res ∧ (∀ row, res.1 = some row → (∀ m ∈ row, m ∈ ms) ∧ row.length ≤ s.length) ∧ (res.1 = none → ∃ ks', Kv ms s.length res.2 ks' ∧ ∀ r, r ∈ ks' ↔ Rch s ms.length r)
  | 0, _, _, _, _, _, h, _, _, _ => absurd h (by omega)
  | n + 1, kvs, ks, [], K, hq, hn, hr, hc, h0 => by
    refine ⟨(none, kvs), rfl, fun row e => (by cases e), fun _ => ⟨ks, K, fun r => ⟨hr r, fun x => ?_⟩⟩⟩
    induction x with
    | zero => exact h0
    | step _ hi ih => exact (hc _ ih).resolve_left (by simp) _ hi
  | n + 1, kvs, ks, r :: q, K, hq, hn, hr, hc, h0 => by
    unfold qrun
    have hrk := hq r List.mem_cons_self
    cases hg : g.getD r false with
    | true =>
      rw [if_pos rfl]
      refine ⟨_, rfl, fun row e => ?_, fun e => (by cases e)⟩
      cases e
      obtain ⟨d, hd⟩ := Option.isSome_iff_exists.mp ((K.has r).mpr hrk)
      obtain ⟨xs, rfl, x1, x2⟩ := K.rows r d hd
      have e : rowOf kvs r = xs := by
        unfold rowOf
        rw [hd]
      rw [e]
      have := K.le
      exact ⟨x1, by omega⟩
    | false =>
      rw [if_neg (by simp)]
      obtain ⟨new, b1, b2, b3, b4⟩ := visit_kv h (add := q) K hrk
      have hle := b1.le
      have e1 := b1.len
      have e2 := K.len
      rw [List.length_append] at e1
      rw [List.length_cons] at hn
      refine qrun_ok h n _ (ks ++ new) _ b1 ?_ ?_ ?_ ?_ (List.mem_append_left _ h0)
      · rw [b2]
        intro x hx
        rcases List.mem_append.mp hx with e | e
        · exact List.mem_append_left _ (hq x (List.mem_cons_of_mem _ e))
        · exact List.mem_append_right _ e
      · rw [b2, List.length_append]
        omega
      · intro x hx
        rcases List.mem_append.mp hx with e | e
        · exact hr x e
        · obtain ⟨i, hi, e⟩ := b3 x e
          rw [e]
          exact .step (hr r hrk) hi
      · intro x hx
        rw [b2]
        rcases List.mem_append.mp hx with e | e
        · rcases hc x e with z | z
          · rcases List.mem_cons.mp z with y | y
            · rw [y]
              exact .inr b4
            · exact .inl (List.mem_append_left _ y)
          · exact .inr fun i hi => List.mem_append_left _ (z i hi)
        · exact .inl (List.mem_append_right _ e)
end
end Lw

set_option Elab.async false
set_option linter.all false
set_option maxRecDepth 100000
set_option maxHeartbeats 400000
namespace Lw
open PySem PySem.Spec PyProof.Rows L2 Pl
/-! ### sought -/
abbrev bSought : S := (.seq (.pop0 6 2) (.seq (.ife (.idx (.var 5) (.var 6)) (.ret (.tup (.cons (.lit (.str (Str.ofString "row"))) (.cons (.dgetN 1 (.var 6)) .nil)))) .nop) (.for .range (.blt .len (.cons (.var 3) .nil)) (.nm 7) (bSpot (.var 3) (.var 4) 1 6 7 8 2))))
section
variable {W k : Nat} {t : Int} {ms : List PyData} {s : List (List Nat)} {g : List Bool}
theorem sought_turns {C : CallF} (h : MachOK ms.length s g) (hm : ms.length ≤ 100) (hs : s.length ≤ 100) {e0 : Option LV} : ∀ (n : Nat) (kvs : Rws) (ks q : List Nat) (w : Nat) (x6 x7 x8 : Option LV) (res : Option (List PyData) × Rws), qrun ms s g n kvs q = some res → Kv ms s.length kvs ks → (∀ r ∈ q, r ∈ ks) → q.length ≤ kvs.length → n ≤ w →
    ∃ x6' x7' x8', whl (fun env t => (ownAt env 2).map fun xs => (PyData.bool (!xs.isEmpty), t)) (lp C W bSought) w [e0, some (.dk true kvs), some (.own (q.map fun i => .int (i : Nat))), some (.d (.tuple ms)), some (.d (stepsD s)), some (.d (goodD g)), x6, x7, x8] t =
      match res.1 with
      | some row => some (.rt (.tuple [.str (Str.ofString "row"), .list row]) t)
      | none => some (.nx [e0, some (.dk true res.2), some (.own []), some (.d (.tuple ms)), some (.d (stepsD s)), some (.d (goodD g)), x6', x7', x8'] t)
  | 0, _, _, _, _, _, _, _, _, e, _, _, _, _ => by cases e
  | n + 1, kvs, ks, [], w + 1, x6, x7, x8, res, e, K, hq, _, hw => by
    unfold qrun at e
    cases e
    exact ⟨x6, x7, x8, by simp [whl]⟩
  | n + 1, _, _, _, 0, _, _, _, _, _, _, _, _, hw => absurd hw (by omega)
  | n + 1, kvs, ks, r :: q, w + 1, x6, x7, x8, res, e, K, hq, hl, hw => by
    have hrk := hq r List.mem_cons_self
    have hlt := K.lt r hrk
    obtain ⟨d, hd⟩ := Option.isSome_iff_exists.mp ((K.has r).mpr hrk)
    obtain ⟨xs, rfl, x1, x2⟩ := K.rows r d hd
    have hrow : rowOf kvs r = xs := by
      unfold rowOf
      rw [hd]
    have hd' : lookD kvs (Sum.inl (r : Int)) = some (.list xs) := hd
    have hle := K.le
    have ig := idx_good (s := g) (r := r) (by rw [h.len]; exact hlt)
    unfold qrun at e
    cases hg : g.getD r false with
    | true =>
      rw [hg, if_pos rfl, hrow] at e
      rw [hg] at ig
      cases e
      exact ⟨none, none, none, by simp [-idxD, whl, x_lp, ig, hd']⟩
    | false =>
      rw [hg, if_neg (by simp)] at e
      rw [hg] at ig
      obtain ⟨new, b1, b2, _, _⟩ := visit_kv h (add := q) K hrk
      have hle2 := b1.le
      rw [List.length_cons] at hl
      obtain ⟨y7, y8, sp⟩ := spot_turns (W := W) (t := t) (C := C) (g := g) (e0 := e0) (x7 := x7) (x8 := x8) (add0 := q) hlt (h.row _ (getD_in hlt)) hm hd (by omega) (by omega) (by omega)
      have fr := ex_forR (W := W) (C := C) (n := ms.length) (it := .blt .len (.cons (.var 3) .nil)) (env := [e0, some (.dk true kvs), some (.own (q.map fun i => .int (i : Nat))), some (.d (.tuple ms)), some (.d (stepsD s)), some (.d (goodD g)), some (.d (.int (r : Nat))), x7, x8]) (t := t) (t1 := t) (by simp) (by omega) sp
      have hv : visit ms s r (kvs, q) = visit1 xs (prs ms s r) (kvs, q) := by
        unfold visit
        rw [hrow]
      have e1 := b1.len
      have e2 := K.len
      rw [List.length_append] at e1
      have b2l : (visit ms s r (kvs, q)).2.length = q.length + new.length := by rw [b2, List.length_append]
      rw [hv] at e b1 b2 b2l e1 hle2
      obtain ⟨z6, z7, z8, ih⟩ := sought_turns (C := C) h hm hs (e0 := e0) n _ (ks ++ new) _ w (some (.d (.int (r : Nat)))) y7 y8 res e b1 (by
        rw [b2]
        intro x hx
        rcases List.mem_append.mp hx with z | z
        · exact List.mem_append_left _ (hq x (List.mem_cons_of_mem _ z))
        · exact List.mem_append_right _ z) (by rw [b2l]; omega) (by omega)
      refine ⟨z6, z7, z8, ?_⟩
      rw [← ih]
      simp [-idxD, -x_for, whl, x_lp, ig, fr]
end
end Lw

set_option Elab.async false
set_option linter.all false
set_option maxRecDepth 100000
set_option maxHeartbeats 400000
namespace Lw
open PySem PySem.Spec PyProof.Rows L2 Pl
section
variable {W : Nat} {t : Int} {ms : List PyData} {s : List (List Nat)} {g : List Bool}
/-- the law's inner loop is visit1 -/
theorem lspot_turns {C : CallF} {r : Nat} {kvs0 : Rws} {add0 : List Nat} {row : List PyData} (hr : r < s.length) (hrow : (s.getD r []).length = ms.length) (hms : ms.length ≤ 100) (hk : lookD kvs0 (rkey r) = some (.list row)) (hrl : row.length ≤ 900) (hkl : kvs0.length ≤ 1000) (hal : add0.length ≤ 1000) {e0 x7 x8 : Option LV} :
    ∃ x7' x8', forL (lp C W (bSpot (.idx (.var 0) (.lit (.int 0))) (.idx (.var 0) (.lit (.int 1))) 1 3 5 6 4)) (.nm 5) ((List.range ms.length).map fun i => PyData.int (i : Nat)) [some (.d (mkM ms s g)), some (.dk true kvs0), e0, some (.d (.int (r : Nat))), some (.own (add0.map fun i => .int (i : Nat))), x7, x8] t =
      some (.nx [some (.d (mkM ms s g)), some (.dk true (visit1 row (prs ms s r) (kvs0, add0)).1), e0, some (.d (.int (r : Nat))), some (.own ((visit1 row (prs ms s r) (kvs0, add0)).2.map fun i => .int (i : Nat))), x7', x8'] t) := by
  obtain ⟨env, t', h1, x7', x8', h2, h3⟩ := forL_ok0 (f := lp C W (bSpot (.idx (.var 0) (.lit (.int 0))) (.idx (.var 0) (.lit (.int 1))) 1 3 5 6 4)) (tg := .nm 5) (fun (i : Nat) env t1 => ∃ x7 x8, env = [some (.d (mkM ms s g)), some (.dk true (visit1 row ((prs ms s r).take i) (kvs0, add0)).1), e0, some (.d (.int (r : Nat))), some (.own ((visit1 row ((prs ms s r).take i) (kvs0, add0)).2.map fun i => .int (i : Nat))), x7, x8] ∧ t1 = t)
    (xs := (List.range ms.length).map fun i => PyData.int (i : Nat)) (env := [some (.d (mkM ms s g)), some (.dk true kvs0), e0, some (.d (.int (r : Nat))), some (.own (add0.map fun i => .int (i : Nat))), x7, x8]) (t := t) ⟨x7, x8, rfl, rfl⟩ fun i d env t1 hd ⟨x7, x8, e1, e2⟩ => by
      subst e1 e2
      have hi : i < ms.length := by simpa using (List.getElem?_eq_some_iff.mp hd).1
      have hd' : d = .int (i : Nat) := by
        obtain ⟨_, hq⟩ := List.getElem?_eq_some_iff.mp hd
        simp at hq
        exact hq.symm
      subst hd'
      have hpl : (prs ms s r).length = ms.length := by
        unfold prs
        rw [List.length_zip, hrow, Nat.min_self]
      have hget : (prs ms s r)[i]? = some ((s.getD r []).getD i 0, ms.getD i .none) := by
        unfold prs
        have h1 : i < (s.getD r []).length := by omega
        refine List.getElem?_zip_eq_some.mpr ⟨?_, ?_⟩
        · show (s.getD r [])[i]? = some ((s.getD r []).getD i 0)
          rw [List.getD_eq_getElem?_getD (l := s.getD r []), List.getElem?_eq_getElem h1]
          rfl
        · show ms[i]? = some (ms.getD i .none)
          rw [List.getD_eq_getElem?_getD, List.getElem?_eq_getElem hi]
          rfl
      have htake : (prs ms s r).take (i + 1) = (prs ms s r).take i ++ [((s.getD r []).getD i 0, ms.getD i .none)] := by
        rw [List.take_add_one, hget]
        rfl
      have hkey := visit1_old (row := row) ((prs ms s r).take i) (kvs0, add0) _ _ hk
      have hlen := visit1_len (row := row) ((prs ms s r).take i) (kvs0, add0)
      have htl : ((prs ms s r).take i).length ≤ 100 := by rw [List.length_take]; omega
      rw [htake, visit1_app]
      generalize visit1 row ((prs ms s r).take i) (kvs0, add0) = st at hkey hlen
      obtain ⟨kvs, add⟩ := st
      simp only at hkey hlen
      have i1 := idx_steps (s := s) hr
      have i2 := idx_row (s := s.getD r []) (r := i) (by omega)
      have i3 : atI ms (i : Int) = some (ms.getD i .none) := by
        rw [atI_ok (by omega) (by omega), List.getD_eq_getElem?_getD, List.getElem?_eq_getElem (by omega)]
        simp
      generalize (s.getD r []).getD i 0 = o at i2
      generalize ms.getD i .none = m at i3
      have hkey' : lookD kvs (Sum.inl (r : Int)) = some (.list row) := hkey
      have z1 : row.length + 1 ≤ sizeLine := Nat.le_trans (show row.length + 1 ≤ 1000 by omega) (by decide)
      have z2 : kvs.length < sizeLine := Nat.lt_of_le_of_lt (show kvs.length ≤ 1100 by omega) (by decide)
      have z3 : add.length < sizeLine := Nat.lt_of_le_of_lt (show add.length ≤ 1100 by omega) (by decide)
      have m0 : idxD (mkM ms s g) (.int 0) = some (.tuple ms) := rfl
      have m1 : idxD (mkM ms s g) (.int 1) = some (stepsD s) := rfl
      unfold visit1
      cases hq : (lookD kvs (rkey o)).isSome with
      | true =>
        have hq' : (lookD kvs (Sum.inl (o : Int))).isSome = true := hq
        refine ⟨_, [some (.d (mkM ms s g)), some (.dk true kvs), e0, some (.d (.int (r : Nat))), some (.own (add.map fun i => .int (i : Nat))), some (.d (.int (i : Nat))), some (.d (.int (o : Nat)))], t1, rfl, ?_, _, _, rfl, rfl⟩
        simp [-idxD, -List.getD_eq_getElem?_getD, x_lp, i1, i2, m1, hq']
      | false =>
        have hq' : (lookD kvs (Sum.inl (o : Int))).isSome = false := hq
        refine ⟨_, [some (.d (mkM ms s g)), some (.dk true (putD kvs (rkey o) (.list (row ++ [m])))), e0, some (.d (.int (r : Nat))), some (.own ((add ++ [o]).map fun i => .int (i : Nat))), some (.d (.int (i : Nat))), some (.d (.int (o : Nat)))], t1, rfl, ?_, _, _, rfl, rfl⟩
        have i4 : idxD (.tuple ms) (.int (i : Nat)) = some m := i3
        simp [-idxD, -List.getD_eq_getElem?_getD, x_lp, i1, i2, i4, m0, m1, hq', hkey', z1, z2, z3, isListD, rkey]
  have hpl : (prs ms s r).length = ms.length := by
    unfold prs
    rw [List.length_zip, hrow, Nat.min_self]
  rw [List.length_map, List.length_range, ← hpl, List.take_length] at h2
  exact ⟨x7', x8', by rw [h1, h2, h3]⟩
end
end Lw

set_option Elab.async false
set_option linter.all false
set_option maxRecDepth 100000
set_option maxHeartbeats 400000
namespace Lw
open PySem PySem.Spec PyProof.Rows L2 Pl
/-! ### the law's levels -/
abbrev bScan : S := .ife (.idx (.idx (.var 0) (.lit (.int 2))) (.var 3)) (.ret (.dget 1 (.var 3))) .nop
abbrev bVis : S := .for .range (.blt .len (.cons (.idx (.var 0) (.lit (.int 0))) .nil)) (.nm 5) (bSpot (.idx (.var 0) (.lit (.int 0))) (.idx (.var 0) (.lit (.int 1))) 1 3 5 6 4)
abbrev bLev : S := (.seq (.for .seq (.var 2) (.nm 3) bScan) (.seq (.own 4 .nil) (.seq (.for .seq (.var 2) (.nm 3) bVis) (.seq (.frz 4) (.asg (.nm 2) (.var 4))))))
section
variable {W k : Nat} {t : Int} {ms : List PyData} {s : List (List Nat)} {g : List Bool}
theorem scan_turns {C : CallF} (h : MachOK ms.length s g) {kvs : Rws} {ks : List Nat} (K : Kv ms s.length kvs ks) {e2 x4 x5 x6 : Option LV} : ∀ (l : List Nat) (x3 : Option LV), (∀ r ∈ l, r ∈ ks) →
    ∃ x3', forL (lp C W bScan) (.nm 3) (l.map fun i => PyData.int (i : Nat)) [some (.d (mkM ms s g)), some (.dk true kvs), e2, x3, x4, x5, x6] t =
      match l.find? fun r => g.getD r false with
      | some r => some (.rt (.list (rowOf kvs r)) t)
      | none => some (.nx [some (.d (mkM ms s g)), some (.dk true kvs), e2, x3', x4, x5, x6] t)
  | [], x3, _ => ⟨x3, rfl⟩
  | r :: l, x3, hk => by
    have hrk := hk r List.mem_cons_self
    have hlt := K.lt r hrk
    obtain ⟨d, hd⟩ := Option.isSome_iff_exists.mp ((K.has r).mpr hrk)
    obtain ⟨xs, rfl, x1, x2⟩ := K.rows r d hd
    have hrow : rowOf kvs r = xs := by
      unfold rowOf
      rw [hd]
    have hd' : lookD kvs (Sum.inl (r : Int)) = some (.list xs) := hd
    have ig := idx_good (s := g) (r := r) (by rw [h.len]; exact hlt)
    have m2 : idxD (mkM ms s g) (.int 2) = some (goodD g) := rfl
    rw [List.map_cons, forL, List.find?_cons]
    cases hg : g.getD r false with
    | true =>
      rw [hg] at ig
      refine ⟨none, ?_⟩
      simp [-idxD, x_lp, m2, ig, hd', hrow]
    | false =>
      rw [hg] at ig
      obtain ⟨x3', e⟩ := scan_turns (C := C) h K (e2 := e2) (x4 := x4) (x5 := x5) (x6 := x6) l (some (.d (.int (r : Nat)))) fun x hx => hk x (List.mem_cons_of_mem _ hx)
      refine ⟨x3', ?_⟩
      rw [← e]
      simp [-idxD, x_lp, m2, ig]
theorem vis_turns {C : CallF} (h : MachOK ms.length s g) (hm : ms.length ≤ 100) (hs : s.length ≤ 100) {e2 : Option LV} : ∀ (l : List Nat) (kvs : Rws) (ks add : List Nat) (x3 x5 x6 : Option LV), Kv ms s.length kvs ks → (∀ r ∈ l, r ∈ ks) → add.length ≤ kvs.length →
    ∃ x3' x5' x6', forL (lp C W bVis) (.nm 3) (l.map fun i => PyData.int (i : Nat)) [some (.d (mkM ms s g)), some (.dk true kvs), e2, x3, some (.own (add.map fun i => .int (i : Nat))), x5, x6] t =
      some (.nx [some (.d (mkM ms s g)), some (.dk true (visits ms s l (kvs, add)).1), e2, x3', some (.own ((visits ms s l (kvs, add)).2.map fun i => .int (i : Nat))), x5', x6'] t)
  | [], kvs, ks, add, x3, x5, x6, _, _, _ => ⟨x3, x5, x6, rfl⟩
  | r :: l, kvs, ks, add, x3, x5, x6, K, hk, ha => by
    have hrk := hk r List.mem_cons_self
    have hlt := K.lt r hrk
    obtain ⟨d, hd⟩ := Option.isSome_iff_exists.mp ((K.has r).mpr hrk)
    obtain ⟨xs, rfl, x1, x2⟩ := K.rows r d hd
    have hrow : rowOf kvs r = xs := by
      unfold rowOf
      rw [hd]
    have hle := K.le
    obtain ⟨new, b1, b2, _, _⟩ := visit_kv h (add := add) K hrk
    obtain ⟨y5, y6, sp⟩ := lspot_turns (W := W) (t := t) (C := C) (g := g) (e0 := e2) (x7 := x5) (x8 := x6) (add0 := add) hlt (h.row _ (getD_in hlt)) hm hd (by omega) (by omega) (by omega)
    have m0 : idxD (mkM ms s g) (.int 0) = some (.tuple ms) := rfl
    have fr := ex_forR (W := W) (C := C) (n := ms.length) (it := .blt .len (.cons (.idx (.var 0) (.lit (.int 0))) .nil)) (env := [some (.d (mkM ms s g)), some (.dk true kvs), e2, some (.d (.int (r : Nat))), some (.own (add.map fun i => .int (i : Nat))), x5, x6]) (t := t) (t1 := t) (by simp [-idxD, m0]) (by omega) sp
    have hv : visit ms s r (kvs, add) = visit1 xs (prs ms s r) (kvs, add) := by
      unfold visit
      rw [hrow]
    have e1 := b1.len
    have e2' := K.len
    rw [List.length_append] at e1
    have b2l : (visit ms s r (kvs, add)).2.length = add.length + new.length := by rw [b2, List.length_append]
    have ev : visits ms s (r :: l) (kvs, add) = visits ms s l ((visit1 xs (prs ms s r) (kvs, add)).1, (visit1 xs (prs ms s r) (kvs, add)).2) := by
      rw [← hv]
      rfl
    rw [hv] at b1 b2 b2l e1
    obtain ⟨z3, z5, z6, ih⟩ := vis_turns (C := C) h hm hs (e2 := e2) l _ (ks ++ new) _ (some (.d (.int (r : Nat)))) y5 y6 b1 (fun x hx => List.mem_append_left _ (hk x (List.mem_cons_of_mem _ hx))) (by rw [b2l]; omega)
    refine ⟨z3, z5, z6, ?_⟩
    rw [ev, ← ih, List.map_cons, forL]
    simp only [setTg, List.set_cons_succ, List.set_cons_zero, x_lp, fr]
theorem lev_turns {C : CallF} (h : MachOK ms.length s g) (hm : ms.length ≤ 100) (hs : s.length ≤ 100) : ∀ (n : Nat) (kvs : Rws) (ks l : List Nat) (w : Nat) (x3 x4 x5 x6 : Option LV) (a : Option (List PyData)), lrun ms s g n kvs l = some a → Kv ms s.length kvs ks → (∀ r ∈ l, r ∈ ks) → n ≤ w →
    ∃ env', whl (wc C (.cmp .gt (.blt .len (.cons (.var 2) .nil)) (.lit (.int 0)))) (lp C W bLev) w [some (.d (mkM ms s g)), some (.dk true kvs), some (.d (.list (l.map fun i => .int (i : Nat)))), x3, x4, x5, x6] t =
      match a with
      | some row => some (.rt (.list row) t)
      | none => some (.nx env' t)
  | 0, _, _, _, _, _, _, _, _, _, e, _, _, _ => by cases e
  | n + 1, _, _, _, 0, _, _, _, _, _, _, _, _, hw => absurd hw (by omega)
  | n + 1, kvs, ks, l, w + 1, x3, x4, x5, x6, a, e, K, hk, hw => by
    unfold lrun at e
    by_cases hl : l = []
    · subst hl
      rw [if_pos rfl] at e
      cases e
      exact ⟨_, by simp [whl, x_wc]; rfl⟩
    · rw [if_neg hl] at e
      have hl0 : 0 < l.length := List.length_pos_iff.mpr hl
      have hl0' : (0 : Int) < (l.length : Int) := by omega
      obtain ⟨y3, sc⟩ := scan_turns (W := W) (t := t) (C := C) h K (e2 := some (.d (.list (l.map fun i => .int (i : Nat))))) (x4 := x4) (x5 := x5) (x6 := x6) l x3 hk
      have f1 := ex_forS (W := W) (C := C) (k := .seq) (it := .var 2) (x := .list (l.map fun i => .int (i : Nat))) (env := [some (.d (mkM ms s g)), some (.dk true kvs), some (.d (.list (l.map fun i => .int (i : Nat)))), x3, x4, x5, x6]) (t := t) (t1 := t) (by simp) rfl sc
      cases hf : l.find? fun r => g.getD r false with
      | some r =>
        rw [hf] at e f1
        cases e
        exact ⟨[], by simp [-x_for, whl, x_wc, x_lp, hl0, hl0', f1]⟩
      | none =>
        rw [hf] at e f1
        obtain ⟨new, b1, b2⟩ := visits_kv h l kvs ks [] K hk
        rw [List.nil_append] at b2
        obtain ⟨z3, z5, z6, vt⟩ := vis_turns (W := W) (t := t) (C := C) h hm hs (e2 := some (.d (.list (l.map fun i => .int (i : Nat))))) l kvs ks [] y3 x5 x6 K hk (by simp)
        have f2 := ex_forS (W := W) (C := C) (k := .seq) (it := .var 2) (x := .list (l.map fun i => .int (i : Nat))) (env := [some (.d (mkM ms s g)), some (.dk true kvs), some (.d (.list (l.map fun i => .int (i : Nat)))), y3, some (.own []), x5, x6]) (t := t) (t1 := t) (by simp) rfl vt
        obtain ⟨env', ih⟩ := lev_turns (C := C) h hm hs n _ (ks ++ new) _ w z3 (some (.d (.list ((visits ms s l (kvs, [])).2.map fun i => .int (i : Nat))))) z5 z6 a e b1 (by rw [b2]; exact fun x hx => List.mem_append_right _ hx) (by omega)
        refine ⟨env', ?_⟩
        rw [← ih]
        simp [-x_for, whl, x_wc, x_lp, hl0, hl0', f1, f2]
theorem first_kv (h : MachOK ms.length s g) : Kv ms s.length [(rkey 0, .list [])] [0] :=
  ⟨rfl, by simp, fun r hr => by rw [List.mem_singleton.mp hr]; exact h.pos, fun r d hd => by
    by_cases e : 0 = r
    · subst e
      have : PyData.list [] = d := by simpa [lookD, List.find?_cons] using hd
      exact ⟨[], this.symm, by simp, by simp⟩
    · have e2 : ¬ rkey 0 = rkey r := fun z => e (rkey_inj z)
      simp [lookD, List.find?_cons, e2] at hd⟩
theorem lawfirst_eq (h : MachOK ms.length s g) (hm : ms.length ≤ 100) (hs : s.length ≤ 100) (hW : 200 ≤ W) : ∃ a, lrun ms s g 102 [(rkey 0, .list [])] [0] = some a ∧ (∀ row, a = some row → ∀ m ∈ row, m ∈ ms) ∧ cf W (k + 1) ilaw_first [.d (mkM ms s g)] t = some (match a with | some row => .list row | none => .none, t) := by
  have K := first_kv h
  obtain ⟨a, e, hr⟩ := lrun_ok h 102 _ _ [0] K (by simp) (by simp; omega) (by simp)
  obtain ⟨env', lv⟩ := lev_turns (W := W) (t := t) (C := cf W k) h hm hs 102 _ _ [0] W none none none none a e K (by simp) (by omega)
  refine ⟨a, e, hr, ?_⟩
  have e0 : rkey 0 = (Sum.inl (0 : Int) : L2.Key) := rfl
  have e1 : ([0] : List Nat).map (fun i => PyData.int (i : Nat)) = [.int 0] := rfl
  rw [e0, e1] at lv
  rw [ulaw_first]
  unfold flaw_first
  cases a with
  | some row =>
    simp only at lv
    simp [lv, isListD]
  | none =>
    simp only at lv
    simp [lv, isListD]
theorem intKeys_of : ∀ {kvs : Rws} {ks : List Nat}, kvs.map (·.1) = ks.map rkey → intKeys kvs = some (ks.map fun r => ((r : Nat) : Int))
  | [], ks, h => by
    have : ks = [] := by simpa using h.symm
    subst this
    rfl
  | (k, d) :: kvs, [], h => by cases h
  | (k, d) :: kvs, j :: ks, h => by
    rw [List.map_cons, List.map_cons] at h
    obtain ⟨h1, h2⟩ := List.cons.inj h
    have h1 : k = rkey j := h1
    subst h1
    show (intKeys kvs).map _ = _
    rw [intKeys_of h2]
    rfl
theorem sought_eq (h : MachOK ms.length s g) (hm : ms.length ≤ 100) (hs : s.length ≤ 60) (hW : 200 ≤ W) : ∃ res, qrun ms s g 102 [(rkey 0, .list [])] [0] = some res ∧
    match res.1 with
      | some row => (∀ m ∈ row, m ∈ ms) ∧ row.length ≤ s.length ∧ cf W (k + 1) isought [.d (mkM ms s g)] t = some (.tuple [.str (Str.ofString "row"), .list row], t)
      | none => ∃ ks : List Nat, ks.Nodup ∧ (∀ r, r ∈ ks ↔ Rch s ms.length r) ∧ ks.length ≤ s.length ∧ cf W (k + 1) isought [.d (mkM ms s g)] t = some (.tuple [.str (Str.ofString "none"), .list ((sortI (ks.map fun r => ((r : Nat) : Int))).map .int)], t) := by
  have K := first_kv h
  obtain ⟨res, e, hr, hn⟩ := qrun_ok h 102 _ _ [0] K (by simp) (by simp; omega) (fun r hr => by rw [List.mem_singleton.mp hr]; exact .zero) (fun r hr => .inl hr) (by simp)
  obtain ⟨x6, x7, x8, sv⟩ := sought_turns (W := W) (t := t) (C := cf W k) h hm (by omega) (e0 := some (.d (mkM ms s g))) 102 _ _ [0] W none none none res e K (by simp) (by simp) (by omega)
  refine ⟨res, e, ?_⟩
  have e0 : rkey 0 = (Sum.inl (0 : Int) : L2.Key) := rfl
  have e1 : ([0] : List Nat).map (fun i => PyData.int (i : Nat)) = [.int 0] := rfl
  rw [e0, e1] at sv
  rw [usought]
  unfold fsought
  cases hres : res.1 with
  | some row =>
    rw [hres] at sv
    simp only at sv
    obtain ⟨r1, r2⟩ := hr row hres
    refine ⟨r1, r2, ?_⟩
    unfold mkM at sv ⊢
    simp at sv
    simp [sv, isListD]
  | none =>
    rw [hres] at sv
    simp only at sv
    obtain ⟨ks', K', hk⟩ := hn hres
    have ik := intKeys_of K'.keys
    have hle := K'.le
    have hl := K'.len
    have h64 : ks'.length < 64 := by omega
    refine ⟨ks', K'.nd, hk, by omega, ?_⟩
    unfold mkM at sv ⊢
    simp at sv
    simp [sv, isListD, ik, h64]
end
end Lw

set_option Elab.async false
set_option linter.all false
set_option maxRecDepth 100000
set_option maxHeartbeats 400000
namespace Lw
open PySem PySem.Spec PyProof.Rows L2 Pl
/-! ### all rooms that can be come to, as the law finds them -/
def nxt (s : List (List Nat)) (r : Int) : List Int := (s.getD r.toNat []).map fun i => ((i : Nat) : Int)
def rstep (s : List (List Nat)) (met : List Int) (r : Int) : List Int := met ++ (sortI (dedupI (nxt s r))).filter fun x => !decide (x ∈ met)
def rrun (s : List (List Nat)) : Nat → List Int → Nat → Option (List Int)
  | 0, _, _ => none
  | n + 1, met, p => match met[p]? with
    | some r => rrun s n (rstep s met r) (p + 1)
    | none => some met
section
variable {s : List (List Nat)} {n : Nat} {g : List Bool}
theorem sortI_mem {a : List Int} {x : Int} : x ∈ sortI a ↔ x ∈ a := (sortI_perm a).mem_iff
theorem rstep_mem {met : List Int} {r x : Int} : x ∈ rstep s met r ↔ x ∈ met ∨ x ∈ nxt s r := by
  unfold rstep
  rw [List.mem_append, List.mem_filter, sortI_mem, dedup_mem]
  by_cases h : x ∈ met <;> simp [h]
theorem rstep_nodup {met : List Int} {r : Int} (h : met.Nodup) : (rstep s met r).Nodup := by
  unfold rstep
  rw [List.nodup_append]
  refine ⟨h, (((sortI_perm _).nodup_iff).mpr (dedup_nodup _)).filter _, fun a ha b hb e => ?_⟩
  subst e
  have := (List.mem_filter.mp hb).2
  simp [ha] at this
/-- what holds of the rooms met, the first p of them looked at -/
structure Rm (s : List (List Nat)) (n : Nat) (met : List Int) (p : Nat) : Prop where
  nd : met.Nodup
  rch : ∀ x ∈ met, ∃ r : Nat, x = (r : Int) ∧ Rch s n r
  zero : (0 : Int) ∈ met
  seen : ∀ (j : Nat) (x : Int), j < p → met[j]? = some x → ∀ y ∈ nxt s x, y ∈ met
theorem nxt_nat (r : Nat) : nxt s ((r : Nat) : Int) = (s.getD r []).map fun i => ((i : Nat) : Int) := by
  unfold nxt
  rw [Int.toNat_natCast]
theorem stp_lt (h : MachOK n s g) {r i : Nat} (hr : r < s.length) (hi : i < n) : stp s r i < s.length := by
  have hm := getD_in (d := []) hr
  have hl : (s.getD r []).length = n := h.row _ hm
  exact h.lt _ hm _ (getD_in (by omega))
theorem rch_lt (h : MachOK n s g) {r : Nat} (x : Rch s n r) : r < s.length := by
  induction x with
  | zero => exact h.pos
  | step _ hi ih => exact stp_lt h ih hi
theorem nxt_rch (h : MachOK n s g) {r : Nat} (x : Rch s n r) : ∀ y ∈ nxt s (r : Int), ∃ q : Nat, y = (q : Int) ∧ Rch s n q := by
  intro y hy
  rw [nxt_nat] at hy
  obtain ⟨q, hq, rfl⟩ := List.mem_map.mp hy
  obtain ⟨i, hi, e⟩ := List.mem_iff_getElem.mp hq
  have hlt := rch_lt h x
  have hl : (s.getD r []).length = n := h.row _ (getD_in hlt)
  refine ⟨q, rfl, ?_⟩
  have : q = stp s r i := by
    unfold stp
    rw [List.getD_eq_getElem?_getD (l := s.getD r []), List.getElem?_eq_getElem hi]
    exact e.symm
  rw [this]
  exact .step x (by omega)
theorem Rm.step (h : MachOK n s g) {met : List Int} {p : Nat} {x : Int} (R : Rm s n met p) (hx : met[p]? = some x) : Rm s n (rstep s met x) (p + 1) := by
  have hxm := List.mem_of_getElem? hx
  obtain ⟨r, rfl, rr⟩ := R.rch _ hxm
  have hp : p < met.length := (List.getElem?_eq_some_iff.mp hx).1
  refine ⟨rstep_nodup R.nd, fun y hy => (rstep_mem.mp hy).elim (R.rch y) fun z => nxt_rch h rr y z, rstep_mem.mpr (.inl R.zero), fun j y hj hy z hz => ?_⟩
  have hy' : met[j]? = some y := by
    unfold rstep at hy
    rw [List.getElem?_append_left (by omega)] at hy
    exact hy
  by_cases e : j = p
  · subst e
    rw [hx] at hy'
    cases hy'
    exact rstep_mem.mpr (.inr hz)
  · exact rstep_mem.mpr (.inl (R.seen j y (by omega) hy' z hz))
theorem Rm.len (h : MachOK n s g) {met : List Int} {p : Nat} (R : Rm s n met p) : met.length ≤ s.length := by
  have := nodup_lt s.length (met.map Int.toNat) ?_ ?_
  · rw [List.length_map] at this
    exact this
  · refine List.pairwise_map.mpr (R.nd.imp_of_mem fun {a b} ha hb hab e => ?_)
    obtain ⟨a', rfl, _⟩ := R.rch a ha
    obtain ⟨b', rfl, _⟩ := R.rch b hb
    have e : a' = b' := by simpa using e
    exact hab (by rw [e])
  · intro x hx
    obtain ⟨y, hy, rfl⟩ := List.mem_map.mp hx
    obtain ⟨r, rfl, rr⟩ := R.rch y hy
    rw [Int.toNat_natCast]
    exact rch_lt h rr
theorem rrun_ok (h : MachOK n s g) : ∀ (m : Nat) (met : List Int) (p : Nat), Rm s n met p → s.length - p < m → ∃ res, rrun s m met p = some res ∧ res.Nodup ∧ (∀ x, x ∈ res ↔ ∃ r : Nat, x = (r : Int) ∧ Rch s n r) ∧ res.length ≤ s.length
  | 0, _, _, _, hm => absurd hm (by omega)
  | m + 1, met, p, R, hm => by
    unfold rrun
    cases e : met[p]? with
    | some x =>
      have hp : p < met.length := (List.getElem?_eq_some_iff.mp e).1
      have hl := R.len h
      exact rrun_ok h m _ _ (R.step h e) (by omega)
    | none =>
      have hp : met.length ≤ p := List.getElem?_eq_none_iff.mp e
      have all : ∀ r, Rch s n r → ((r : Nat) : Int) ∈ met := by
       intro r rr
       induction rr with
       | zero => exact R.zero
       | @step q i rq hi ih =>
        obtain ⟨j, hj, ej⟩ := List.mem_iff_getElem.mp ih
        refine R.seen j _ (by omega) (by rw [List.getElem?_eq_getElem hj, ej]) _ ?_
        rw [nxt_nat]
        have hl : (s.getD q []).length = n := h.row _ (getD_in (rch_lt h rq))
        refine List.mem_map.mpr ⟨stp s q i, ?_, rfl⟩
        unfold stp
        rw [List.getD_eq_getElem?_getD (l := s.getD q []), List.getElem?_eq_getElem (by omega)]
        exact List.getElem_mem _
      exact ⟨met, rfl, R.nd, fun x => ⟨R.rch x, fun ⟨r, er, rr⟩ => er ▸ all r rr⟩, R.len h⟩
end
theorem dedup_len : ∀ l : List Int, (dedupI l).length ≤ l.length
  | [] => Nat.le_refl _
  | x :: r => by
    have ih := dedup_len r
    unfold dedupI
    split
    · rw [List.length_cons]
      omega
    · rw [List.length_cons, List.length_cons]
      omega
end Lw

set_option Elab.async false
set_option linter.all false
set_option maxRecDepth 100000
set_option maxHeartbeats 400000
namespace Lw
open PySem PySem.Spec PyProof.Rows L2 Pl
theorem eq_self {d : PyData} (h : SeqAt.shaped d = true) : eqD d d = some true := by
  have hl : d.canLay0 = true := by
    unfold SeqAt.shaped at h
    exact (Bool.and_eq_true_iff.mp h).1
  have e := SeqAt.eqv_refl d hl
  cases d <;> simp [eqD, h, e]
theorem lay_all {ds : List PyData} {n : Nat} (h : ∀ d ∈ ds, d.canLay0 = true ∧ d.depth ≤ n) : PyData.canLayAll0 ds = true ∧ PyData.depthAll ds ≤ n := by
  induction ds with
  | nil => simp [PyData.canLayAll0, PyData.depthAll]
  | cons d r ih =>
    obtain ⟨h1, h2⟩ := ih fun e he => h e (List.mem_cons_of_mem _ he)
    obtain ⟨h3, h4⟩ := h d List.mem_cons_self
    constructor
    · simp [PyData.canLayAll0, h1, h3]
    · simp only [PyData.depthAll]
      omega
theorem lay_row (r : List Nat) : (rowD r).canLay0 = true ∧ (rowD r).depth ≤ 1 := by
  obtain ⟨h1, h2⟩ := lay_all (ds := r.map fun i => .int (i : Nat)) (n := 0) fun d hd => by
    obtain ⟨i, _, rfl⟩ := List.mem_map.mp hd
    exact ⟨rfl, by simp [PyData.depth]⟩
  refine ⟨by simpa [rowD, PyData.canLay0] using h1, ?_⟩
  simp only [rowD, PyData.depth]
  omega
theorem lay_steps (s : List (List Nat)) : (stepsD s).canLay0 = true ∧ (stepsD s).depth ≤ 2 := by
  obtain ⟨h1, h2⟩ := lay_all (ds := s.map rowD) (n := 1) fun d hd => by
    obtain ⟨i, _, rfl⟩ := List.mem_map.mp hd
    exact lay_row i
  refine ⟨by simpa [stepsD, PyData.canLay0] using h1, ?_⟩
  simp only [stepsD, PyData.depth]
  omega
theorem lay_good (g : List Bool) : (goodD g).canLay0 = true ∧ (goodD g).depth ≤ 1 := by
  obtain ⟨h1, h2⟩ := lay_all (ds := g.map .bool) (n := 0) fun d hd => by
    obtain ⟨i, _, rfl⟩ := List.mem_map.mp hd
    exact ⟨rfl, by simp [PyData.depth]⟩
  refine ⟨by simpa [goodD, PyData.canLay0] using h1, ?_⟩
  simp only [goodD, PyData.depth]
  omega
theorem shaped_of {d : PyData} {n : Nat} (h : d.canLay0 = true ∧ d.depth ≤ n) (hn : n ≤ 8) : SeqAt.shaped d = true := by
  unfold SeqAt.shaped
  rw [h.1, Bool.true_and]
  exact decide_eq_true (by omega)
theorem eq_steps (s : List (List Nat)) : eqD (stepsD s) (stepsD s) = some true := eq_self (shaped_of (lay_steps s) (by omega))
theorem eq_good (s : List Bool) : eqD (goodD s) (goodD s) = some true := eq_self (shaped_of (lay_good s) (by omega))
theorem eq_marks {ms : List PyData} (h : ∀ d ∈ ms, OkMark d) : eqD (.tuple ms) (.tuple ms) = some true := eq_self (okMarks_shapedT h)
theorem eq_row {ms : List PyData} (h : ∀ d ∈ ms, OkMark d) : eqD (.list ms) (.list ms) = some true := eq_self (okMarks_shaped h)
theorem eq_mach {ms : List PyData} {s : List (List Nat)} {g : List Bool} (h : ∀ d ∈ ms, OkMark d) : eqD (mkM ms s g) (mkM ms s g) = some true := by
  obtain ⟨a1, a2⟩ := okMarks_lay h
  obtain ⟨b1, b2⟩ := lay_steps s
  obtain ⟨c1, c2⟩ := lay_good g
  refine eq_self (shaped_of (n := 4) ⟨?_, ?_⟩ (by omega))
  · simp [mkM, PyData.canLay0, PyData.canLayAll0, a1, b1, c1]
  · simp only [mkM, PyData.depth, PyData.depthAll]
    omega
theorem bools_map (f : PyData → Bool) : ∀ ds : List PyData, boolsOf (ds.map fun d => .bool (f d)) = some (ds.map f)
  | [] => rfl
  | d :: r => by
    simp [bools_map f r]
section
variable {W k : Nat} {t : Int} {ms : List PyData} {s : List (List Nat)} {g : List Bool}
theorem ints_map : ∀ l : List Int, intsOf (l.map PyData.int) = some l
  | [] => rfl
  | x :: l => by
    show (intsOf (l.map PyData.int)).map _ = _
    rw [ints_map l]
    rfl
theorem in_ints (x : Int) (ys : List Int) : inD (.int x) (.list (ys.map .int)) = some (decide (x ∈ ys)) := by
  have h1 : (ys.map PyData.int).all flatD = true := List.all_eq_true.mpr fun d hd => by
    obtain ⟨y, _, rfl⟩ := List.mem_map.mp hd
    rfl
  have h2 : ((ys.map PyData.int).any fun z => PyData.eqv z (.int x)) = decide (x ∈ ys) := by
    induction ys with
    | nil => rfl
    | cons y r ih =>
      rw [List.map_cons, List.any_cons, ih (by simpa using fun a ha => rfl)]
      by_cases e : y = x
      · subst e
        simp [PyData.eqv]
      · have e2 : ¬ x = y := fun z => e z.symm
        simp [PyData.eqv, e, e2]
  show (if (flatD (.int x) && (ys.map PyData.int).all flatD) = true then some ((ys.map PyData.int).any fun z => PyData.eqv z (.int x)) else _) = _
  rw [if_pos (by rw [h1]; rfl), h2]
theorem lc_filter {f : PyData → Int → Option (Option PyData × Int)} {p : Int → Bool} : ∀ (xs : List Int) (t : Int), (∀ x t, f (.int x) t = some (if p x = true then some (.int x) else none, t)) → lcLoop f (xs.map PyData.int) t = some ((xs.filter p).map PyData.int, t)
  | [], t, _ => rfl
  | x :: xs, t, h => by
    rw [List.map_cons]
    unfold lcLoop
    rw [h x t]
    simp only [lc_filter xs t h, List.filter_cons]
    cases p x <;> rfl
theorem rowD_nxt (r : Nat) : rowD (s.getD r []) = .list ((nxt s (r : Int)).map .int) := by
  rw [nxt_nat, List.map_map]
  rfl
abbrev bRooms : S := .seq (.asg (.nm 1) (.bin .add (.var 1) (.lc .seq (.sset (.idx (.idx (.var 0) (.lit (.int 1))) (.idx (.var 1) (.var 2)))) (.nm 3) [3] (.cmp .notin (.var 3) (.var 1)) (.var 3)))) (.asg (.nm 2) (.bin .add (.var 2) (.lit (.int 1))))
theorem rooms_turn {C : CallF} (h : MachOK ms.length s g) (hm : ms.length ≤ 60) (hs : s.length ≤ 100) {met : List Int} {p : Nat} {x : Int} (R : Rm s ms.length met p) (hx : met[p]? = some x) {x3 : Option LV} :
    lp C W bRooms [some (.d (mkM ms s g)), some (.d (.list (met.map .int))), some (.d (.int (p : Nat))), x3] t = some (.nx [some (.d (mkM ms s g)), some (.d (.list ((rstep s met x).map .int))), some (.d (.int ((p + 1 : Nat) : Int))), x3] t) := by
  have hl := R.len h
  have R2 := (R.step h hx).len h
  obtain ⟨r, rfl, rr⟩ := R.rch x (List.mem_of_getElem? hx)
  have hlt := rch_lt h rr
  have m1 : idxD (mkM ms s g) (.int 1) = some (stepsD s) := rfl
  have i1 := idx_steps (s := s) hlt
  rw [rowD_nxt] at i1
  have i2 : idxD (.list (met.map .int)) (.int (p : Nat)) = some (.int (r : Nat)) := atI_nat (by rw [List.getElem?_map, hx]; rfl)
  have hnl : (nxt s (r : Int)).length = ms.length := by
    rw [nxt_nat, List.length_map]
    exact h.row _ (getD_in hlt)
  have hn63 : (nxt s (r : Int)).length < 63 := by omega
  have lc := lc_filter (f := lcF C [some (.d (mkM ms s g)), some (.d (.list (met.map .int))), some (.d (.int (p : Nat))), x3] [3] (.nm 3) (.cmp .notin (.var 3) (.var 1)) (.var 3)) (p := fun x => !decide (x ∈ met)) (sortI (dedupI (nxt s (r : Int)))) t fun x t => by
    simp only [x_lcF, wipeE, List.set_cons_succ, List.set_cons_zero, setTg, x_cmp, x_var, List.getElem?_cons_succ, List.getElem?_cons_zero, cmpD, in_ints, Option.map_some]
    by_cases e : x ∈ met <;> simp [e]
  have hl2 : (sortI (dedupI (nxt s (r : Int)))).length ≤ 1000000 := by
    rw [(sortI_perm _).length_eq]
    have : (dedupI (nxt s (r : Int))).length ≤ (nxt s (r : Int)).length := dedup_len _
    omega
  have el := ev_lcS (C := C) (k := .seq) (it := .sset (.idx (.idx (.var 0) (.lit (.int 1))) (.idx (.var 1) (.var 2)))) (c := .cmp .notin (.var 3) (.var 1)) (e := .var 3) (tg := .nm 3) (vs := [3]) (env := [some (.d (mkM ms s g)), some (.d (.list (met.map .int))), some (.d (.int (p : Nat))), x3]) (t := t) (x := .list ((sortI (dedupI (nxt s (r : Int)))).map .int)) (by
    simp [-idxD, m1, i1, i2, ints_map, hn63]) rfl (by rw [List.length_map]; exact hl2) lc
  have ad : addD (.list (met.map .int)) (.list (((sortI (dedupI (nxt s (r : Int)))).filter fun x => !decide (x ∈ met)).map .int)) = some (.list ((rstep s met (r : Int)).map .int)) := by
    unfold rstep at R2 ⊢
    rw [List.length_append] at R2
    show (if _ then _ else _) = _
    rw [if_pos (by rw [List.length_map, List.length_map]; exact Nat.le_trans R2 (Nat.le_trans hs (by decide))), List.map_append]
  simp [-x_lc, -addD, x_lp, el, ad]
  simp [addD]
theorem rooms_turns {C : CallF} (h : MachOK ms.length s g) (hm : ms.length ≤ 60) (hs : s.length ≤ 100) : ∀ (n : Nat) (met : List Int) (p w : Nat) (x3 : Option LV) (res : List Int), rrun s n met p = some res → Rm s ms.length met p → n ≤ w →
    ∃ p', whl (wc C (.cmp .lt (.var 2) (.blt .len (.cons (.var 1) .nil)))) (lp C W bRooms) w [some (.d (mkM ms s g)), some (.d (.list (met.map .int))), some (.d (.int (p : Nat))), x3] t = some (.nx [some (.d (mkM ms s g)), some (.d (.list (res.map .int))), some (.d (.int (p' : Nat))), x3] t)
  | 0, _, _, _, _, _, e, _, _ => by cases e
  | n + 1, _, _, 0, _, _, _, _, hw => absurd hw (by omega)
  | n + 1, met, p, w + 1, x3, res, e, R, hw => by
    unfold rrun at e
    cases hx : met[p]? with
    | some x =>
      rw [hx] at e
      have hp : p < met.length := (List.getElem?_eq_some_iff.mp hx).1
      have hp' : (p : Int) < (met.length : Int) := by omega
      obtain ⟨p', ih⟩ := rooms_turns (C := C) h hm hs n _ (p + 1) w x3 res e (R.step h hx) (by omega)
      have tn := rooms_turn (W := W) (C := C) (t := t) (x3 := x3) h hm hs R hx
      refine ⟨p', ?_⟩
      rw [← ih, whl]
      simp [x_wc, hp, hp', tn]
    | none =>
      rw [hx] at e
      cases e
      have hp : met.length ≤ p := List.getElem?_eq_none_iff.mp hx
      have hp' : ¬ (p : Int) < (met.length : Int) := by omega
      have hp2 : ¬ p < met.length := by omega
      exact ⟨p, by simp [whl, x_wc, hp', hp2]⟩
theorem lawrooms_eq (h : MachOK ms.length s g) (hm : ms.length ≤ 60) (hs : s.length ≤ 60) (hW : 200 ≤ W) {ks : List Nat} (hk : ks.Nodup) (hr : ∀ r, r ∈ ks ↔ Rch s ms.length r) : cf W (k + 1) ilaw_rooms [.d (mkM ms s g)] t = some (.list ((sortI (ks.map fun r => ((r : Nat) : Int))).map .int), t) := by
  have R0 : Rm s ms.length [0] 0 := ⟨by simp, fun x hx => ⟨0, by simpa using hx, .zero⟩, by simp, fun j x hj => absurd hj (by omega)⟩
  obtain ⟨res, e, e1, e2, e3⟩ := rrun_ok h 101 [0] 0 R0 (by omega)
  obtain ⟨p', rt⟩ := rooms_turns (W := W) (t := t) (C := cf W k) h hm (by omega) 101 [0] 0 W none res e R0 (by omega)
  have eq : sortI res = sortI (ks.map fun r => ((r : Nat) : Int)) := by
    refine sortI_uniq ((sortI_perm res).trans (perm_of_mem e1 ?_ fun x => ?_)) (sortI_sorted res)
    · exact List.pairwise_map.mpr (hk.imp fun {a b} hab e => hab (by
      have e : ((a : Nat) : Int) = ((b : Nat) : Int) := e
      omega))
    · rw [e2, List.mem_map]
      constructor
      · rintro ⟨r, rfl, rr⟩
        exact ⟨r, (hr r).mpr rr, rfl⟩
      · rintro ⟨r, rr, rfl⟩
        exact ⟨r, rfl, (hr r).mp rr⟩
  have e0 : ([0] : List Int).map PyData.int = [.int 0] := rfl
  rw [e0] at rt
  rw [ulaw_rooms]
  unfold flaw_rooms
  have rt : whl (wc (cf W k) (.cmp .lt (.var 2) (.blt .len (.cons (.var 1) .nil)))) (lp (cf W k) W bRooms) W [some (.d (mkM ms s g)), some (.d (.list [.int 0])), some (.d (.int 0)), none] t = some (.nx [some (.d (mkM ms s g)), some (.d (.list (res.map .int))), some (.d (.int (p' : Nat))), none] t) := rt
  simp [rt, ints_map, eq]
end
end Lw

set_option Elab.async false
set_option linter.all false
set_option maxRecDepth 100000
set_option maxHeartbeats 400000
namespace Lw
open PySem PySem.Spec PyProof.Rows L2 Pl
/-! ### the law -/
section
variable {ms : List PyData} {s : List (List Nat)} {g : List Bool}
abbrev Has (st : Rws × List Nat) : Prop := ∀ r ∈ st.2, ∃ d, lookD st.1 (rkey r) = some d
theorem visit1_has {row : List PyData} : ∀ (ps : List (Nat × PyData)) (st : Rws × List Nat), Has st → Has (visit1 row ps st)
  | [], _, h => h
  | (o, m) :: r, (kvs, add), h => by
    unfold visit1
    refine visit1_has r _ ?_
    split
    · exact h
    · intro x hx
      show ∃ d, lookD (putD kvs (rkey o) _) (rkey x) = some d
      rw [lookD_put]
      by_cases e : rkey o = rkey x
      · exact ⟨_, if_pos e⟩
      · rw [if_neg e]
        rcases List.mem_append.mp hx with z | z
        · exact h x z
        · exact absurd (by rw [List.mem_singleton.mp z]) e
theorem visits_has : ∀ (l : List Nat) (st : Rws × List Nat), Has st → Has (visits ms s l st)
  | [], _, h => h
  | r :: l, st, h => visits_has l (visit ms s r st) (visit1_has _ _ h)
theorem lq_due {a : Option (List PyData)} {res : Option (List PyData) × Rws} (h1 : lrun ms s g 102 [(rkey 0, .list [])] [0] = some a) (h2 : qrun ms s g 102 [(rkey 0, .list [])] [0] = some res) : a = res.1 :=
  lq_same 102 102 _ _ a res (fun r hr => by
    rw [List.mem_singleton.mp hr]
    exact ⟨_, by simp [lookD, List.find?_cons]; rfl⟩) (fun kvs l _ => visits_has l (kvs, []) fun r hr => by cases hr) h1 h2
end
section
variable {W k : Nat}
abbrev lTail : S := .tail2 7 0 (.cons (.var 4) .nil) [(.or (.not (.blt .isTuple (.cons (.var 7) .nil))) (.or (.cmp .ne (.blt .len (.cons (.var 7) .nil)) (.lit (.int 2))) (.or (.not (.blt .isList (.cons (.idx (.var 7) (.lit (.int 1))) .nil))) (.cmp .ne (.var 4) (.var 5))))), (.and (.isN true (.var 6)) (.or (.cmp .ne (.idx (.var 7) (.lit (.int 0))) (.lit (.str (Str.ofString "row")))) (.cmp .ne (.idx (.var 7) (.lit (.int 1))) (.var 6))))] (.isN true (.var 6)) (.ret (.cmp .eq (.idx (.call 0 (.cons (.var 4) .nil)) (.lit (.int 1))) (.var 6))) (.seq (.ife (.not (.blt .all (.cons (.lc .seq (.idx (.var 7) (.lit (.int 1))) (.nm 8) [8] (.lit (.bool true)) (.and (.blt .isInt (.cons (.var 8) .nil)) (.not (.blt .isBool (.cons (.var 8) .nil))))) .nil))) (.ret (.lit (.bool false))) .nop) (.ret (.and (.cmp .eq (.idx (.var 7) (.lit (.int 0))) (.lit (.str (Str.ofString "none")))) (.cmp .eq (.idx (.var 7) (.lit (.int 1))) (.call 8 (.cons (.var 5) .nil))))))
theorem lay_ints (l : List Int) : SeqAt.shaped (.list (l.map .int)) = true := by
  obtain ⟨h1, h2⟩ := lay_all (ds := l.map .int) (n := 0) fun d hd => by
    obtain ⟨i, _, rfl⟩ := List.mem_map.mp hd
    exact ⟨rfl, by simp [PyData.depth]⟩
  refine shaped_of (n := 1) ⟨by simpa [PyData.canLay0] using h1, ?_⟩ (by omega)
  simp only [PyData.depth]
  omega
theorem int_turns {C : CallF} {env : Pl.Env} {t : Int} (h : env.length = 9) : ∀ d ∈ (l : List Int).map PyData.int, lcF C env [8] (.nm 8) (.lit (.bool true)) (.and (.blt .isInt (.cons (.var 8) .nil)) (.not (.blt .isBool (.cons (.var 8) .nil)))) d t = some (some (.bool true), t) := by
  intro d hd
  obtain ⟨i, _, rfl⟩ := List.mem_map.mp hd
  have e1 : ((wipeE env [8]).set 8 (some (.d (.int i))))[8]? = some (some (.d (.int i))) := by
    rw [List.getElem?_set_self]
    simp [wipeE, h]
  simp [-wipeE, e1]
theorem tail_ok (hW : 200 ≤ W) {ns : List Int} {n0 : PyData} {ds : List PyData} {s : List (List Nat)} {g : List Bool} {t : Int} (dk : ∀ d ∈ ds, OkMark d) (dl : ds.length ≤ 60) (mo : MachOK ds.length s g) (hs : s.length ≤ 10) :
    exs (cf W (k + 4)) W (.seq (.asg (.nm 5) (.call 5 (.cons (.var 4) .nil))) (.seq (.asg (.nm 6) (.call 7 (.cons (.var 5) .nil))) lTail)) [some (.scr ns), some .tp, some (.d n0), some (.d (.list ds)), some (.d (mkM ds s g)), none, none, none, none] t = some (.rt (.bool true) t) := by
  have cp := copy_eq (W := W) (k := k + 3) (ms := ds) (s := s) (g := g) (t := t) (by omega)
  obtain ⟨a, la, _, lf⟩ := lawfirst_eq (W := W) (k := k + 3) (t := t) mo (by omega) (by omega) hW
  obtain ⟨res, qr, sm⟩ := sought_eq (W := W) (k := k + 3) (t := t) mo (by omega) (by omega) hW
  have ad := lq_due la qr
  subst ad
  have q5 := eq_mach (s := s) (g := g) dk
  have nm : eqD (.int 2) (.int 2) = some true := rfl
  cases hr : res.1 with
  | some row =>
    rw [hr] at sm lf
    simp only at sm lf
    obtain ⟨r1, r2, st⟩ := sm
    have rk : ∀ d ∈ row, OkMark d := fun d hd => dk d (r1 d hd)
    have q4 := eq_row rk
    have ln : bltD .len [.tuple [.str (Str.ofString "row"), .list row]] = some (.int 2) := rfl
    have p1 : bltD .isTuple [.tuple [.str (Str.ofString "row"), .list row]] = some (.bool true) := rfl
    have p2 : bltD .isList [.list row] = some (.bool true) := rfl
    have i0 : idxD (.tuple [.str (Str.ofString "row"), .list row]) (.int 0) = some (.str (Str.ofString "row")) := rfl
    have i1 : idxD (.tuple [.str (Str.ofString "row"), .list row]) (.int 1) = some (.list row) := rfl
    have nb : new2B (.tuple [.str (Str.ofString "row"), .list row]) = true := by
      simp [new2B]
      omega
    have sr : eqD (.str (Str.ofString "row")) (.str (Str.ofString "row")) = some true := by simp
    unfold lTail
    generalize Str.ofString "row" = z at st sr ln p1 i0 i1 nb ⊢
    simp [-idxD, -eqD, -bltD, cp, lf, nomutB, LV.mut, st, nb, p1, p2, ln, i0, i1, nm, q5, q4, sr, x_tail2e]
  | none =>
    rw [hr] at sm lf
    simp only at sm lf
    obtain ⟨ks, k1, k2, k3, st⟩ := sm
    have lr := lawrooms_eq (W := W) (k := k + 3) (t := t) mo dl (by omega) hW k1 k2
    have hl : (sortI (ks.map fun r => ((r : Nat) : Int))).length ≤ 10 := by
      rw [(sortI_perm _).length_eq, List.length_map]
      omega
    generalize sortI (ks.map fun r => ((r : Nat) : Int)) = l at *
    have q4 : eqD (.list (l.map .int)) (.list (l.map .int)) = some true := eq_self (lay_ints l)
    have ln : bltD .len [.tuple [.str (Str.ofString "none"), .list (l.map .int)]] = some (.int 2) := rfl
    have p1 : bltD .isTuple [.tuple [.str (Str.ofString "none"), .list (l.map .int)]] = some (.bool true) := rfl
    have p2 : bltD .isList [.list (l.map .int)] = some (.bool true) := rfl
    have i0 : idxD (.tuple [.str (Str.ofString "none"), .list (l.map .int)]) (.int 0) = some (.str (Str.ofString "none")) := rfl
    have i1 : idxD (.tuple [.str (Str.ofString "none"), .list (l.map .int)]) (.int 1) = some (.list (l.map .int)) := rfl
    have nb : new2B (.tuple [.str (Str.ofString "none"), .list (l.map .int)]) = true := by
      simp [new2B]
      omega
    have sr : eqD (.str (Str.ofString "none")) (.str (Str.ofString "none")) = some true := by simp
    have al : ∀ x6, idxD x6 (.int 1) = some (.list (l.map .int)) → ∃ bs, ev (cf W (k + 4)) [some (.scr ns), some .tp, some (.d n0), some (.d (.list ds)), some (.d (mkM ds s g)), some (.d (mkM ds s g)), some (.d .none), some (.d x6), none] (.lc .seq (.idx (.var 7) (.lit (.int 1))) (.nm 8) [8] (.lit (.bool true)) (.and (.blt .isInt (.cons (.var 8) .nil)) (.not (.blt .isBool (.cons (.var 8) .nil))))) t = some (.list bs, t) ∧ bltD .all [.list bs] = some (.bool true) := by
      intro x6 hx
      refine ⟨(l.map PyData.int).map fun _ => .bool true, ev_lcS (k := .seq) (x := .list (l.map .int)) (xs := l.map .int) (t1 := t) (by simp [-idxD, hx]) rfl (by rw [List.length_map]; omega) (lcLoop_map (g := fun _ => .bool true) _ t fun d hd => int_turns rfl d hd), ?_⟩
      show (boolsOf _).map _ = _
      rw [bools_map fun _ => true]
      simp
    obtain ⟨bs, e1, e2⟩ := al (.tuple [.str (Str.ofString "none"), .list (l.map .int)]) i1
    unfold lTail
    generalize Str.ofString "none" = z at st sr ln p1 i0 i1 nb e1 ⊢
    simp [-idxD, -eqD, -bltD, -x_lc, cp, lf, nomutB, LV.mut, st, nb, p1, p2, ln, i0, i1, nm, q5, q4, sr, x_tail2e, lr, e1, e2]
theorem law_eq {ns : List Int} (h : ns.length ≤ 63) (hW : 200 ≤ W) : ∃ t, exs (cf W (k + 4)) W flaw (env0 ns 9) 0 = some (.rt (.bool true) t) := by
  have d0 := draw_eq (W := W) (k := k + 3) (t := 0) (m := 4) h (by omega) (by omega) (by decide)
  generalize drawD ns 0 4 = n0 at d0
  rw [show (0 : Int) + 1 = 1 from rfl] at d0
  have d1 := draw_eq (W := W) (k := k + 3) (t := 1) (m := 4) h (by omega) (by omega) (by decide)
  have a1 := drawD_lo (ns := ns) (t := 1) (m := 4) (by decide)
  have a2 := drawD_hi (ns := ns) (t := 1) (m := 4) (by decide)
  generalize drawD ns 1 4 = n1 at d1 a1 a2
  rw [show (1 : Int) + 1 = 2 from rfl] at d1
  obtain ⟨n, hn⟩ : ∃ n : Nat, 1 + n1 = n := ⟨(1 + n1).toNat, by omega⟩
  obtain ⟨ds, th, dl, dm⟩ := things_eq (W := W) (k := k + 1) (t := 2) (n := n) h (by omega) (by omega) (by omega) (by omega)
  rw [show (2 : Int) + 1 + 1 + 1 = 5 from rfl] at th
  have dk : ∀ d ∈ ds, OkMark d := fun d hd => mk_ok (dm d hd)
  obtain ⟨s, g, t1, mc, mo, ms1, q1, q2⟩ := machine_eq (W := W) (k := k + 2) (ds := ds) (t := 5) h (by omega) (by omega) (by omega)
  refine ⟨t1, ?_⟩
  have tk := fun g mo => tail_ok (W := W) (k := k) hW (ns := ns) (n0 := .int n0) (ds := ds) (s := s) (g := g) (t := t1) dk (by omega) mo ms1
  unfold flaw
  rw [show env0 ns 9 = [some (.scr ns), some .tp, none, none, none, none, none, none, none] from rfl]
  generalize hB : (S.seq (.asg (.nm 5) (.call 5 (.cons (.var 4) .nil))) (.seq (.asg (.nm 6) (.call 7 (.cons (.var 5) .nil))) lTail)) = B at tk ⊢
  have m0 : idxD (mkM ds s g) (.int 0) = some (.tuple ds) := rfl
  have m1 : idxD (mkM ds s g) (.int 1) = some (stepsD s) := rfl
  by_cases e : n0 = 1
  · subst e
    have mo2 : MachOK ds.length s (s.map fun _ => false) := ⟨mo.pos, by rw [List.length_map], mo.row, mo.lt⟩
    have tk2 := tk _ mo2
    have lc := lcLoop_map (f := lcF (cf W (k + 4)) [some (.scr ns), some .tp, some (.d (.int 1)), some (.d (.list ds)), some (.d (mkM ds s g)), none, none, none, none] [8] (.nm 8) (.lit (.bool true)) (.lit (.bool false))) (g := fun _ => .bool false) (s.map rowD) t1 fun d hd => by simp
    have el := ev_lcS (C := cf W (k + 4)) (k := .seq) (x := stepsD s) (xs := s.map rowD) (it := .idx (.var 4) (.lit (.int 1))) (t := t1) (t1 := t1) (by simp [-idxD, m1]) rfl (by rw [List.length_map]; omega) lc
    have eg : PyData.list ((s.map rowD).map fun _ => PyData.bool false) = goodD (s.map fun _ => false) := by
      unfold goodD
      rw [List.map_map, List.map_map]
      rfl
    rw [eg] at el
    have em : PyData.tuple [.tuple ds, stepsD s, goodD (s.map fun _ => false)] = mkM ds s (s.map fun _ => false) := rfl
    simp [-idxD, -x_lc, d0, d1, hn, th, mc, m0, m1, el, em, tk2]
  · have tk1 := tk _ mo
    have e2 : (n0 == 1) = false := by simpa using e
    simp [-idxD, -x_lc, d0, d1, hn, th, mc, e2, tk1]
end
end Lw

open PySem PySem.W PyProof.Rows
set_option Elab.async false
set_option maxRecDepth 100000
set_option maxHeartbeats 0 in
theorem PySem.Challenge.cw_placesay_k06_sought_holds : PySem.Challenge.rw_placesay_k06_sought.Holds := by
  w_on; o_law; k_head; (case hw => w_witness2)
  k_fill
  refine L2.walk_of (l := PySem.Challenge.rw_placesay_k06_sought) (n := 63) (k := 61) (x := "_law_script") (CX := fun _ => L2.CX0) (sp := fun w => Pl.spLaw _) rfl (by decide) rfl ⟨rfl, by decide, by decide⟩ (fun w h Y => PySem.W.kIn_of Y) ?F (fun _ _ a ns hl _ hS => ⟨a, ns, rfl, hS, hl, fun _ => rfl⟩) (fun _ _ _ _ _ h => h)
  case F =>
    intro w mg fa h KX G hmg
    refine' Lw.all_mk (W := 1000) (k := 60) KX G hmg ?a0 ?l0 ?c0 ?k0 ?a1 ?l1 ?c1 ?k1 ?a2 ?l2 ?c2 ?k2 ?a3 ?l3 ?c3 ?k3 ?a4 ?l4 ?c4 ?k4 ?a5 ?l5 ?c5 ?k5 ?a6 ?l6 ?c6 ?k6 ?a7 ?l7 ?c7 ?k7 ?a8 ?l8 ?c8 ?k8 ?a9 ?l9 ?c9 ?k9 ?z_all ?z_bool ?z_int ?z_isinstance ?z_len ?z_list ?z_min ?z_range ?z_set ?z_sorted ?z_tuple ?hN ?he
    (case a0 => k_is)
    (case l0 => k_is)
    (case c0 => k_is)
    (case k0 => k_is)
    (case a1 => k_is)
    (case l1 => k_is)
    (case c1 => k_is)
    (case k1 => k_is)
    (case a2 => k_is)
    (case l2 => k_is)
    (case c2 => k_is)
    (case k2 => k_is)
    (case a3 => k_is)
    (case l3 => k_is)
    (case c3 => k_is)
    (case k3 => k_is)
    (case a4 => k_is)
    (case l4 => k_is)
    (case c4 => k_is)
    (case k4 => k_is)
    (case a5 => k_is)
    (case l5 => k_is)
    (case c5 => k_is)
    (case k5 => k_is)
    (case a6 => k_is)
    (case l6 => k_is)
    (case c6 => k_is)
    (case k6 => k_is)
    (case a7 => k_is)
    (case l7 => k_is)
    (case c7 => k_is)
    (case k7 => k_is)
    (case a8 => k_is)
    (case l8 => k_is)
    (case c8 => k_is)
    (case k8 => k_is)
    (case a9 => k_is)
    (case l9 => k_is)
    (case c9 => k_is)
    (case k9 => k_is)
    (case z_all => k_is)
    (case z_bool => k_is)
    (case z_int => k_is)
    (case z_isinstance => k_is)
    (case z_len => k_is)
    (case z_list => k_is)
    (case z_min => k_is)
    (case z_range => k_is)
    (case z_set => k_is)
    (case z_sorted => k_is)
    (case z_tuple => k_is)
    (case hN => exact fun base fa fd hk hg Z => Lw.nwsought (k := 59) Z)
    (case he => exact fun ns h => Lw.law_eq (k := 56) h (by omega))

