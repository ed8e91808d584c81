import PyProof.Rows.All
import HandS.ForMost
import HandS.Deep
import HandS.TupAny
import HandS.Walk
import HandS.Wide
import HandS.Rev
import HandS.RevRange
import HandS.Nested
import HandS.NestedK
import HandS.IsInst
import HandS.SortInts
import PyProof.ListStr
import PyProof.StrBlock2
import PyProof.SeqIndex
import HandS.Strs
import HandS.Dict
import HandS.More
import HandS.WordsDict
import HandS.SetFor
import HandS.Conv
import PySem.Challenge.RW_placesay_k09_true_by_trying
import PyProof.Rows.StrJoinRep
set_option Elab.async false
set_option linter.all false
set_option maxRecDepth 100000
/-! Pl: an evaluator over plain data for a small language of terms, and its soundness over the hand layer: the values, what stands where. -/
namespace Pl
open PySem PySem.Spec PyProof.Rows L2

/-! ### plain data at values -/
mutual
inductive Rp (Hf : Hp) : V → PyData → Prop
  | non : Rp Hf .non .none
  | bl (b : Bool) : Rp Hf (.bl b) (.bool b)
  | int (i : Int) : Rp Hf (.int i) (.int i)
  | str (x : Str) : Rp Hf (.str x) (.str x)
  | lst {a : Addr} {xs : List V} {ds : List PyData} : Hf a = some (.lst xs) → RpAll Hf xs ds → Rp Hf (.ref a) (.list ds)
  | tup {a : Addr} {o : Obj} {xs : List V} {ds : List PyData} : Hf a = some (.frz o (.tup xs)) → o.dict = none → RpAll Hf xs ds → Rp Hf (.ref a) (.tuple ds)
inductive RpAll (Hf : Hp) : List V → List PyData → Prop
  | nil : RpAll Hf [] []
  | cons {v : V} {vs : List V} {d : PyData} {ds : List PyData} : Rp Hf v d → RpAll Hf vs ds → RpAll Hf (v :: vs) (d :: ds)
end
def Ex (H H' : Hp) : Prop := ∀ a o, H a = some o → H' a = some o
theorem Ex.refl (H : Hp) : Ex H H := fun _ _ h => h
theorem Ex.trans {H H1 H2 : Hp} (a : Ex H H1) (b : Ex H1 H2) : Ex H H2 := fun x o h => b x o (a x o h)
theorem Ex.new {H : Hp} {p : Addr} {o : HO} (h : H p = none) : Ex H (upd H p o) := fun a u e => by
  rw [upd_ne (ne_of_none e h)]
  exact e
mutual
theorem Rp.mono {H H' : Hp} (e : Ex H H') : ∀ (d : PyData) (v : V), Rp H v d → Rp H' v d
  | .none, _, .non => .non
  | .bool b, _, .bl _ => .bl b
  | .int i, _, .int _ => .int i
  | .str x, _, .str _ => .str x
  | .list ds, _, .lst h hs => .lst (e _ _ h) (RpAll.mono e ds _ hs)
  | .tuple ds, _, .tup h hd hs => .tup (e _ _ h) hd (RpAll.mono e ds _ hs)
theorem RpAll.mono {H H' : Hp} (e : Ex H H') : ∀ (ds : List PyData) (vs : List V), RpAll H vs ds → RpAll H' vs ds
  | [], _, .nil => .nil
  | d :: ds, _, .cons h hs => .cons (Rp.mono e d _ h) (RpAll.mono e ds _ hs)
end
mutual
theorem Rp.dp {K : PySem.W.Frag} {H : Hp} : ∀ (d : PyData) (v : V), Rp H v d → Dp K H v d
  | .none, _, .non => .non
  | .bool b, _, .bl _ => .bl b
  | .int i, _, .int _ => .int i
  | .str x, _, .str _ => .str x
  | .list ds, _, .lst h hs => .lst (SqL.of h) (RpAll.dp ds _ hs)
  | .tuple ds, _, .tup h _ hs => .tup (.inl (.inr ⟨_, h⟩)) (RpAll.dp ds _ hs)
theorem RpAll.dp {K : PySem.W.Frag} {H : Hp} : ∀ (ds : List PyData) (vs : List V), RpAll H vs ds → DpAll K H vs ds
  | [], _, .nil => .nil
  | d :: ds, _, .cons h hs => .cons (Rp.dp d _ h) (RpAll.dp ds _ hs)
end
theorem RpAll.len {H : Hp} : ∀ {ds : List PyData} {vs : List V}, RpAll H vs ds → vs.length = ds.length
  | [], _, .nil => rfl
  | _ :: _, _, .cons _ hs => by rw [List.length_cons, List.length_cons, hs.len]
theorem RpAll.append {H : Hp} : ∀ {ds es : List PyData} {vs ws : List V}, RpAll H vs ds → RpAll H ws es → RpAll H (vs ++ ws) (ds ++ es)
  | [], _, _, _, .nil, h => h
  | _ :: _, _, _, _, .cons h hs, k => .cons h (hs.append k)
theorem RpAll.get {H : Hp} : ∀ {ds : List PyData} {vs : List V} {i : Nat} {d : PyData}, RpAll H vs ds → ds[i]? = some d → ∃ v, vs[i]? = some v ∧ Rp H v d
  | [], _, i, _, .nil, e => by simp at e
  | _ :: _, _, 0, d, .cons h _, e => by
    simp at e
    subst e
    exact ⟨_, rfl, h⟩
  | _ :: _, _, i + 1, d, .cons _ hs, e => by
    obtain ⟨v, h1, h2⟩ := hs.get (i := i) (d := d) (by simpa using e)
    exact ⟨v, by simpa using h1, h2⟩
theorem RpAll.getV {H : Hp} {ds : List PyData} {vs : List V} {i : Nat} {v : V} (h : RpAll H vs ds) (e : vs[i]? = some v) : ∃ d, ds[i]? = some d ∧ Rp H v d := by
  have hl := h.len
  have hi : i < vs.length := (List.getElem?_eq_some_iff.mp e).1
  have hd : ds[i]? = some (ds[i]'(by omega)) := List.getElem?_eq_getElem _
  obtain ⟨v', e', r⟩ := h.get hd
  rw [e] at e'
  cases e'
  exact ⟨_, hd, r⟩
theorem RpAll.take {H : Hp} : ∀ {ds : List PyData} {vs : List V} (n : Nat), RpAll H vs ds → RpAll H (vs.take n) (ds.take n)
  | _, _, 0, _ => .nil
  | [], _, n + 1, .nil => .nil
  | _ :: _, _, n + 1, .cons h hs => .cons h (hs.take n)
theorem RpAll.drop {H : Hp} : ∀ {ds : List PyData} {vs : List V} (n : Nat), RpAll H vs ds → RpAll H (vs.drop n) (ds.drop n)
  | _, _, 0, h => h
  | [], _, n + 1, .nil => .nil
  | _ :: _, _, n + 1, .cons _ hs => RpAll.drop n hs
theorem RpAll.set {H : Hp} {v : V} {d : PyData} (r : Rp H v d) : ∀ {ds : List PyData} {vs : List V} (n : Nat), RpAll H vs ds → RpAll H (vs.set n v) (ds.set n d)
  | [], _, n, .nil => .nil
  | _ :: _, _, 0, .cons _ hs => .cons r hs
  | _ :: _, _, n + 1, .cons h hs => .cons h (hs.set r n)

/-! ### what the slots hold -/
/-- a local: data; a list of one's own that may grow; the tape; the script; a dict of one's own -/
inductive LV where
  | d (x : PyData)
  | own (xs : List PyData)
  | tp
  | scr (ns : List Int)
  | dk (n : Bool) (kvs : List (Key × PyData))
  | gd (kvs : List (Key × PyData))
  | dt (kvs : List (List Key × PyData))
def LV.mut : LV → Bool
  | .own _ => true
  | .dk _ _ => true
  | .dt _ => true
  | _ => false
abbrev Env := List (Option LV)
inductive KvAll {κ : Type} (Hf : Hp) : List (κ × V) → List (κ × PyData) → Prop
  | nil : KvAll Hf [] []
  | cons {k : κ} {v : V} {vs : List (κ × V)} {d : PyData} {ds : List (κ × PyData)} : Rp Hf v d → KvAll Hf vs ds → KvAll Hf ((k, v) :: vs) ((k, d) :: ds)
theorem KvAll.mono {κ : Type} {H H' : Hp} (e : Ex H H') : ∀ {ds : List (κ × PyData)} {vs : List (κ × V)}, KvAll H vs ds → KvAll H' vs ds
  | _, _, .nil => .nil
  | _, _, .cons h hs => .cons (Rp.mono e _ _ h) (KvAll.mono e hs)
/-- what this value points to is not in H -/
def NwV (H : Hp) (v : V) : Prop := ∀ r, v = .ref r → H r = none
def LvOK (K : PySem.W.Frag) (T : Addr) (H0 Hf H : Hp) (v : V) : LV → Prop
  | .d x => Rp Hf v x
  | .own xs => ∃ l vs, v = .ref l ∧ Hf l = none ∧ H l = some (.lst vs) ∧ RpAll Hf vs xs
  | .tp => v = .ref T
  | .scr ns => ∃ l, v = .ref l ∧ SqL K Hf l (ns.map V.int)
  | .dk n kvs => ∃ l vs, v = .ref l ∧ Hf l = none ∧ H l = some (.dK vs) ∧ KvAll Hf vs kvs ∧ (n = true → ∀ p ∈ vs, NwV H0 p.2)
  | .gd kvs => ∃ l vs, v = .ref l ∧ Hf l = some (.dK vs) ∧ KvAll Hf vs kvs
  | .dt kvs => ∃ l vs, v = .ref l ∧ Hf l = none ∧ H l = some (.dT vs) ∧ KvAll Hf vs kvs
/-- from (Hf, H) to (Hf', H'): all that was tracked but the tape is as it was; what was not frozen is not -/
structure Kp (T : Addr) (Hf H Hf' H' : Hp) : Prop where
  ex : Ex Hf Hf'
  same : ∀ b o, b ≠ T → H b = some o → H' b = some o
  away : ∀ b o, H b = some o → Hf b = none → Hf' b = none
  tt : H T ≠ none → H' T ≠ none
theorem Kp.refl (T : Addr) (Hf H : Hp) : Kp T Hf H Hf H := ⟨Ex.refl _, fun _ _ _ h => h, fun _ _ _ h => h, id⟩
theorem Kp.trans {T : Addr} {Hf H Hf1 H1 Hf2 H2 : Hp} (a : Kp T Hf H Hf1 H1) (b : Kp T Hf1 H1 Hf2 H2) : Kp T Hf H Hf2 H2 where
  ex := a.ex.trans b.ex
  same := fun c o n h => b.same c o n (a.same c o n h)
  away := fun c o h hn => by
    have h1 := a.away c o h hn
    by_cases e : c = T
    · subst e
      have q : H1 c ≠ none := a.tt (by rw [h]; simp)
      cases e : H1 c with
      | none => exact absurd e q
      | some o' => exact b.away c o' e h1
    · exact b.away c o (a.same c o e h) h1
  tt := fun h => b.tt (a.tt h)
theorem Kp.free {T : Addr} {Hf H Hf' H' : Hp} (k : Kp T Hf H Hf' H') {p : Addr} (h : H' p = none) : H p = none := by
  cases e : H p with
  | none => rfl
  | some o =>
    by_cases hp : p = T
    · subst hp
      exact absurd h (k.tt (by rw [e]; simp))
    · rw [k.same p o hp e] at h
      cases h
theorem Kp.new {T : Addr} {Hf H : Hp} {p : Addr} {o : HO} (ex : Ex Hf H) (h : H p = none) : Kp T Hf H (upd Hf p o) (upd H p o) where
  ex := Ex.new (by
    cases e : Hf p with
    | none => rfl
    | some u =>
      rw [ex p u e] at h
      cases h)
  same := fun b u _ e => by
    rw [upd_ne (ne_of_none e h)]
    exact e
  away := fun b u e n => by
    rw [upd_ne (ne_of_none e h)]
    exact n
  tt := fun ht => by
    cases e : H T with
    | none => exact absurd e ht
    | some u =>
      rw [upd_ne (ne_of_none e h), e]
      simp
/-- the state of a def's run: H0, Hf0 at its entry -/
structure Abs (K : PySem.W.Frag) (T : Addr) (H0 Hf0 : Hp) (Hf : Hp) (env : Env) (t : Int) (σ : L2.St) (H : Hp) : Prop where
  ex : Ex Hf H
  kp : Kp T Hf0 H0 Hf H
  len : σ.length = env.length
  loc : ∀ (i : Nat) (lv : LV), env[i]? = some (some lv) → ∃ v, σ[i]? = some (some v) ∧ LvOK K T H0 Hf H v lv
  new : ∀ (i : Nat) (lv : LV) (a : Addr), env[i]? = some (some lv) → lv.mut = true → σ[i]? = some (some (.ref a)) → H0 a = none
  sep : ∀ (i j : Nat) (lv lv' : LV) (a : Addr), i ≠ j → env[i]? = some (some lv) → lv.mut = true → env[j]? = some (some lv') → lv'.mut = true → σ[i]? = some (some (.ref a)) → σ[j]? = some (some (.ref a)) → False
  tf : Hf T = none
  th : H T = some (.lst [.int t])
  t0 : H0 T ≠ none
section
variable {K : PySem.W.Frag} {T : Addr} {H0 Hf0 Hf Hf' : Hp} {env : Env} {t t' : Int} {σ : L2.St} {H H' : Hp}
theorem LvOK.kp {v : V} (k : Kp T Hf H Hf' H') (tf : Hf T = none) (th : H T ≠ none) : ∀ {lv : LV}, (lv.mut = true → v ≠ .ref T) → LvOK K T H0 Hf H v lv → LvOK K T H0 Hf' H' v lv
  | .d x, _, h => Rp.mono k.ex _ _ h
  | .own xs, hm, ⟨l, vs, e, a, b, c⟩ => ⟨l, vs, e, k.away l _ b a, k.same l _ (fun z => hm rfl (by rw [e, z])) b, RpAll.mono k.ex _ _ c⟩
  | .tp, _, h => h
  | .scr ns, _, ⟨l, e, h⟩ => ⟨l, e, Same.seq k.ex h⟩
  | .dk n kvs, hm, ⟨l, vs, e, a, b, c, d⟩ => ⟨l, vs, e, k.away l _ b a, k.same l _ (fun z => hm rfl (by rw [e, z])) b, KvAll.mono k.ex c, d⟩
  | .gd kvs, _, ⟨l, vs, e, a, c⟩ => ⟨l, vs, e, k.ex _ _ a, KvAll.mono k.ex c⟩
  | .dt kvs, hm, ⟨l, vs, e, a, b, c⟩ => ⟨l, vs, e, k.away l _ b a, k.same l _ (fun z => hm rfl (by rw [e, z])) b, KvAll.mono k.ex c⟩
theorem Abs.mutT (A : Abs K T H0 Hf0 Hf env t σ H) {i : Nat} {lv : LV} {v : V} (h : env[i]? = some (some lv)) (hv : σ[i]? = some (some v)) (hm : lv.mut = true) : v ≠ .ref T := fun e => by
  subst e
  exact A.t0 (A.new i lv T h hm hv)
/-- the state goes on where nothing but the tape and new things changed -/
theorem Abs.kept (A : Abs K T H0 Hf0 Hf env t σ H) (k : Kp T Hf H Hf' H') (ex : Ex Hf' H') (th : H' T = some (.lst [.int t'])) : Abs K T H0 Hf0 Hf' env t' σ H' where
  ex := ex
  kp := A.kp.trans k
  len := A.len
  loc := fun i lv h => by
    obtain ⟨v, hv, ok⟩ := A.loc i lv h
    exact ⟨v, hv, ok.kp k A.tf (by rw [A.th]; simp) (A.mutT h hv)⟩
  new := A.new
  sep := A.sep
  tf := k.away T _ A.th A.tf
  th := th
  t0 := A.t0
theorem Abs.fresh (A : Abs K T H0 Hf0 Hf env t σ H) {p : Addr} (h : H p = none) : Hf p = none ∧ H0 p = none ∧ p ≠ T := by
  refine ⟨?_, A.kp.free h, fun z => ?_⟩
  · cases e : Hf p with
    | none => rfl
    | some u =>
      rw [A.ex p u e] at h
      cases h
  · subst z
    rw [A.th] at h
    cases h
/-- a new frozen object -/
theorem Abs.newd (A : Abs K T H0 Hf0 Hf env t σ H) {p : Addr} {o : HO} (h : H p = none) : Abs K T H0 Hf0 (upd Hf p o) env t σ (upd H p o) :=
  A.kept (Kp.new A.ex h) (fun a u e => by
    by_cases hp : a = p
    · subst hp
      rw [upd_same] at e ⊢
      exact e
    · rw [upd_ne hp] at e ⊢
      exact A.ex a u e) (by
    rw [upd_ne (fun z => (A.fresh h).2.2 z.symm)]
    exact A.th)
theorem Abs.kpn (A : Abs K T H0 Hf0 Hf env t σ H) {p : Addr} {o : HO} (h : H p = none) : Kp T Hf H (upd Hf p o) (upd H p o) := Kp.new A.ex h
/-- a slot is stored: data -/
theorem Abs.set (A : Abs K T H0 Hf0 Hf env t σ H) {i : Nat} {x : PyData} {v : V} (r : Rp Hf v x) : Abs K T H0 Hf0 Hf (env.set i (some (.d x))) t (σ.set i (some v)) H where
  ex := A.ex
  kp := A.kp
  len := by rw [List.length_set, List.length_set]; exact A.len
  loc := fun j lv h => by
    by_cases e : i = j
    · subst e
      have hi : i < env.length := by
        have := (List.getElem?_eq_some_iff.mp h).1
        rw [List.length_set] at this
        exact this
      rw [List.getElem?_set_self hi] at h
      cases h
      exact ⟨v, List.getElem?_set_self (by rw [A.len]; exact hi), r⟩
    · rw [List.getElem?_set_ne e] at h
      rw [List.getElem?_set_ne e]
      exact A.loc j lv h
  new := fun j lv a h hm hs => by
    by_cases e : i = j
    · subst e
      have hi : i < env.length := by
        have := (List.getElem?_eq_some_iff.mp h).1
        rw [List.length_set] at this
        exact this
      rw [List.getElem?_set_self hi] at h
      cases h
      cases hm
    · rw [List.getElem?_set_ne e] at h hs
      exact A.new j lv a h hm hs
  sep := fun j k lv lv' a n hj mj hk mk sj sk => by
    have q : ∀ {m : Nat} {l : LV}, (env.set i (some (LV.d x)))[m]? = some (some l) → l.mut = true → i ≠ m := fun {m l} h hm e => by
      subst e
      have hi : i < env.length := by
        have := (List.getElem?_eq_some_iff.mp h).1
        rw [List.length_set] at this
        exact this
      rw [List.getElem?_set_self hi] at h
      cases h
      cases hm
    have ej := q hj mj
    have ek := q hk mk
    rw [List.getElem?_set_ne ej] at hj sj
    rw [List.getElem?_set_ne ek] at hk sk
    exact A.sep j k lv lv' a n hj mj hk mk sj sk
  tf := A.tf
  th := A.th
  t0 := A.t0
/-- a slot is forgotten -/
theorem Abs.unset (A : Abs K T H0 Hf0 Hf env t σ H) {i : Nat} : Abs K T H0 Hf0 Hf (env.set i none) t (σ.set i none) H where
  ex := A.ex
  kp := A.kp
  len := by rw [List.length_set, List.length_set]; exact A.len
  loc := fun j lv h => by
    have e : i ≠ j := fun e => by
      subst e
      have hi : i < env.length := by
        have := (List.getElem?_eq_some_iff.mp h).1
        rw [List.length_set] at this
        exact this
      rw [List.getElem?_set_self hi] at h
      cases h
    rw [List.getElem?_set_ne e] at h
    rw [List.getElem?_set_ne e]
    exact A.loc j lv h
  new := fun j lv a h hm hs => by
    have e : i ≠ j := fun e => by
      subst e
      have hi : i < env.length := by
        have := (List.getElem?_eq_some_iff.mp h).1
        rw [List.length_set] at this
        exact this
      rw [List.getElem?_set_self hi] at h
      cases h
    rw [List.getElem?_set_ne e] at h hs
    exact A.new j lv a h hm hs
  sep := fun j k lv lv' a n hj mj hk mk sj sk => by
    have q : ∀ {m : Nat} {l : LV}, (env.set i none)[m]? = some (some l) → i ≠ m := fun {m l} h e => by
      subst e
      have hi : i < env.length := by
        have := (List.getElem?_eq_some_iff.mp h).1
        rw [List.length_set] at this
        exact this
      rw [List.getElem?_set_self hi] at h
      cases h
    have ej := q hj
    have ek := q hk
    rw [List.getElem?_set_ne ej] at hj sj
    rw [List.getElem?_set_ne ek] at hk sk
    exact A.sep j k lv lv' a n hj mj hk mk sj sk
  tf := A.tf
  th := A.th
  t0 := A.t0
@[simp] def wipeE (env : Env) : List Nat → Env
  | [] => env
  | v :: vs => (wipeE env vs).set v none
theorem Abs.wipe (A : Abs K T H0 Hf0 Hf env t σ H) : ∀ vs : List Nat, Abs K T H0 Hf0 Hf (wipeE env vs) t (wipe σ vs) H
  | [] => A
  | v :: vs => (A.wipe vs).unset
/-- a slot is stored: a new mutable thing at p -/
theorem Abs.setM (A : Abs K T H0 Hf0 Hf env t σ H) {i : Nat} {p : Addr} {o : HO} {lv : LV} (hp : H p = none) (hm : lv.mut = true) (ok : LvOK K T H0 Hf (upd H p o) (.ref p) lv) : Abs K T H0 Hf0 Hf (env.set i (some lv)) t (σ.set i (some (.ref p))) (upd H p o) := by
  obtain ⟨f1, f2, f3⟩ := A.fresh hp
  have kk : Kp T Hf H Hf (upd H p o) := ⟨Ex.refl _, fun b u _ e => by rw [upd_ne (ne_of_none e hp)]; exact e, fun _ _ _ h => h, fun ht => by
    rw [upd_ne f3.symm]
    exact ht⟩
  have B : Abs K T H0 Hf0 Hf env t σ (upd H p o) := A.kept kk (fun a u e => by rw [upd_ne (ne_of_none e f1)]; exact A.ex a u e) (by rw [upd_ne f3.symm]; exact A.th)
  have nop : ∀ {j : Nat} {l : LV} {a : Addr}, env[j]? = some (some l) → l.mut = true → σ[j]? = some (some (.ref a)) → a ≠ p := fun {j l a} h hm hs e => by
    subst e
    obtain ⟨v, hv, ok⟩ := A.loc j l h
    rw [hs] at hv
    cases hv
    cases l with
    | own xs =>
      obtain ⟨l, vs, e, _, b, _⟩ := ok
      cases e
      rw [hp] at b
      cases b
    | dk xs =>
      obtain ⟨l, vs, e, _, b, _⟩ := ok
      cases e
      rw [hp] at b
      cases b
    | dt xs =>
      obtain ⟨l, vs, e, _, b, _⟩ := ok
      cases e
      rw [hp] at b
      cases b
    | _ => cases hm
  refine ⟨B.ex, B.kp, by rw [List.length_set, List.length_set]; exact A.len, fun j l h => ?_, fun j l a h hm' hs => ?_, fun j k l l' a n hj mj hk mk sj sk => ?_, B.tf, B.th, B.t0⟩
  · by_cases e : i = j
    · subst e
      have hi : i < env.length := by
        have := (List.getElem?_eq_some_iff.mp h).1
        rw [List.length_set] at this
        exact this
      rw [List.getElem?_set_self hi] at h
      cases h
      exact ⟨_, List.getElem?_set_self (by rw [A.len]; exact hi), ok⟩
    · rw [List.getElem?_set_ne e] at h
      rw [List.getElem?_set_ne e]
      exact B.loc j l h
  · by_cases e : i = j
    · subst e
      have hi : i < σ.length := by
        have := (List.getElem?_eq_some_iff.mp hs).1
        rw [List.length_set] at this
        exact this
      rw [List.getElem?_set_self hi] at hs
      cases hs
      exact f2
    · rw [List.getElem?_set_ne e] at h hs
      exact A.new j l a h hm' hs
  · have q : ∀ {m : Nat} {b : Addr}, i = m → (σ.set i (some (V.ref p)))[m]? = some (some (.ref b)) → b = p := fun {m b} e hs => by
      subst e
      have hi : i < σ.length := by
        have := (List.getElem?_eq_some_iff.mp hs).1
        rw [List.length_set] at this
        exact this
      rw [List.getElem?_set_self hi] at hs
      cases hs
      rfl
    by_cases ej : i = j
    · have ea := q ej sj
      subst ea
      have ek : i ≠ k := fun z => n (ej.symm.trans z)
      rw [List.getElem?_set_ne ek] at hk sk
      exact nop hk mk sk rfl
    · rw [List.getElem?_set_ne ej] at hj sj
      by_cases ek : i = k
      · have ea := q ek sk
        subst ea
        exact nop hj mj sj rfl
      · rw [List.getElem?_set_ne ek] at hk sk
        exact A.sep j k l l' a n hj mj hk mk sj sk
/-- a mutable thing of one's own is written -/
theorem Abs.write (A : Abs K T H0 Hf0 Hf env t σ H) {i : Nat} {p : Addr} {o : HO} {lv lv' : LV} (he : env[i]? = some (some lv)) (hm : lv.mut = true) (hs : σ[i]? = some (some (.ref p))) (hf : Hf p = none) (hm' : lv'.mut = true) (ok : LvOK K T H0 Hf (upd H p o) (.ref p) lv') :
    Abs K T H0 Hf0 Hf (env.set i (some lv')) t σ (upd H p o) := by
  have f2 : H0 p = none := A.new i lv p he hm hs
  have f3 : p ≠ T := fun z => A.t0 (by rw [← z]; exact f2)
  have hi : i < env.length := (List.getElem?_eq_some_iff.mp he).1
  refine ⟨fun a u e => by rw [upd_ne (ne_of_none e hf)]; exact A.ex a u e, ⟨A.kp.ex, fun b u n e => by rw [upd_ne (ne_of_none e f2)]; exact A.kp.same b u n e, A.kp.away, fun h => by rw [upd_ne f3.symm]; exact A.kp.tt h⟩, by rw [List.length_set]; exact A.len, fun j l h => ?_, fun j l a h hm2 hs2 => ?_, fun j k l l' a n hj mj hk mk sj sk => ?_, A.tf, by rw [upd_ne f3.symm]; exact A.th, A.t0⟩
  · by_cases e : i = j
    · subst e
      rw [List.getElem?_set_self hi] at h
      cases h
      exact ⟨_, hs, ok⟩
    · rw [List.getElem?_set_ne e] at h
      obtain ⟨v, hv, okv⟩ := A.loc j l h
      refine ⟨v, hv, ?_⟩
      have nep : l.mut = true → v ≠ .ref p := fun ml z => by
        subst z
        exact A.sep i j lv l p e he hm h ml hs hv
      cases l with
      | d x => exact okv
      | tp => exact okv
      | scr ns => exact okv
      | own xs =>
        obtain ⟨q, vs, e1, e2, e3, e4⟩ := okv
        exact ⟨q, vs, e1, e2, by rw [upd_ne (fun z => nep rfl (by rw [e1, z]))]; exact e3, e4⟩
      | dk n xs =>
        obtain ⟨q, vs, e1, e2, e3, e4⟩ := okv
        exact ⟨q, vs, e1, e2, by rw [upd_ne (fun z => nep rfl (by rw [e1, z]))]; exact e3, e4⟩
      | gd xs => exact okv
      | dt xs =>
        obtain ⟨q, vs, e1, e2, e3, e4⟩ := okv
        exact ⟨q, vs, e1, e2, by rw [upd_ne (fun z => nep rfl (by rw [e1, z]))]; exact e3, e4⟩
  · by_cases e : i = j
    · subst e
      exact A.new i lv a he hm hs2
    · rw [List.getElem?_set_ne e] at h
      exact A.new j l a h hm2 hs2
  · have q : ∀ {m : Nat} {l : LV}, (env.set i (some lv'))[m]? = some (some l) → l.mut = true → ∃ l2, env[m]? = some (some l2) ∧ l2.mut = true := fun {m l} h ml => by
      by_cases e : i = m
      · subst e
        exact ⟨lv, he, hm⟩
      · rw [List.getElem?_set_ne e] at h
        exact ⟨l, h, ml⟩
    obtain ⟨l1, a1, a2⟩ := q hj mj
    obtain ⟨l2, b1, b2⟩ := q hk mk
    exact A.sep j k l1 l2 a n a1 a2 b1 b2 sj sk
/-- a list of one's own is frozen -/
theorem Abs.freeze (A : Abs K T H0 Hf0 Hf env t σ H) {i : Nat} {xs : List PyData} (he : env[i]? = some (some (.own xs))) : ∃ Hf', Ex Hf Hf' ∧ Abs K T H0 Hf0 Hf' (env.set i (some (.d (.list xs)))) t σ H := by
  obtain ⟨v, hv, l, vs, e1, e2, e3, e4⟩ := A.loc i _ he
  subst e1
  have f2 : H0 l = none := A.new i _ l he rfl hv
  have f3 : l ≠ T := fun z => A.t0 (by rw [← z]; exact f2)
  have hi : i < env.length := (List.getElem?_eq_some_iff.mp he).1
  have ex : Ex Hf (upd Hf l (.lst vs)) := Ex.new e2
  refine ⟨upd Hf l (.lst vs), ex, fun a u e => ?_, ⟨A.kp.ex.trans ex, A.kp.same, fun b u h1 h2 => ?_, A.kp.tt⟩, by rw [List.length_set]; exact A.len, fun j lv h => ?_, fun j lv a h hm hs => ?_, fun j k lv lv' a n hj mj hk mk sj sk => ?_, by rw [upd_ne f3.symm]; exact A.tf, A.th, A.t0⟩
  · by_cases hp : a = l
    · subst hp
      rw [upd_same] at e
      cases e
      exact e3
    · rw [upd_ne hp] at e
      exact A.ex a u e
  · rw [upd_ne (ne_of_none h1 f2)]
    exact A.kp.away b u h1 h2
  · by_cases e : i = j
    · subst e
      rw [List.getElem?_set_self hi] at h
      cases h
      exact ⟨_, hv, .lst upd_same (RpAll.mono ex _ _ e4)⟩
    · rw [List.getElem?_set_ne e] at h
      obtain ⟨v, hv2, ok⟩ := A.loc j lv h
      refine ⟨v, hv2, ?_⟩
      have nep : lv.mut = true → v ≠ .ref l := fun ml z => by
        subst z
        exact A.sep i j _ lv l e he rfl h ml hv hv2
      cases lv with
      | d x => exact Rp.mono ex _ _ ok
      | tp => exact ok
      | scr ns =>
        obtain ⟨q, e1, h⟩ := ok
        exact ⟨q, e1, Same.seq ex h⟩
      | own xs =>
        obtain ⟨q, vs, e1, e2, e3, e4⟩ := ok
        exact ⟨q, vs, e1, by rw [upd_ne (fun z => nep rfl (by rw [e1, z]))]; exact e2, e3, RpAll.mono ex _ _ e4⟩
      | dk n xs =>
        obtain ⟨q, vs, e1, e2, e3, e4, e5⟩ := ok
        exact ⟨q, vs, e1, by rw [upd_ne (fun z => nep rfl (by rw [e1, z]))]; exact e2, e3, KvAll.mono ex e4, e5⟩
      | gd xs =>
        obtain ⟨q, vs, e1, e2, e3⟩ := ok
        exact ⟨q, vs, e1, ex _ _ e2, KvAll.mono ex e3⟩
      | dt xs =>
        obtain ⟨q, vs, e1, e2, e3, e4⟩ := ok
        exact ⟨q, vs, e1, by rw [upd_ne (fun z => nep rfl (by rw [e1, z]))]; exact e2, e3, KvAll.mono ex e4⟩
  · have e : i ≠ j := fun e => by
      subst e
      rw [List.getElem?_set_self hi] at h
      cases h
      cases hm
    rw [List.getElem?_set_ne e] at h
    exact A.new j lv a h hm hs
  · have q : ∀ {m : Nat} {l : LV}, (env.set i (some (LV.d (.list xs))))[m]? = some (some l) → l.mut = true → i ≠ m := fun {m l} h hm e => by
      subst e
      rw [List.getElem?_set_self hi] at h
      cases h
      cases hm
    have ej := q hj mj
    have ek := q hk mk
    rw [List.getElem?_set_ne ej] at hj
    rw [List.getElem?_set_ne ek] at hk
    exact A.sep j k lv lv' a n hj mj hk mk sj sk
/-- a dict of one's own is frozen -/
theorem Abs.freezeD (A : Abs K T H0 Hf0 Hf env t σ H) {i : Nat} {n : Bool} {xs : List (Key × PyData)} (he : env[i]? = some (some (.dk n xs))) : ∃ Hf', Ex Hf Hf' ∧ Abs K T H0 Hf0 Hf' (env.set i (some (.gd xs))) t σ H := by
  obtain ⟨v, hv, l, vs, e1, e2, e3, e4, _⟩ := A.loc i _ he
  subst e1
  have f2 : H0 l = none := A.new i _ l he rfl hv
  have f3 : l ≠ T := fun z => A.t0 (by rw [← z]; exact f2)
  have hi : i < env.length := (List.getElem?_eq_some_iff.mp he).1
  have ex : Ex Hf (upd Hf l (.dK vs)) := Ex.new e2
  refine ⟨upd Hf l (.dK vs), ex, fun a u e => ?_, ⟨A.kp.ex.trans ex, A.kp.same, fun b u h1 h2 => ?_, A.kp.tt⟩, by rw [List.length_set]; exact A.len, fun j lv h => ?_, fun j lv a h hm hs => ?_, fun j k lv lv' a n hj mj hk mk sj sk => ?_, by rw [upd_ne f3.symm]; exact A.tf, A.th, A.t0⟩
  · by_cases hp : a = l
    · subst hp
      rw [upd_same] at e
      cases e
      exact e3
    · rw [upd_ne hp] at e
      exact A.ex a u e
  · rw [upd_ne (ne_of_none h1 f2)]
    exact A.kp.away b u h1 h2
  · by_cases e : i = j
    · subst e
      rw [List.getElem?_set_self hi] at h
      cases h
      exact ⟨_, hv, l, vs, rfl, upd_same, KvAll.mono ex e4⟩
    · rw [List.getElem?_set_ne e] at h
      obtain ⟨v, hv2, ok⟩ := A.loc j lv h
      refine ⟨v, hv2, ?_⟩
      have nep : lv.mut = true → v ≠ .ref l := fun ml z => by
        subst z
        exact A.sep i j _ lv l e he rfl h ml hv hv2
      cases lv with
      | d x => exact Rp.mono ex _ _ ok
      | tp => exact ok
      | scr ns =>
        obtain ⟨q, e1, h⟩ := ok
        exact ⟨q, e1, Same.seq ex h⟩
      | own xs =>
        obtain ⟨q, vs, e1, e2, e3, e4⟩ := ok
        exact ⟨q, vs, e1, by rw [upd_ne (fun z => nep rfl (by rw [e1, z]))]; exact e2, e3, RpAll.mono ex _ _ e4⟩
      | dk n xs =>
        obtain ⟨q, vs, e1, e2, e3, e4, e5⟩ := ok
        exact ⟨q, vs, e1, by rw [upd_ne (fun z => nep rfl (by rw [e1, z]))]; exact e2, e3, KvAll.mono ex e4, e5⟩
      | gd xs =>
        obtain ⟨q, vs, e1, e2, e3⟩ := ok
        exact ⟨q, vs, e1, ex _ _ e2, KvAll.mono ex e3⟩
      | dt xs =>
        obtain ⟨q, vs, e1, e2, e3, e4⟩ := ok
        exact ⟨q, vs, e1, by rw [upd_ne (fun z => nep rfl (by rw [e1, z]))]; exact e2, e3, KvAll.mono ex e4⟩
  · have e : i ≠ j := fun e => by
      subst e
      rw [List.getElem?_set_self hi] at h
      cases h
      cases hm
    rw [List.getElem?_set_ne e] at h
    exact A.new j lv a h hm hs
  · have q : ∀ {m : Nat} {l : LV}, (env.set i (some (LV.gd xs)))[m]? = some (some l) → l.mut = true → i ≠ m := fun {m l} h hm e => by
      subst e
      rw [List.getElem?_set_self hi] at h
      cases h
      cases hm
    have ej := q hj mj
    have ek := q hk mk
    rw [List.getElem?_set_ne ej] at hj
    rw [List.getElem?_set_ne ek] at hk
    exact A.sep j k lv lv' a n hj mj hk mk sj sk
/-- the tape is written -/
theorem Abs.tape (A : Abs K T H0 Hf0 Hf env t σ H) : Abs K T H0 Hf0 Hf env t' σ (upd H T (.lst [.int t'])) ∧ Kp T Hf H Hf (upd H T (.lst [.int t'])) := by
  have k : Kp T Hf H Hf (upd H T (.lst [.int t'])) := ⟨Ex.refl _, fun b u n e => by rw [upd_ne n]; exact e, fun _ _ _ h => h, fun _ => by rw [upd_same]; simp⟩
  exact ⟨A.kept k (fun a u e => by rw [upd_ne (ne_of_none e A.tf)]; exact A.ex a u e) upd_same, k⟩
end
end Pl

set_option Elab.async false
set_option linter.all false
set_option maxRecDepth 100000
/-! Pl: the small language of terms, and what they reckon. -/
namespace Pl
open PySem PySem.Spec PyProof.Rows L2

/-! ### the terms -/
inductive Op2 where
  | add | sub | mul | mod | fdiv
inductive Cm where
  | eq | ne | lt | le | gt | ge | isin | notin
inductive Bl where
  | len | int | list | tuple | min | max | any | all | sorted | isStr | isInt | isBool | isTuple | isList
inductive IK where
  | seq | range | rev | revr
inductive Tg where
  | nm (i : Nat)
  | tp (is : List Nat)
inductive M where
  | var (i : Nat)
  | bor (i : Nat)
  | tape (i : Nat)
  | lit (d : PyData)
  | bin (o : Op2) (a b : M)
  | cmp (o : Cm) (a b : M)
  | isN (neg : Bool) (a : M)
  | and (a b : M)
  | or (a b : M)
  | not (a : M)
  | neg (a : M)
  | ite (c a b : M)
  | idx (a b : M)
  | slc (a lo hi : M)
  | part (a : M)
  | nil
  | cons (a b : M)
  | tup (l : M)
  | lst (l : M)
  | call (f : Nat) (l : M)
  | blt (b : Bl) (l : M)
  | index (o a : M)
  | join (o a : M)
  | edict
  | lrange (a : M)
  | dsorted (i : Nat)
  | sset (a : M)
  | dlen (i : Nat)
  | din (neg : Bool) (i : Nat) (k : M)
  | dget (i : Nat) (k : M)
  | lc (k : IK) (it : M) (tg : Tg) (vs : List Nat) (c e : M)

/-! ### what the operations reckon -/
@[simp] def flatD : PyData → Bool
  | .none => true
  | .bool _ => true
  | .int _ => true
  | .str _ => true
  | _ => false
def sign (c : Nat) : PyData := .str ⟨#[c]⟩
@[simp] def addD : PyData → PyData → Option PyData
  | .int a, .int b => some (.int (a + b))
  | .str a, .str b => if a.length + b.length ≤ sizeLine then some (.str (a ++ b)) else none
  | .list a, .list b => if a.length + b.length ≤ sizeLine then some (.list (a ++ b)) else none
  | .tuple a, .tuple b => if a.length + b.length ≤ sizeLine then some (.tuple (a ++ b)) else none
  | _, _ => none
@[simp] def subD : PyData → PyData → Option PyData
  | .int a, .int b => some (.int (a - b))
  | _, _ => none
@[simp] def mulD : PyData → PyData → Option PyData
  | .int a, .int b => if a.natAbs < 18446744073709551616 ∨ b.natAbs < 18446744073709551616 then some (.int (a * b)) else none
  | .str z, .int k => if z.length ≤ 100 ∧ 0 ≤ k ∧ k ≤ 100 then some (.str (Txt.mul z k)) else none
  | _, _ => none
@[simp] def modD : PyData → PyData → Option PyData
  | .int a, .int b => if 0 < b then some (.int (a % b)) else none
  | _, _ => none
@[simp] def fdivD : PyData → PyData → Option PyData
  | .int a, .int b => if 0 < b ∧ b < 1073741824 then some (.int (a / b)) else none
  | _, _ => none
@[simp] def binD : Op2 → PyData → PyData → Option PyData
  | .add, a, b => addD a b
  | .sub, a, b => subD a b
  | .mul, a, b => mulD a b
  | .mod, a, b => modD a b
  | .fdiv, a, b => fdivD a b
@[simp] def eqD : PyData → PyData → Option Bool
  | .str a, .str b => some (a == b)
  | .int a, .int b => some (a == b)
  | .bool a, .bool b => some (a == b)
  | d, e => if SeqAt.shaped d && SeqAt.shaped e then some (PyData.eqv d e) else none
@[simp] def inD (x : PyData) : PyData → Option Bool
  | .list ys => if flatD x && ys.all flatD then some (ys.any fun z => PyData.eqv z x) else if SeqAt.shaped x && SeqAt.shaped (.list ys) then some (ys.any fun z => PyData.eqv z x) else none
  | .tuple ys => if flatD x && ys.all flatD then some (ys.any fun z => PyData.eqv z x) else none
  | .str z => match x with
    | .str w => match w.cps.toList with
      | [c] => some (decide (c ∈ z.cps.toList))
      | _ => none
    | _ => none
  | _ => none
@[simp] def ordD (p : Int → Int → Bool) : PyData → PyData → Option Bool
  | .int a, .int b => some (p a b)
  | _, _ => none
@[simp] def cmpD : Cm → PyData → PyData → Option Bool
  | .eq, a, b => eqD a b
  | .ne, a, b => (eqD a b).map (!·)
  | .lt, a, b => ordD (fun i j => decide (i < j)) a b
  | .le, a, b => ordD (fun i j => decide (i ≤ j)) a b
  | .gt, a, b => ordD (fun i j => decide (j < i)) a b
  | .ge, a, b => ordD (fun i j => decide (j ≤ i)) a b
  | .isin, a, b => inD a b
  | .notin, a, b => (inD a b).map (!·)
@[simp] def isNone : PyData → Bool
  | .none => true
  | _ => false
@[simp] def idxD : PyData → PyData → Option PyData
  | .list xs, .int i => atI xs i
  | .tuple xs, .int i => atI xs i
  | .str z, .int i => if z.length ≤ sizeLine then (atI z.cps.toList i).map sign else none
  | _, _ => none
@[simp] def partD : PyData → Option (Option Int)
  | .none => some none
  | .int i => some (some i)
  | _ => none
def cutD (xs : List PyData) (lo hi : Option Int) : List PyData := (xs.drop (HT.sIx xs.length 0 lo)).take (HT.sIx xs.length xs.length hi - HT.sIx xs.length 0 lo)
@[simp] def slcD (x : PyData) (lo hi : Option Int) : Option PyData := match x with
  | .list xs => some (.list (cutD xs lo hi))
  | .tuple xs => some (.tuple (cutD xs lo hi))
  | .str z => if z.length ≤ sizeLine then some (.str (cutS z lo hi)) else none
  | _ => none
@[simp] def intsOf : List PyData → Option (List Int)
  | [] => some []
  | .int i :: r => (intsOf r).map (i :: ·)
  | _ :: _ => none
@[simp] def boolsOf : List PyData → Option (List Bool)
  | [] => some []
  | .bool i :: r => (boolsOf r).map (i :: ·)
  | _ :: _ => none
@[simp] def strsOf : List PyData → Option (List Str)
  | [] => some []
  | .str i :: r => (strsOf r).map (i :: ·)
  | _ :: _ => none
def insI (x : Int) : List Int → List Int
  | [] => [x]
  | y :: r => if x ≤ y then x :: y :: r else y :: insI x r
def sortI : List Int → List Int
  | [] => []
  | x :: r => insI x (sortI r)
def minI : Int → List Int → Int
  | x, [] => x
  | x, y :: r => minI (if y < x then y else x) r
def maxI : Int → List Int → Int
  | x, [] => x
  | x, y :: r => maxI (if x < y then y else x) r
@[simp] def tyD (p : PyData → Bool) : PyData → Option PyData
  | .dict _ => none
  | d => some (.bool (p d))
@[simp] def pStr : PyData → Bool | .str _ => true | _ => false
@[simp] def pInt : PyData → Bool | .int _ => true | .bool _ => true | _ => false
@[simp] def pBool : PyData → Bool | .bool _ => true | _ => false
@[simp] def pTuple : PyData → Bool | .tuple _ => true | _ => false
@[simp] def pList : PyData → Bool | .list _ => true | _ => false
@[simp] def bltD : Bl → List PyData → Option PyData
  | .len, [.list xs] => some (.int xs.length)
  | .len, [.tuple xs] => some (.int xs.length)
  | .len, [.str z] => if z.length ≤ sizeLine then some (.int z.length) else none
  | .int, [.int i] => some (.int i)
  | .int, [.bool b] => some (.int (if b then 1 else 0))
  | .list, [.list xs] => some (.list xs)
  | .list, [.tuple xs] => some (.list xs)
  | .list, [.str z] => if z.length ≤ sizeLine then some (.list (z.cps.toList.map sign)) else none
  | .tuple, [.list xs] => some (.tuple xs)
  | .tuple, [.tuple xs] => some (.tuple xs)
  | .min, [.int i, .int j] => some (.int (if j < i then j else i))
  | .max, [.int i, .int j] => some (.int (if j > i then j else i))
  | .min, [.list xs] => match intsOf xs with
    | some (i :: r) => some (.int (minI i r))
    | _ => none
  | .max, [.list xs] => match intsOf xs with
    | some (i :: r) => some (.int (maxI i r))
    | _ => none
  | .any, [.list xs] => (boolsOf xs).map fun bs => .bool (bs.any id)
  | .all, [.list xs] => (boolsOf xs).map fun bs => .bool (bs.all id)
  | .sorted, [.list xs] => (intsOf xs).map fun ns => .list ((sortI ns).map .int)
  | .isStr, [x] => tyD pStr x
  | .isInt, [x] => tyD pInt x
  | .isBool, [x] => tyD pBool x
  | .isTuple, [x] => tyD pTuple x
  | .isList, [x] => tyD pList x
  | _, _ => none
def findI (d : PyData) : List PyData → Option Nat
  | [] => none
  | x :: r => if PyData.eqv x d then some 0 else (findI d r).map (· + 1)
@[simp] def indexD (o d : PyData) : Option PyData := match o with
  | .list ds => if SeqAt.shaped (.list ds) && SeqAt.shaped d then (findI d ds).map fun j => .int (j : Nat) else none
  | .tuple ds => if SeqAt.shaped (.list ds) && SeqAt.shaped d then (findI d ds).map fun j => .int (j : Nat) else none
  | _ => none
@[simp] def joinD (o d : PyData) : Option PyData := match o, d with
  | .str a, .list ds => match strsOf ds with
    | some ys => if (ys.map (·.length)).sum + ys.length * a.length ≤ 16777216 then some (.str (Txt.join a ys)) else none
    | none => none
  | _, _ => none
@[simp] def itemsD : IK → PyData → Option (List PyData)
  | .seq, .list xs => some xs
  | .seq, .tuple xs => some xs
  | .seq, .str z => some (z.cps.toList.map sign)
  | .range, .int n => if 0 ≤ n ∧ n.toNat < 1000000000 then some ((List.range n.toNat).map fun i => .int (i : Nat)) else none
  | .revr, .int n => if 0 ≤ n ∧ n.toNat < 1000000000 then some ((List.range n.toNat).map fun i => .int (n - 1 - (i : Nat))) else none
  | .rev, .list xs => some xs.reverse
  | .rev, .tuple xs => some xs.reverse
  | _, _ => none
@[simp] def setIs : List Nat → List PyData → Env → Option Env
  | [], [], env => some env
  | i :: is, d :: ds, env => setIs is ds (env.set i (some (.d d)))
  | _, _, _ => none
@[simp] def setTg : Tg → PyData → Env → Option Env
  | .nm i, d, env => some (env.set i (some (.d d)))
  | .tp is, .tuple ds, env => setIs is ds env
  | _, _, _ => none
@[simp] def keyD : PyData → Option Key
  | .int i => some (.inl i)
  | .str x => some (.inr x)
  | _ => none
@[simp] def keysD : PyData → Option (List Key)
  | .tuple ds => ds.mapM keyD
  | _ => none
def lookD {κ : Type} [DecidableEq κ] (kvs : List (κ × PyData)) (k : κ) : Option PyData := (kvs.find? fun kv => decide (kv.1 = k)).map (·.2)
/-- in its place, or at the end -/
def putD {κ : Type} [DecidableEq κ] (kvs : List (κ × PyData)) (k : κ) (d : PyData) : List (κ × PyData) :=
  if (kvs.any fun kv => decide (kv.1 = k)) = true then kvs.map (fun kv => if kv.1 = k then (kv.1, d) else kv) else kvs ++ [(k, d)]
@[simp] def dsOf : List LV → Option (List PyData)
  | [] => some []
  | .d x :: r => (dsOf r).map (x :: ·)
  | _ :: _ => none
@[simp] def dictAt (env : Env) (i : Nat) : Option (List (Key × PyData)) := match env[i]? with
  | some (some (.dk _ kvs)) => some kvs
  | some (some (.gd kvs)) => some kvs
  | _ => none
def intKeys : List (Key × PyData) → Option (List Int)
  | [] => some []
  | (.inl i, _) :: r => (intKeys r).map (i :: ·)
  | _ :: _ => none
def dedupI : List Int → List Int
  | [] => []
  | x :: r => if x ∈ r then dedupI r else x :: dedupI r
/-- a comprehension's turns -/
def lcLoop (f : PyData → Int → Option (Option PyData × Int)) : List PyData → Int → Option (List PyData × Int)
  | [], t => some ([], t)
  | x :: r, t => match f x t with
    | none => none
    | some (o, t1) => match lcLoop f r t1 with
      | none => none
      | some (ys, t2) => some (match o with | some y => y :: ys | none => ys, t2)
abbrev CallF := Nat → List LV → Int → Option (PyData × Int)
/-! ### the terms' values -/
mutual
def ev (C : CallF) (env : Env) : M → Int → Option (PyData × Int)
  | .var i, t => match env[i]? with
    | some (some (.d x)) => some (x, t)
    | _ => none
  | .bor i, t => match env[i]? with
    | some (some (.d x)) => some (x, t)
    | some (some (.own xs)) => some (.list xs, t)
    | some (some (.scr ns)) => some (.list (ns.map .int), t)
    | _ => none
  | .tape i, t => match env[i]? with
    | some (some .tp) => some (.int t, t)
    | _ => none
  | .lit d, t => some (d, t)
  | .bin o a b, t => match ev C env a t with
    | some (x, t1) => match ev C env b t1 with
      | some (y, t2) => (binD o x y).map (·, t2)
      | none => none
    | none => none
  | .cmp o a b, t => match ev C env a t with
    | some (x, t1) => match ev C env b t1 with
      | some (y, t2) => (cmpD o x y).map (.bool ·, t2)
      | none => none
    | none => none
  | .isN n a, t => match ev C env a t with
    | some (x, t1) => some (.bool (if n then !isNone x else isNone x), t1)
    | none => none
  | .and a b, t => match ev C env a t with
    | some (.bool true, t1) => ev C env b t1
    | some (.bool false, t1) => some (.bool false, t1)
    | _ => none
  | .or a b, t => match ev C env a t with
    | some (.bool false, t1) => ev C env b t1
    | some (.bool true, t1) => some (.bool true, t1)
    | _ => none
  | .not a, t => match ev C env a t with
    | some (.bool b, t1) => some (.bool !b, t1)
    | _ => none
  | .neg a, t => match ev C env a t with
    | some (.int i, t1) => some (.int (-i), t1)
    | _ => none
  | .ite c a b, t => match ev C env c t with
    | some (.bool true, t1) => ev C env a t1
    | some (.bool false, t1) => ev C env b t1
    | _ => none
  | .idx a b, t => match ev C env a t with
    | some (x, t1) => match ev C env b t1 with
      | some (y, t2) => (idxD x y).map (·, t2)
      | none => none
    | none => none
  | .slc a lo hi, t => match ev C env a t with
    | some (x, t1) => match ev C env lo t1 with
      | some (l, t2) => match ev C env hi t2 with
        | some (h, t3) => match partD l, partD h with
          | some l', some h' => (slcD x l' h').map (·, t3)
          | _, _ => none
        | none => none
      | none => none
    | none => none
  | .part a, t => match ev C env a t with
    | some (.int i, t1) => some (.int i, t1)
    | _ => none
  | .nil, _ => none
  | .cons _ _, _ => none
  | .tup l, t => match evs C env l t with
    | some (lvs, t1) => match dsOf lvs with
      | some ds => if ds.length ≤ 1000 then some (.tuple ds, t1) else none
      | none => none
    | none => none
  | .lst l, t => match evs C env l t with
    | some (lvs, t1) => match dsOf lvs with
      | some ds => if ds.length ≤ 1000 then some (.list ds, t1) else none
      | none => none
    | none => none
  | .call f l, t => match evs C env l t with
    | some (lvs, t1) => C f lvs t1
    | none => none
  | .blt b l, t => match evs C env l t with
    | some (lvs, t1) => match dsOf lvs with
      | some ds => (bltD b ds).map (·, t1)
      | none => none
    | none => none
  | .index o a, t => match ev C env o t with
    | some (x, t1) => match ev C env a t1 with
      | some (y, t2) => (indexD x y).map (·, t2)
      | none => none
    | none => none
  | .join o a, t => match ev C env o t with
    | some (x, t1) => match ev C env a t1 with
      | some (y, t2) => (joinD x y).map (·, t2)
      | none => none
    | none => none
  | .edict, _ => none
  | .lrange a, t => match ev C env a t with
    | some (.int n, t1) => if 0 ≤ n ∧ n.toNat < 1000000 then some (.list ((List.range n.toNat).map fun i => .int (i : Nat)), t1) else none
    | _ => none
  | .dsorted i, t => match dictAt env i with
    | some kvs => match intKeys kvs with
      | some ks => if ks.length < 64 then some (.list ((sortI ks).map .int), t) else none
      | none => none
    | none => none
  | .sset a, t => match ev C env a t with
    | some (.list xs, t1) => match intsOf xs with
      | some ns => if ns.length < 63 then some (.list ((sortI (dedupI ns)).map .int), t1) else none
      | none => none
    | _ => none
  | .dlen i, t => (dictAt env i).map fun kvs => (.int kvs.length, t)
  | .din n i a, t => match ev C env a t with
    | some (x, t1) => match dictAt env i, keyD x with
      | some kvs, some k => some (.bool (if n then !(lookD kvs k).isSome else (lookD kvs k).isSome), t1)
      | _, _ => none
    | none => none
  | .dget i a, t => match ev C env a t with
    | some (x, t1) => match dictAt env i, keyD x with
      | some kvs, some k => (lookD kvs k).map (·, t1)
      | _, _ => none
    | none => none
  | .lc k it tg vs c e, t => match ev C env it t with
    | some (x, t1) => match itemsD k x with
      | some xs => if xs.length < sizeLine then
          (lcLoop (fun y t => match setTg tg y (wipeE env vs) with
            | some env2 => match ev C env2 c t with
              | some (.bool true, t2) => match ev C env2 e t2 with
                | some (z, t3) => some (some z, t3)
                | none => none
              | some (.bool false, t2) => some (none, t2)
              | _ => none
            | none => none) xs t1).map fun r => (.list r.1, r.2)
        else none
      | none => none
    | none => none
def evs (C : CallF) (env : Env) : M → Int → Option (List LV × Int)
  | .nil, t => some ([], t)
  | .cons (.tape i) b, t => match env[i]? with
    | some (some .tp) => match evs C env b t with
      | some (r, t2) => some (.tp :: r, t2)
      | none => none
    | some (some (.scr ns)) => match evs C env b t with
      | some (r, t2) => some (.scr ns :: r, t2)
      | none => none
    | some (some (.gd kvs)) => match evs C env b t with
      | some (r, t2) => some (.gd kvs :: r, t2)
      | none => none
    | _ => none
  | .cons .edict b, t => match evs C env b t with
    | some (r, t2) => some (.gd [] :: r, t2)
    | none => none
  | .cons a b, t => match ev C env a t with
    | some (x, t1) => match evs C env b t1 with
      | some (r, t2) => some (.d x :: r, t2)
      | none => none
    | none => none
  | _, _ => none
end
end Pl

set_option Elab.async false
set_option linter.all false
set_option maxRecDepth 100000
set_option maxHeartbeats 1000000
/-! Pl: operations by data. -/
namespace Pl
open PySem PySem.Spec PyProof.Rows L2

/-! ### weaker readings, two readings -/
theorem PE.imp {X : Cx} {e : Expr} {t t' : TE} (h : PE X e t) (i : ∀ σ H Q, t' σ H Q → t σ H Q) : PE X e t' := ⟨fun pins s σ H Q I q => h.run pins s σ H Q I (i σ H Q q)⟩
theorem PE.or {X : Cx} {e : Expr} {t t' : TE} (h : PE X e t) (h' : PE X e t') : PE X e (fun σ H Q => t σ H Q ∨ t' σ H Q) := ⟨fun pins s σ H Q I q => q.elim (h.run pins s σ H Q I) (h'.run pins s σ H Q I)⟩
theorem PT.imp {X : Cx} {e : Expr} {t t' : TT} (h : PT X e t) (i : ∀ σ H Q, t' σ H Q → t σ H Q) : PT X e t' := ⟨fun pins s σ H Q I q => h.run pins s σ H Q I (i σ H Q q)⟩
theorem PA.imp {X : Cx} {e : List Expr} {t t' : TA} (h : PA X e t) (i : ∀ σ H Q, t' σ H Q → t σ H Q) : PA X e t' := ⟨fun pos pins s σ H Q I q => h.run pos pins s σ H Q I (i σ H Q q)⟩
theorem PS.imp {X : Cx} {e : Stmt} {t t' : TS} (h : PS X e t) (i : ∀ D σ H, t' D σ H → t D σ H) : PS X e t' := ⟨fun pins s σ H D I q => h.run pins s σ H D I (i D σ H q)⟩
theorem PS.or {X : Cx} {e : Stmt} {t t' : TS} (h : PS X e t) (h' : PS X e t') : PS X e (fun D σ H => t D σ H ∨ t' D σ H) := ⟨fun pins s σ H D I q => q.elim (h.run pins s σ H D I) (h'.run pins s σ H D I)⟩
theorem PSs.imp {X : Cx} {e : List Stmt} {t t' : TS} (h : PSs X e t) (i : ∀ D σ H, t' D σ H → t D σ H) : PSs X e t' := ⟨fun pins s σ H D I q => h.run pins s σ H D I (i D σ H q)⟩
theorem PI.imp {X : Cx} {tg e : Expr} {t t' : TI} (h : PI X tg e t) (i : ∀ σ H R, t' σ H R → t σ H R) : PI X tg e t' := ⟨fun pins s σ H R I q => h.run pins s σ H R I (i σ H R q)⟩
theorem PI.or {X : Cx} {tg e : Expr} {t t' : TI} (h : PI X tg e t) (h' : PI X tg e t') : PI X tg e (fun σ H R => t σ H R ∨ t' σ H R) := ⟨fun pins s σ H R I q => q.elim (h.run pins s σ H R I) (h'.run pins s σ H R I)⟩
theorem PG.imp {X : Cx} {e : Expr} {t t' : TG} (h : PG X e t) (i : ∀ v σ H Q, t' v σ H Q → t v σ H Q) : PG X e t' := ⟨fun pins s σ H v u Q I r q => h.run pins s σ H v u Q I r (i v σ H Q q)⟩
theorem OpR.imp {X : Cx} {f : Value → Value → Sem Value} {r r' : R2} (h : OpR X f r) (i : ∀ x y H Q, r' x y H Q → r x y H Q) : OpR X f r' := fun pins s σ H x y v u Q I rx ry q => h pins s σ H x y v u Q I rx ry (i _ _ _ _ q)
theorem IxR.imp {X : Cx} {r r' : R2} (h : IxR X r) (i : ∀ x y H Q, r' x y H Q → r x y H Q) : IxR X r' := fun a b pins s σ H x y v u Q I rx ry q hs => h a b pins s σ H x y v u Q I rx ry (i _ _ _ _ q) hs
theorem CallR.imp {X : Cx} {f : Value} {r r' : List V → Hp → VK → Prop} (h : CallR X f r) (i : ∀ xs H Q, r' xs H Q → r xs H Q) : CallR X f r' := fun pins s σ H xs us Q I rx q => h pins s σ H xs us Q I rx (i _ _ _ q)
theorem MtR.imp {X : Cx} {id : String} {r r' : V → List V → Hp → VK → Prop} (h : MtR X id r) (i : ∀ x xs H Q, r' x xs H Q → r x xs H Q) : MtR X id r' := fun pins s σ H x xs v us Q I rx rs q => h pins s σ H x xs v us Q I rx rs (i _ _ _ _ q)
theorem SlR.imp {X : Cx} {r r' : V → Option Int → Option Int → Hp → VK → Prop} (h : SlR X r) (i : ∀ x l u H Q, r' x l u H Q → r x l u H Q) : SlR X r' := fun pins s σ H x v vl vu lo hi sl Q I rx hs pl pu q => h pins s σ H x v vl vu lo hi sl Q I rx hs pl pu (i _ _ _ _ _ q)

/-! ### what may be read here -/
def Rb (K : PySem.W.Frag) (Hf H : Hp) (v : V) (d : PyData) : Prop := Rp Hf v d ∨ ∃ l vs xs, v = .ref l ∧ d = .list xs ∧ SqL K H l vs ∧ RpAll Hf vs xs
inductive Ad (Hf H : Hp) : Hp → Hp → Prop
  | refl : Ad Hf H Hf H
  | new (p : Addr) (o : HO) : H p = none → Ad Hf H (upd Hf p o) (upd H p o)
theorem Ad.abs {K : PySem.W.Frag} {T : Addr} {H0 Hf0 Hf Hf' : Hp} {env : Env} {t : Int} {σ : L2.St} {H H' : Hp} (a : Ad Hf H Hf' H') (A : Abs K T H0 Hf0 Hf env t σ H) : Abs K T H0 Hf0 Hf' env t σ H' ∧ Kp T Hf H Hf' H' := by
  cases a with
  | refl => exact ⟨A, Kp.refl _ _ _⟩
  | new p o h => exact ⟨A.newd h, A.kpn h⟩
theorem Ad.ex {Hf H Hf' H' : Hp} (a : Ad Hf H Hf' H') (e : Ex Hf H) : Ex Hf Hf' := by
  cases a with
  | refl => exact Ex.refl _
  | new p o h => exact (Kp.new (T := p) e h).ex
theorem ex_none {Hf H : Hp} (e : Ex Hf H) {p : Addr} (h : H p = none) : Hf p = none := by
  cases q : Hf p with
  | none => rfl
  | some u =>
    rw [e p u q] at h
    cases h
def rD (g : PyData → PyData → Option PyData) : R2 := fun x y H Q => ∃ Hf d e z, Ex Hf H ∧ Rp Hf x d ∧ Rp Hf y e ∧ g d e = some z ∧ ∀ v Hf' H', Ad Hf H Hf' H' → Rp Hf' v z → Q v H'
def rDl (K : PySem.W.Frag) (g : PyData → PyData → Option PyData) : R2 := fun x y H Q => ∃ Hf d e z, Ex Hf H ∧ Rb K Hf H x d ∧ Rp Hf y e ∧ g d e = some z ∧ ∀ v Hf' H', Ad Hf H Hf' H' → Rp Hf' v z → Q v H'
def rDr (K : PySem.W.Frag) (g : PyData → PyData → Option PyData) : R2 := fun x y H Q => ∃ Hf d e z, Ex Hf H ∧ Rp Hf x d ∧ Rb K Hf H y e ∧ g d e = some z ∧ ∀ v Hf' H', Ad Hf H Hf' H' → Rp Hf' v z → Q v H'
def rCD (K : PySem.W.Frag) (g : List PyData → Option PyData) : List V → Hp → VK → Prop := fun xs H Q => ∃ Hf ds z, Ex Hf H ∧ (∃ hb : Paired (Rb K Hf H) xs ds, True) ∧ g ds = some z ∧ ∀ v Hf' H', Ad Hf H Hf' H' → Rp Hf' v z → Q v H'
section
variable {K : PySem.W.Frag} {Hf H : Hp} {v : V} {z : PyData} {Q : VK}
theorem fin_int {i : Int} (q : ∀ v Hf' H', Ad Hf H Hf' H' → Rp Hf' v (.int i) → Q v H') : Q (.int i) H := q _ _ _ .refl (.int _)
theorem fin_str {i : Str} (q : ∀ v Hf' H', Ad Hf H Hf' H' → Rp Hf' v (.str i) → Q v H') : Q (.str i) H := q _ _ _ .refl (.str _)
theorem fin_bool {i : Bool} (q : ∀ v Hf' H', Ad Hf H Hf' H' → Rp Hf' v (.bool i) → Q v H') : Q (.bl i) H := q _ _ _ .refl (.bl _)
theorem fin_lst {vs : List V} {ds : List PyData} (ex : Ex Hf H) (r : RpAll Hf vs ds) (q : ∀ v Hf' H', Ad Hf H Hf' H' → Rp Hf' v (.list ds) → Q v H') : ∀ p, H p = none → Q (.ref p) (upd H p (.lst vs)) := fun p hp =>
  q _ _ _ (.new p _ hp) (.lst upd_same (RpAll.mono (Ex.new (ex_none ex hp)) _ _ r))
theorem fin_tup {vs : List V} {ds : List PyData} (ex : Ex Hf H) (r : RpAll Hf vs ds) (q : ∀ v Hf' H', Ad Hf H Hf' H' → Rp Hf' v (.tuple ds) → Q v H') : ∀ p o, H p = none → o.dict = none → Q (.ref p) (upd H p (.frz o (.tup vs))) := fun p o hp hd =>
  q _ _ _ (.new p _ hp) (.tup upd_same hd (RpAll.mono (Ex.new (ex_none ex hp)) _ _ r))
/-- a list that may be read -/
theorem Rb.list {xs : List PyData} (ex : Ex Hf H) (r : Rb K Hf H v (.list xs)) : ∃ l vs, v = .ref l ∧ SqL K H l vs ∧ RpAll Hf vs xs := by
  rcases r with r | ⟨l, vs, ys, e, e2, h, hs⟩
  · cases r with
    | lst h hs => exact ⟨_, _, rfl, SqL.of (ex _ _ h), hs⟩
  · cases e2
    exact ⟨l, vs, e, h, hs⟩
theorem Rb.tuple {xs : List PyData} (ex : Ex Hf H) (r : Rb K Hf H v (.tuple xs)) : ∃ l vs, v = .ref l ∧ SqT K H l vs ∧ RpAll Hf vs xs := by
  rcases r with r | ⟨l, vs, ys, e, e2, h, hs⟩
  · cases r with
    | tup h hd hs => exact ⟨_, _, rfl, .inl (.inr ⟨_, ex _ _ h⟩), hs⟩
  · cases e2
theorem Rb.str {z : Str} (r : Rb K Hf H v (.str z)) : v = .str z := by
  rcases r with r | ⟨l, vs, ys, e, e2, h, hs⟩
  · cases r
    rfl
  · cases e2
theorem Rb.int {z : Int} (r : Rb K Hf H v (.int z)) : v = .int z := by
  rcases r with r | ⟨l, vs, ys, e, e2, h, hs⟩
  · cases r
    rfl
  · cases e2
theorem Rb.bool {z : Bool} (r : Rb K Hf H v (.bool z)) : v = .bl z := by
  rcases r with r | ⟨l, vs, ys, e, e2, h, hs⟩
  · cases r
    rfl
  · cases e2
theorem Rb.dp {d : PyData} (ex : Ex Hf H) (r : Rb K Hf H v d) : Dp K H v d := by
  rcases r with r | ⟨l, vs, ys, e, e2, h, hs⟩
  · exact Rp.dp _ _ (Rp.mono ex _ _ r)
  · subst e e2
    exact .lst h (RpAll.dp _ _ (RpAll.mono ex _ _ hs))
theorem RpAll.at {vs : List V} {ds : List PyData} {i : Int} {d : PyData} (r : RpAll Hf vs ds) (e : atI ds i = some d) : ∃ v, atI vs i = some v ∧ Rp Hf v d := by
  unfold atI at e ⊢
  rw [r.len]
  cases q : ixN ds.length i with
  | none =>
    rw [q] at e
    cases e
  | some j =>
    rw [q] at e
    exact r.get (show ds[j]? = some d from e)
theorem Rp.flat {d : PyData} (r : Rp Hf v d) (h : flatD d = true) : flatV v = true := by
  cases r with
  | lst _ _ => cases h
  | tup _ _ _ => cases h
  | _ => rfl
theorem Rp.eqV {w : V} {d e : PyData} (r : Rp Hf v d) (r' : Rp Hf w e) (h : flatD d = true) (h' : flatD e = true) : eqV v w = PyData.eqv d e := by
  cases r with
  | lst _ _ => cases h
  | tup _ _ _ => cases h
  | _ =>
    cases r' with
    | lst _ _ => cases h'
    | tup _ _ _ => cases h'
    | _ => simp only [L2.eqV, PyData.eqv]
theorem RpAll.flat : ∀ {vs : List V} {ds : List PyData}, RpAll Hf vs ds → ds.all flatD = true → vs.all flatV = true
  | _, _, .nil, _ => rfl
  | _, _, .cons r rs, h => by
    rw [List.all_cons, Bool.and_eq_true] at h ⊢
    exact ⟨r.flat h.1, rs.flat h.2⟩
theorem RpAll.inV {w : V} {e : PyData} (r' : Rp Hf w e) (h' : flatD e = true) : ∀ {vs : List V} {ds : List PyData}, RpAll Hf vs ds → ds.all flatD = true → inV w vs = ds.any fun z => PyData.eqv z e
  | _, _, .nil, _ => rfl
  | v :: vs, d :: ds, .cons r rs, h => by
    rw [List.all_cons, Bool.and_eq_true] at h
    have ih := RpAll.inV r' h' rs h.2
    unfold L2.inV at ih ⊢
    rw [List.any_cons, List.any_cons, r.eqV r' h.1 h', ih]
theorem RpAll.cut {vs : List V} {ds : List PyData} (r : RpAll Hf vs ds) (lo hi : Option Int) : RpAll Hf (cutV vs lo hi) (cutD ds lo hi) := by
  unfold cutV cutD
  rw [r.len]
  exact (r.drop _).take _
theorem RpAll.ints : ∀ {vs : List V} {ds : List PyData} {ns : List Int}, RpAll Hf vs ds → intsOf ds = some ns → vs = ns.map V.int
  | _, _, ns, .nil, h => by
    cases h
    rfl
  | v :: vs, d :: ds, ns, .cons r rs, h => by
    cases r with
    | int i =>
      unfold intsOf at h
      cases e : intsOf ds with
      | none =>
        rw [e] at h
        cases h
      | some ms =>
        rw [e] at h
        cases h
        rw [rs.ints e] <;> rfl
    | _ => cases h
theorem RpAll.bools : ∀ {vs : List V} {ds : List PyData} {ns : List Bool}, RpAll Hf vs ds → boolsOf ds = some ns → vs = ns.map V.bl
  | _, _, ns, .nil, h => by
    cases h
    rfl
  | v :: vs, d :: ds, ns, .cons r rs, h => by
    cases r with
    | bl i =>
      unfold boolsOf at h
      cases e : boolsOf ds with
      | none =>
        rw [e] at h
        cases h
      | some ms =>
        rw [e] at h
        cases h
        rw [rs.bools e] <;> rfl
    | _ => cases h
theorem RpAll.strs : ∀ {vs : List V} {ds : List PyData} {ns : List Str}, RpAll Hf vs ds → strsOf ds = some ns → vs = ns.map V.str
  | _, _, ns, .nil, h => by
    cases h
    rfl
  | v :: vs, d :: ds, ns, .cons r rs, h => by
    cases r with
    | str i =>
      unfold strsOf at h
      cases e : strsOf ds with
      | none =>
        rw [e] at h
        cases h
      | some ms =>
        rw [e] at h
        cases h
        rw [rs.strs e] <;> rfl
    | _ => cases h
theorem rp_ints : ∀ ns : List Int, RpAll Hf (ns.map V.int) (ns.map PyData.int)
  | [] => .nil
  | i :: r => .cons (.int i) (rp_ints r)
theorem rp_signs : ∀ ns : List Nat, RpAll Hf (ns.map fun c => V.str ⟨#[c]⟩) (ns.map sign)
  | [] => .nil
  | i :: r => .cons (.str _) (rp_signs r)
end
/-! ### operators -/
section
variable {X : Cx}
/-! ### new tuples, their objects known -/
abbrev tObj (its : List Value) : Obj := { cls := .type "tuple", data := .seq its.toArray }
theorem laidT {pins : List (Addr × Obj)} {σ : L2.St} {H : Hp} {s : Shared} {us : List Value} {xs : List V} {t : Nat} (I : Inv X pins σ H s) (r : Vals xs us) (z : xs.length ≤ sizeLine) :
    Inv X pins σ (upd H s.heap.objs.size (.frz (tObj us) (.tup xs))) { s with heap := s.heap.push (tObj us), toks := t } :=
  I.laid (fun b o e => Heap.get?_push_of_some _ e) (Nat.le_refl _) ⟨Heap.get?_push_size _ rfl, z, us, r, IsTup.new _ _⟩
def tTupS (t : TA) : TE := fun σ H Q => t σ H fun xs H1 => xs.length ≤ sizeLine ∧ ∀ p o, H1 p = none → o.dict = none → Q (.ref p) (upd H1 p (.frz o (.tup xs)))
theorem pe_tupS {es : List Expr} {t : TA} {x1} {pos : Pos} (h : PA X es t) : PE X (.Tuple es x1 pos) (tTupS t) :=
  ⟨fun pins s σ H Q I hq => wpAny_Tuple_spliced (thn (h.run pos pins s σ H _ I hq) fun us s1 ⟨xs, H1, I1, r, z, q⟩ => ⟨by rw [← r.length]; exact z,
    ⟨.ref _, _, laidT (t := s1.toks) I1 r z, rfl, q _ (tObj us) (I1.hok.fresh (Nat.le_refl _)) rfl⟩⟩)⟩
def rCatS (K : PySem.W.Frag) : R2 := fun x y H Q => ∃ a b xs ys, x = .ref a ∧ y = .ref b ∧ SqT K H a xs ∧ SqT K H b ys ∧ xs ≠ [] ∧ ys ≠ [] ∧ xs.length + ys.length ≤ sizeLine ∧
  ∀ p o, H p = none → o.dict = none → Q (.ref p) (upd H p (.frz o (.tup (xs ++ ys))))
theorem op_catS : OpR X (binaryOp .Add) (rCatS X.K) := fun pins s σ H x y v u Q I rx ry ⟨a, b, xs, ys, ex, ey, ha, hb, nx, ny, hz, q⟩ => by
  subst ex ey
  cases rx
  cases ry
  obtain ⟨as, ra, pa, za⟩ := I.tuple ha
  obtain ⟨bs, rb, pb, zb⟩ := I.tuple hb
  exact HT.cat_tup pa pb (fun e => nx (ra.nil_iff.mp e)) (fun e => absurd (rb.nil_iff.mp e) ny)
    (fun _ => ⟨.ref _, _, laidT (t := s.toks) I (ra.append rb) (by rw [List.length_append]; exact hz), rfl, q _ (tObj (as ++ bs)) (I.hok.fresh (Nat.le_refl _)) rfl⟩) (by rw [← ra.length, ← rb.length]; exact hz)
def rSlTS (K : PySem.W.Frag) : V → Option Int → Option Int → Hp → VK → Prop := fun x lo hi H Q => ∃ a xs, x = .ref a ∧ SqT K H a xs ∧
  ¬ (HT.sIx xs.length 0 lo = 0 ∧ HT.sIx xs.length xs.length hi = xs.length) ∧ ∀ p o, H p = none → o.dict = none → Q (.ref p) (upd H p (.frz o (.tup (cutV xs lo hi))))
theorem sl_tupS : SlR X (rSlTS X.K) := fun pins s σ H x v vl vu lo hi sl Q I rx hs pl pu ⟨a, xs, ex, hx, nw, q⟩ => by
  subst ex
  cases rx
  obtain ⟨as, ra, pa, za⟩ := I.tuple hx
  have hl : as.toArray.size = xs.length := by rw [List.size_toArray, ra.length]
  refine ⟨"tuple", _, PyProof.Rows.slot_tuple_getitem.lookup, pa.typeIs, HT.getItem_tuple_cut pa hs pl pu (by rw [hl]; exact nw) ?_ (by rw [hl]; exact za)⟩
  rw [hl]
  exact ⟨.ref _, _, laidT (t := s.toks) I ((ra.drop (HT.sIx xs.length 0 lo)).take (HT.sIx xs.length xs.length hi - HT.sIx xs.length 0 lo)) (Nat.le_trans (cutV_length xs lo hi) za), rfl,
    q _ (tObj _) (I.hok.fresh (Nat.le_refl _)) rfl⟩
theorem call_tupleS : CallR X (.type "tuple") (fun xs H Q => ∃ p ys, xs = [.ref p] ∧ SqL X.K H p ys ∧ ∀ l o, H l = none → o.dict = none → Q (.ref l) (upd H l (.frz o (.tup ys)))) := fun pins s σ H xs us Q I r ⟨p, ys, ex, hq, q⟩ => by
  subst ex
  obtain ⟨u, e, rx⟩ := vals1 r
  subst e
  cases rx
  obtain ⟨as, ra, pa, za⟩ := I.list hq
  have hl := ra.length
  refine call_tuple_list pa.isList (fun h' kp => ?_) (by simp only [List.size_toArray] <;> omega)
  have I1 : Inv X pins σ H { s with heap := h' } := I.kept (t' := s.toks) kp
  exact ⟨.ref _, _, laidT (t := s.toks) I1 ra za, rfl, q _ (tObj as) (I1.hok.fresh (Nat.le_refl _)) rfl⟩
theorem o_add : OpR X (binaryOp .Add) (rD addD) := by
  refine OpR.imp ((((op_add.or op_add_str).or op_cat).or op_catA).or op_catS) fun x y H Q h => ?_
  obtain ⟨Hf, d, e, z, ex, rx, ry, g, q⟩ := h
  cases rx with
  | int i =>
    cases ry with
    | int j =>
      cases g
      exact .inl (.inl (.inl (.inl ⟨i, j, rfl, rfl, fin_int q⟩)))
    | _ => cases g
  | str i =>
    cases ry with
    | str j =>
      simp only [addD] at g
      split at g
      · cases g
        exact .inl (.inl (.inl (.inr ⟨i, j, rfl, rfl, by assumption, fin_str q⟩)))
      · cases g
    | _ => cases g
  | lst h hs =>
    cases ry with
    | lst k ks =>
      simp only [addD] at g
      split at g
      · cases g
        exact .inl (.inl (.inr ⟨_, _, _, _, rfl, rfl, ex _ _ h, ex _ _ k, by rw [hs.len, ks.len]; assumption, fin_lst ex (hs.append ks) q⟩))
      · cases g
    | _ => cases g
  | tup h hd hs =>
    cases ry with
    | tup k kd ks =>
      simp only [addD] at g
      split at g
      · cases g
        rename_i xs ds _ _ ys es hz
        by_cases e1 : xs = []
        · subst e1
          cases hs
          refine .inl (.inr ⟨_, _, _, _, rfl, rfl, .inl (.inr ⟨_, ex _ _ h⟩), .inl (.inr ⟨_, ex _ _ k⟩), by rw [ks.len]; simpa using hz, fun _ => ?_, fun z => absurd rfl z, fun z => absurd rfl z⟩)
          exact q _ _ _ .refl (.tup k kd ks)
        · by_cases e2 : ys = []
          · subst e2
            cases ks
            rw [List.append_nil] at q
            refine .inl (.inr ⟨_, _, _, _, rfl, rfl, .inl (.inr ⟨_, ex _ _ h⟩), .inl (.inr ⟨_, ex _ _ k⟩), by rw [hs.len]; simpa using hz, fun z => absurd z e1, fun _ _ => ?_, fun _ z => absurd rfl z⟩)
            exact q _ _ _ .refl (.tup h hd hs)
          · exact .inr ⟨_, _, _, _, rfl, rfl, .inl (.inr ⟨_, ex _ _ h⟩), .inl (.inr ⟨_, ex _ _ k⟩), e1, e2, by rw [hs.len, ks.len]; exact hz, fin_tup ex (hs.append ks) q⟩
      · cases g
    | _ => cases g
  | _ => cases g
theorem o_sub : OpR X (binaryOp .Sub) (rD subD) := by
  refine OpR.imp op_sub fun x y H Q h => ?_
  obtain ⟨Hf, d, e, z, ex, rx, ry, g, q⟩ := h
  cases rx with
  | int i =>
    cases ry with
    | int j =>
      cases g
      exact ⟨i, j, rfl, rfl, fin_int q⟩
    | _ => cases g
  | _ => cases g
theorem op_mulS : OpR X (binaryOp .Mult) (fun x y H Q => ∃ z k, x = .str z ∧ y = .int k ∧ (z.length ≤ 100 ∧ 0 ≤ k ∧ k ≤ 100) ∧ Q (.str (Txt.mul z k)) H) := by
  intro pins s σ H x y v u Q I rx ry h
  obtain ⟨z, k, rfl, rfl, ⟨h1, h2, h3⟩, q⟩ := h
  obtain ⟨t, rfl⟩ := rx
  obtain ⟨t', rfl⟩ := ry
  refine SB.mul ⟨?_, fun a b => ?_, fun a b => ?_⟩ fun t' k' => ⟨.str _, H, I.tok _, ⟨_, rfl⟩, q⟩
  · rw [decide_eq_false (by omega), decide_eq_false (by omega)]
    rfl
  · have hk : 0 < k := by omega
    have : (100 : Int) ≤ (2 ^ 63 - 1) / k := (Int.le_ediv_iff_mul_le hk).mpr (by omega)
    omega
  · unfold Builtin.Str.tooLong
    have : z.length * k.toNat ≤ 100 * 100 := Nat.mul_le_mul h1 (by omega)
    simp only [decide_eq_false_iff_not]
    have := PySem.sizeLine_eq
    omega
theorem o_mul : OpR X (binaryOp .Mult) (rD mulD) := by
  refine OpR.imp (op_mul.or op_mulS) fun x y H Q h => ?_
  obtain ⟨Hf, d, e, z, ex, rx, ry, g, q⟩ := h
  cases rx with
  | int i =>
    cases ry with
    | int j =>
      simp only [mulD] at g
      split at g
      · rename_i hb
        cases g
        exact .inl ⟨i, j, rfl, rfl, by unfold CMul; omega, fin_int q⟩
      · cases g
    | _ => cases g
  | str i =>
    cases ry with
    | int j =>
      simp only [mulD] at g
      split at g
      · cases g
        exact .inr ⟨i, j, rfl, rfl, by assumption, fin_str q⟩
      · cases g
    | _ => cases g
  | _ => cases g
theorem o_mod : OpR X (binaryOp .Mod) (rD modD) := by
  refine OpR.imp op_mod fun x y H Q h => ?_
  obtain ⟨Hf, d, e, z, ex, rx, ry, g, q⟩ := h
  cases rx with
  | int i =>
    cases ry with
    | int j =>
      simp only [modD] at g
      split at g
      · cases g
        exact ⟨i, j, rfl, rfl, by assumption, fin_int q⟩
      · cases g
    | _ => cases g
  | _ => cases g
theorem o_fdiv : OpR X (binaryOp .FloorDiv) (rD fdivD) := by
  refine OpR.imp op_fdiv fun x y H Q h => ?_
  obtain ⟨Hf, d, e, z, ex, rx, ry, g, q⟩ := h
  cases rx with
  | int i =>
    cases ry with
    | int j =>
      simp only [fdivD] at g
      split at g
      · cases g
        exact ⟨i, j, rfl, rfl, by assumption, fin_int q⟩
      · cases g
    | _ => cases g
  | _ => cases g
/-! ### comparisons -/
def bD (f : PyData → PyData → Option Bool) : PyData → PyData → Option PyData := fun a b => (f a b).map .bool
theorem bD_some {f : PyData → PyData → Option Bool} {a b z : PyData} (h : bD f a b = some z) : ∃ k, f a b = some k ∧ z = .bool k := by
  unfold bD at h
  cases e : f a b with
  | none =>
    rw [e] at h
    cases h
  | some k =>
    rw [e] at h
    cases h
    exact ⟨k, rfl, rfl⟩
theorem eqD_cases {d e : PyData} {k : Bool} (h : eqD d e = some k) : (∃ a b, d = .str a ∧ e = .str b ∧ k = (a == b)) ∨ (∃ a b, d = .int a ∧ e = .int b ∧ k = (a == b)) ∨ (∃ a b, d = .bool a ∧ e = .bool b ∧ k = (a == b)) ∨ (SeqAt.shaped d = true ∧ SeqAt.shaped e = true ∧ k = PyData.eqv d e) := by
  unfold eqD at h
  split at h
  · cases h
    exact .inl ⟨_, _, rfl, rfl, rfl⟩
  · cases h
    exact .inr (.inl ⟨_, _, rfl, rfl, rfl⟩)
  · cases h
    exact .inr (.inr (.inl ⟨_, _, rfl, rfl, rfl⟩))
  · split at h
    · rename_i hs
      cases h
      rw [Bool.and_eq_true] at hs
      exact .inr (.inr (.inr ⟨hs.1, hs.2, rfl⟩))
    · cases h
theorem o_eq (hu : X.A.units + 64 < cLine) : OpR X (compareOp .Eq) (rD (bD eqD)) := by
  refine OpR.imp (op_eq.or (op_eqD hu)) fun x y H Q h => ?_
  obtain ⟨Hf, d, e, z, ex, rx, ry, g, q⟩ := h
  obtain ⟨k, gk, rfl⟩ := bD_some g
  have q := fin_bool q
  rcases eqD_cases gk with ⟨a, b, rfl, rfl, rfl⟩ | ⟨a, b, rfl, rfl, rfl⟩ | ⟨a, b, rfl, rfl, rfl⟩ | ⟨h1, h2, rfl⟩
  · cases rx
    cases ry
    exact .inl ⟨rfl, by rw [dec_str]; exact q⟩
  · cases rx
    cases ry
    exact .inl ⟨rfl, by rw [dec_int]; exact q⟩
  · cases rx
    cases ry
    exact .inl ⟨rfl, by rw [dec_bl]; exact q⟩
  · exact .inr ⟨d, e, Rp.dp _ _ (Rp.mono ex _ _ rx), Rp.dp _ _ (Rp.mono ex _ _ ry), h1, h2, q⟩
theorem o_ne (hu : X.A.units + 64 < cLine) : OpR X (compareOp .NotEq) (rD (bD fun a b => (eqD a b).map (!·))) := by
  refine OpR.imp (op_ne.or (op_neD hu)) fun x y H Q h => ?_
  obtain ⟨Hf, d, e, z, ex, rx, ry, g, q⟩ := h
  obtain ⟨k, gk, rfl⟩ := bD_some g
  have q := fin_bool q
  cases g0 : eqD d e with
  | none =>
    rw [g0] at gk
    cases gk
  | some k0 =>
    rw [g0] at gk
    cases gk
    rcases eqD_cases g0 with ⟨a, b, rfl, rfl, rfl⟩ | ⟨a, b, rfl, rfl, rfl⟩ | ⟨a, b, rfl, rfl, rfl⟩ | ⟨h1, h2, rfl⟩
    · cases rx
      cases ry
      exact .inl ⟨rfl, by rw [dec_str]; exact q⟩
    · cases rx
      cases ry
      exact .inl ⟨rfl, by rw [dec_int]; exact q⟩
    · cases rx
      cases ry
      exact .inl ⟨rfl, by rw [dec_bl]; exact q⟩
    · exact .inr ⟨d, e, Rp.dp _ _ (Rp.mono ex _ _ rx), Rp.dp _ _ (Rp.mono ex _ _ ry), h1, h2, q⟩
theorem o_ord {op : CmpOp} {p : Int → Int → Bool} (h : OpR X (compareOp op) (rI0 fun i j => .bl (p i j))) : OpR X (compareOp op) (rD (bD (ordD p))) := by
  refine OpR.imp h fun x y H Q h => ?_
  obtain ⟨Hf, d, e, z, ex, rx, ry, g, q⟩ := h
  obtain ⟨k, gk, rfl⟩ := bD_some g
  cases rx with
  | int i =>
    cases ry with
    | int j =>
      cases gk
      exact ⟨i, j, rfl, rfl, fin_bool q⟩
    | _ => cases g
  | _ => cases g
theorem inD_cases {x y : PyData} {k : Bool} (h : inD x y = some k) : (∃ ys, y = .list ys ∧ ((flatD x = true ∧ ys.all flatD = true) ∨ (SeqAt.shaped x = true ∧ SeqAt.shaped (.list ys) = true)) ∧ k = ys.any fun z => PyData.eqv z x) ∨
    (∃ ys, y = .tuple ys ∧ (flatD x = true ∧ ys.all flatD = true) ∧ k = ys.any fun z => PyData.eqv z x) ∨ (∃ c z, x = .str ⟨#[c]⟩ ∧ y = .str z ∧ k = decide (c ∈ z.cps.toList)) := by
  cases y with
  | list ys =>
    simp only [inD] at h
    split at h
    · rename_i hs
      cases h
      rw [Bool.and_eq_true] at hs
      exact .inl ⟨ys, rfl, .inl hs, rfl⟩
    · split at h
      · rename_i hs
        cases h
        rw [Bool.and_eq_true] at hs
        exact .inl ⟨ys, rfl, .inr hs, rfl⟩
      · cases h
  | tuple ys =>
    simp only [inD] at h
    split at h
    · rename_i hs
      cases h
      rw [Bool.and_eq_true] at hs
      exact .inr (.inl ⟨ys, rfl, hs, rfl⟩)
    · cases h
  | str z =>
    cases x with
    | str w =>
      simp only [inD] at h
      split at h
      · rename_i c hc
        cases h
        have : w = ⟨#[c]⟩ := by
          cases w with
          | mk cps =>
            congr 1
            rw [← Array.toArray_toList (xs := cps), show cps.toList = [c] from hc]
        exact .inr (.inr ⟨c, z, by rw [this], rfl, rfl⟩)
      · cases h
    | _ => simp [inD] at h
  | _ => simp [inD] at h
theorem o_in (hu : X.A.units + 65 < cLine) : OpR X (compareOp .In) (rDr X.K (bD inD)) := by
  refine OpR.imp ((op_in_seq.or (op_inD hu)).or op_in_sign) fun x y H Q h => ?_
  obtain ⟨Hf, d, e, z, ex, rx, ry, g, q⟩ := h
  obtain ⟨k, gk, rfl⟩ := bD_some g
  have q := fin_bool q
  rcases inD_cases gk with ⟨ys, rfl, hs, rfl⟩ | ⟨ys, rfl, hs, rfl⟩ | ⟨c, z, rfl, rfl, rfl⟩
  · rcases hs with ⟨h1, h2⟩ | ⟨h1, h2⟩
    · obtain ⟨l, vs, rfl, sq, rs⟩ := ry.list ex
      refine .inl (.inl ⟨l, vs, rfl, .inl sq, rx.flat h1, rs.flat h2, ?_⟩)
      rw [RpAll.inV rx h1 rs h2]
      exact q
    · exact .inl (.inr ⟨d, ys, Rp.dp _ _ (Rp.mono ex _ _ rx), ry.dp ex, h1, h2, q⟩)
  · obtain ⟨l, vs, rfl, sq, rs⟩ := ry.tuple ex
    refine .inl (.inl ⟨l, vs, rfl, .inr sq, rx.flat hs.1, rs.flat hs.2, ?_⟩)
    rw [RpAll.inV rx hs.1 rs hs.2]
    exact q
  · cases rx
    have := ry.str
    subst this
    exact .inr ⟨c, z, rfl, rfl, q⟩
theorem o_notin (hu : X.A.units + 65 < cLine) : OpR X (compareOp .NotIn) (rDr X.K (bD fun a b => (inD a b).map (!·))) := by
  refine OpR.imp ((op_notIn_seq.or (op_notInD hu)).or op_notIn_sign) fun x y H Q h => ?_
  obtain ⟨Hf, d, e, z, ex, rx, ry, g, q⟩ := h
  obtain ⟨k, gk, rfl⟩ := bD_some g
  have q := fin_bool q
  cases g0 : inD d e with
  | none =>
    rw [g0] at gk
    cases gk
  | some k0 =>
    rw [g0] at gk
    cases gk
    rcases inD_cases g0 with ⟨ys, rfl, hs, rfl⟩ | ⟨ys, rfl, hs, rfl⟩ | ⟨c, z, rfl, rfl, rfl⟩
    · rcases hs with ⟨h1, h2⟩ | ⟨h1, h2⟩
      · obtain ⟨l, vs, rfl, sq, rs⟩ := ry.list ex
        refine .inl (.inl ⟨l, vs, rfl, .inl sq, rx.flat h1, rs.flat h2, ?_⟩)
        rw [if_pos rfl, RpAll.inV rx h1 rs h2]
        exact q
      · exact .inl (.inr ⟨d, ys, Rp.dp _ _ (Rp.mono ex _ _ rx), ry.dp ex, h1, h2, q⟩)
    · obtain ⟨l, vs, rfl, sq, rs⟩ := ry.tuple ex
      refine .inl (.inl ⟨l, vs, rfl, .inr sq, rx.flat hs.1, rs.flat hs.2, ?_⟩)
      rw [if_pos rfl, RpAll.inV rx hs.1 rs hs.2]
      exact q
    · cases rx
      have := ry.str
      subst this
      exact .inr ⟨c, z, rfl, rfl, q⟩
/-! ### subscripts -/
theorem i_any : IxR X (rDl X.K idxD) := by
  refine IxR.imp ((ix_list.or ix_tup).or ix_str) fun x y H Q h => ?_
  obtain ⟨Hf, d, e, z, ex, rx, ry, g, q⟩ := h
  cases d with
  | list xs =>
    cases e with
    | int i =>
      cases ry
      obtain ⟨l, vs, rfl, sq, rs⟩ := rx.list ex
      obtain ⟨v, e1, r⟩ := rs.at (show atI xs i = some z from g)
      exact .inl (.inl ⟨l, vs, i, v, rfl, rfl, sq, e1, q _ _ _ .refl r⟩)
    | _ => cases g
  | tuple xs =>
    cases e with
    | int i =>
      cases ry
      obtain ⟨l, vs, rfl, sq, rs⟩ := rx.tuple ex
      obtain ⟨v, e1, r⟩ := rs.at (show atI xs i = some z from g)
      exact .inl (.inr ⟨l, vs, i, v, rfl, rfl, sq, e1, q _ _ _ .refl r⟩)
    | _ => cases g
  | str w =>
    cases e with
    | int i =>
      cases ry
      have := rx.str
      subst this
      simp only [idxD] at g
      split at g
      · cases e1 : atI w.cps.toList i with
        | none =>
          rw [e1] at g
          cases g
        | some c =>
          rw [e1] at g
          cases g
          exact .inr ⟨w, i, c, rfl, rfl, by assumption, e1, q _ _ _ .refl (.str _)⟩
      · cases g
    | _ => cases g
  | _ => cases g
def rSD (K : PySem.W.Frag) : V → Option Int → Option Int → Hp → VK → Prop := fun x lo hi H Q => ∃ Hf d z, Ex Hf H ∧ Rb K Hf H x d ∧ slcD d lo hi = some z ∧ ∀ v Hf' H', Ad Hf H Hf' H' → Rp Hf' v z → Q v H'
theorem s_any : SlR X (rSD X.K) := by
  refine SlR.imp (((sl_list.or sl_tupA).or sl_str).or sl_tupS) fun x lo hi H Q h => ?_
  obtain ⟨Hf, d, z, ex, rx, g, q⟩ := h
  cases d with
  | list xs =>
    cases g
    obtain ⟨l, vs, rfl, sq, rs⟩ := rx.list ex
    exact .inl (.inl (.inl ⟨l, vs, rfl, sq, fin_lst ex (rs.cut lo hi) q⟩))
  | tuple xs =>
    cases g
    have rx' := rx
    obtain ⟨l, vs, rfl, sq, rs⟩ := rx.tuple ex
    by_cases hw : HT.sIx vs.length 0 lo = 0 ∧ HT.sIx vs.length vs.length hi = vs.length
    · refine .inl (.inl (.inr ⟨l, vs, rfl, sq, fun e => ?_, fun z => absurd hw z⟩))
      have ec : cutD xs lo hi = xs := by
        unfold cutD
        rw [← rs.len, e.1, e.2, List.drop_zero, Nat.sub_zero, rs.len, List.take_length]
      rw [ec] at q
      rcases rx' with r | ⟨_, _, _, _, e2, _⟩
      · exact q _ _ _ .refl r
      · cases e2
    · exact .inr ⟨l, vs, rfl, sq, hw, fin_tup ex (rs.cut lo hi) q⟩
  | str w =>
    have := rx.str
    subst this
    simp only [slcD] at g
    split at g
    · cases g
      exact .inl (.inr ⟨w, rfl, by assumption, fin_str q⟩)
    · cases g
  | _ => cases g
end
end Pl

set_option Elab.async false
set_option linter.all false
set_option maxRecDepth 100000
set_option maxHeartbeats 1000000
/-! Pl: built-ins and methods by data. -/
namespace Pl
open PySem PySem.Spec PyProof.Rows L2

def rC (K : PySem.W.Frag) (g : List PyData → Option PyData) : List V → Hp → VK → Prop := fun xs H Q => ∃ Hf ds z, Ex Hf H ∧ Paired (Rb K Hf H) xs ds ∧ g ds = some z ∧ ∀ v Hf' H', Ad Hf H Hf' H' → Rp Hf' v z → Q v H'
def rM (K : PySem.W.Frag) (g : PyData → PyData → Option PyData) : V → List V → Hp → VK → Prop := fun x xs H Q => ∃ Hf d y e z, Ex Hf H ∧ Rb K Hf H x d ∧ xs = [y] ∧ Rp Hf y e ∧ g d e = some z ∧ ∀ v Hf' H', Ad Hf H Hf' H' → Rp Hf' v z → Q v H'
theorem one_of {K : PySem.W.Frag} {Hf H : Hp} {xs : List V} {d : PyData} (r : Paired (Rb K Hf H) xs [d]) : ∃ x, xs = [x] ∧ Rb K Hf H x d := by
  cases r with
  | cons h t =>
    cases t
    exact ⟨_, rfl, h⟩
theorem two_of {K : PySem.W.Frag} {Hf H : Hp} {xs : List V} {d e : PyData} (r : Paired (Rb K Hf H) xs [d, e]) : ∃ x y, xs = [x, y] ∧ Rb K Hf H x d ∧ Rb K Hf H y e := by
  cases r with
  | cons h t =>
    obtain ⟨y, e, r⟩ := one_of t
    subst e
    exact ⟨_, y, rfl, h, r⟩
theorem minI_spec : ∀ (r : List Int) (x : Int), minI x r ∈ x :: r ∧ ∀ y ∈ x :: r, minI x r ≤ y
  | [], x => ⟨by simp [minI], fun y h => by simp at h; subst h; simp [minI]⟩
  | z :: r, x => by
    obtain ⟨h1, h2⟩ := minI_spec r (if z < x then z else x)
    unfold minI
    refine ⟨?_, fun y hy => ?_⟩
    · rcases List.mem_cons.mp h1 with e | e
      · rw [e]
        split
        · simp
        · simp
      · simp [e]
    · have hc : ∀ m, m = (if z < x then z else x) → m ≤ x ∧ m ≤ z := fun m hm => by
        subst hm
        split <;> omega
      have hm := hc _ rfl
      generalize (if z < x then z else x) = m at h1 h2 hm ⊢
      have h0 := h2 _ (List.mem_cons_self)
      rcases List.mem_cons.mp hy with rfl | hy
      · omega
      · rcases List.mem_cons.mp hy with rfl | hy
        · omega
        · exact h2 y (List.mem_cons_of_mem _ hy)
theorem maxI_spec : ∀ (r : List Int) (x : Int), maxI x r ∈ x :: r ∧ ∀ y ∈ x :: r, y ≤ maxI x r
  | [], x => ⟨by simp [maxI], fun y h => by simp at h; subst h; simp [maxI]⟩
  | z :: r, x => by
    obtain ⟨h1, h2⟩ := maxI_spec r (if x < z then z else x)
    unfold maxI
    refine ⟨?_, fun y hy => ?_⟩
    · rcases List.mem_cons.mp h1 with e | e
      · rw [e]
        split
        · simp
        · simp
      · simp [e]
    · have hc : ∀ m, m = (if x < z then z else x) → x ≤ m ∧ z ≤ m := fun m hm => by
        subst hm
        split <;> omega
      have hm := hc _ rfl
      generalize (if x < z then z else x) = m at h1 h2 hm ⊢
      have h0 := h2 _ (List.mem_cons_self)
      rcases List.mem_cons.mp hy with rfl | hy
      · omega
      · rcases List.mem_cons.mp hy with rfl | hy
        · omega
        · exact h2 y (List.mem_cons_of_mem _ hy)
theorem insI_perm (x : Int) : ∀ r : List Int, (insI x r).Perm (x :: r)
  | [] => List.Perm.refl _
  | y :: r => by
    unfold insI
    split
    · exact List.Perm.refl _
    · exact ((insI_perm x r).cons y).trans (List.Perm.swap x y r)
theorem sortI_perm : ∀ r : List Int, (sortI r).Perm r
  | [] => List.Perm.refl _
  | x :: r => (insI_perm x (sortI r)).trans ((sortI_perm r).cons x)
theorem insI_sorted (x : Int) : ∀ r : List Int, r.Pairwise (· ≤ ·) → (insI x r).Pairwise (· ≤ ·)
  | [], _ => List.pairwise_singleton _ _
  | y :: r, h => by
    have h' := List.pairwise_cons.mp h
    unfold insI
    split
    · rename_i hxy
      refine List.pairwise_cons.mpr ⟨fun z hz => ?_, h⟩
      rcases List.mem_cons.mp hz with rfl | hz
      · exact hxy
      · exact Int.le_trans hxy (h'.1 z hz)
    · rename_i hxy
      refine List.pairwise_cons.mpr ⟨fun z hz => ?_, insI_sorted x r h'.2⟩
      rcases List.mem_cons.mp ((insI_perm x r).mem_iff.mp hz) with rfl | hz
      · omega
      · exact h'.1 z hz
theorem sortI_sorted : ∀ r : List Int, (sortI r).Pairwise (· ≤ ·)
  | [] => List.Pairwise.nil
  | x :: r => insI_sorted x _ (sortI_sorted r)
theorem sortI_uniq {a b : List Int} (h : a.Perm b) (hs : a.Pairwise (· ≤ ·)) : a = sortI b := PySem.W.ksm_same (h.trans (sortI_perm b).symm) hs (sortI_sorted b)
theorem findI_spec (d : PyData) : ∀ (ds : List PyData) (j : Nat), findI d ds = some j → ∃ z, ds[j]? = some z ∧ PyData.eqv z d = true ∧ ∀ (m : Nat) (z' : PyData), m < j → ds[m]? = some z' → PyData.eqv z' d = false
  | [], j, h => by cases h
  | x :: r, j, h => by
    unfold findI at h
    split at h
    · rename_i hx
      cases h
      exact ⟨x, rfl, hx, fun m z hm => absurd hm (Nat.not_lt_zero m)⟩
    · rename_i hx
      cases e : findI d r with
      | none =>
        rw [e] at h
        cases h
      | some k =>
        rw [e] at h
        have hj : k + 1 = j := Option.some.inj h
        subst hj
        obtain ⟨z, h1, h2, h3⟩ := findI_spec d r k e
        refine ⟨z, by simpa using h1, h2, fun m z' hm hz => ?_⟩
        cases m with
        | zero =>
          simp at hz
          subst hz
          simpa using hx
        | succ m => exact h3 m z' (by omega) (by simpa using hz)
section
variable {X : Cx}
theorem c_len : CallR X (.builtin "len") (rC X.K (bltD .len)) := by
  refine CallR.imp (call_len_seq.or call_len_str) fun xs H Q h => ?_
  obtain ⟨Hf, ds, z, ex, rs, g, q⟩ := h
  unfold bltD at g
  split at g <;> first | cases g | skip
  all_goals (try rename_i e; try cases e)
  all_goals (obtain ⟨x, rfl, r⟩ := one_of rs)
  · obtain ⟨l, vs, rfl, sq, rv⟩ := r.list ex
    exact .inl ⟨l, vs, rfl, .inl sq, by rw [rv.len]; exact fin_int q⟩
  · obtain ⟨l, vs, rfl, sq, rv⟩ := r.tuple ex
    exact .inl ⟨l, vs, rfl, .inr sq, by rw [rv.len]; exact fin_int q⟩
  · have := r.str
    subst this
    split at g
    · cases g
      exact .inr ⟨_, rfl, by assumption, fin_int q⟩
    · cases g

theorem c_int : CallR X (.type "int") (rC X.K (bltD .int)) := by
  refine CallR.imp call_int1 fun xs H Q h => ?_
  obtain ⟨Hf, ds, z, ex, rs, g, q⟩ := h
  unfold bltD at g
  split at g <;> first | cases g | skip
  all_goals (try rename_i e; try cases e)
  all_goals (obtain ⟨x, rfl, r⟩ := one_of rs)
  · have := r.int
    subst this
    exact .inl ⟨_, rfl, fin_int q⟩
  · have := r.bool
    subst this
    exact .inr ⟨_, rfl, fin_int q⟩
theorem call_list_str1 (hc : X.calm = true) : CallR X (.type "list") (fun xs H Q => ∃ z : Str, xs = [.str z] ∧ z.length ≤ sizeLine ∧ ∀ l, H l = none → Q (.ref l) (upd H l (.lst (z.cps.toList.map fun c => V.str ⟨#[c]⟩)))) := by
  intro pins s σ H xs us Q I r h
  obtain ⟨z, rfl, hz, q⟩ := h
  obtain ⟨u, rfl, rx⟩ := vals1 r
  obtain ⟨t, rfl⟩ := rx
  refine call_list_str (I.ok.hd hc) z t (hn := hz) fun h' tk acc' c' hk hS' hacc => ?_
  have hf : H s.heap.objs.size = none := I.hok.fresh (Nat.le_refl _)
  refine ⟨.ref s.heap.objs.size, _, I.laid (t' := tk) (o := .lst (z.cps.toList.map fun c => V.str ⟨#[c]⟩)) hk (Nat.le_refl _) ?_, rfl, q _ hf⟩
  refine ⟨by rw [List.length_map, Array.length_toList]; exact hz, acc'.toList, c', ?_, by simpa using hS'⟩
  have main : ∀ (cs : List Nat) (as : List Value), as.length = cs.length → (∀ (j : Nat) (v : Value), as[j]? = some v → ∃ c u, cs[j]? = some c ∧ v = Value.str ⟨#[c]⟩ u) → Vals (cs.map fun c => V.str ⟨#[c]⟩) as := by
    intro cs
    induction cs with
    | nil =>
      intro as hl _
      cases as with
      | nil => exact .nil
      | cons => simp at hl
    | cons c cs ih =>
      intro as hl ha
      cases as with
      | nil => simp at hl
      | cons v as =>
        obtain ⟨c1, u1, e1, e2⟩ := ha 0 v rfl
        simp at e1
        subst e1
        refine .cons ⟨u1, e2⟩ (ih as (by simpa using hl) fun j v hv => ?_)
        obtain ⟨c2, u2, e3, e4⟩ := ha (j + 1) v (by simpa using hv)
        exact ⟨c2, u2, by simpa using e3, e4⟩
  refine main _ _ (by rw [Array.length_toList, Array.length_toList]; exact hacc.1) fun j v hv => ?_
  obtain ⟨c, u, hc, e⟩ := hacc.2 j v (by simpa using hv)
  exact ⟨c, u, by simpa using hc, e⟩
theorem c_list (hc : X.calm = true) : CallR X (.type "list") (rC X.K (bltD .list)) := by
  refine CallR.imp (call_list_of.or (call_list_str1 hc)) fun xs H Q h => ?_
  obtain ⟨Hf, ds, z, ex, rs, g, q⟩ := h
  unfold bltD at g
  split at g <;> first | cases g | skip
  all_goals (try rename_i e; try cases e)
  all_goals (obtain ⟨x, rfl, r⟩ := one_of rs)
  · obtain ⟨l, vs, rfl, sq, rv⟩ := r.list ex
    exact .inl ⟨l, vs, rfl, .inl sq, fin_lst ex rv q⟩
  · obtain ⟨l, vs, rfl, sq, rv⟩ := r.tuple ex
    exact .inl ⟨l, vs, rfl, .inr sq, fin_lst ex rv q⟩
  · have := r.str
    subst this
    split at g
    · cases g
      exact .inr ⟨_, rfl, by assumption, fin_lst ex (rp_signs _) q⟩
    · cases g
theorem c_tuple : CallR X (.type "tuple") (rC X.K (bltD .tuple)) := by
  refine CallR.imp (call_tuple_of.or call_tupleS) fun xs H Q h => ?_
  obtain ⟨Hf, ds, z, ex, rs, g, q⟩ := h
  unfold bltD at g
  split at g <;> first | cases g | skip
  all_goals (try rename_i e; try cases e)
  all_goals (obtain ⟨x, rfl, r⟩ := one_of rs)
  · obtain ⟨l, vs, rfl, sq, rv⟩ := r.list ex
    exact .inr ⟨l, vs, rfl, sq, fin_tup ex rv q⟩
  · have r' := r
    obtain ⟨l, vs, rfl, sq, rv⟩ := r.tuple ex
    refine .inl ⟨l, vs, rfl, .inr ⟨sq, ?_⟩⟩
    rcases r' with r' | ⟨_, _, _, _, e2, _⟩
    · exact q _ _ _ .refl r'
    · cases e2
theorem c_min (hc : X.calm = true) : CallR X (.builtin "min") (rC X.K (bltD .min)) := by
  refine CallR.imp ((call_min2 hc).or (cr_min hc)) fun xs H Q h => ?_
  obtain ⟨Hf, ds, z, ex, rs, g, q⟩ := h
  unfold bltD at g
  split at g <;> first | cases g | skip
  all_goals (try rename_i e; try cases e)
  · obtain ⟨x, y, rfl, r, r2⟩ := two_of rs
    have := r.int
    subst this
    have := r2.int
    subst this
    exact .inl ⟨_, _, rfl, fin_int q⟩
  · obtain ⟨x, rfl, r⟩ := one_of rs
    split at g
    · rename_i i rr hi
      cases g
      obtain ⟨l, vs, rfl, sq, rv⟩ := r.list ex
      rw [rv.ints hi] at sq
      obtain ⟨m1, m2⟩ := minI_spec rr i
      refine .inr ⟨l, i :: rr, rfl, sq, by simp, fun m h1 h2 => ?_⟩
      have : m = minI i rr := Int.le_antisymm (h2 _ m1) (m2 m h1)
      rw [this]
      exact fin_int q
    · cases g
theorem c_max (hc : X.calm = true) : CallR X (.builtin "max") (rC X.K (bltD .max)) := by
  refine CallR.imp ((call_max2 hc).or (cr_max hc)) fun xs H Q h => ?_
  obtain ⟨Hf, ds, z, ex, rs, g, q⟩ := h
  unfold bltD at g
  split at g <;> first | cases g | skip
  all_goals (try rename_i e; try cases e)
  · obtain ⟨x, y, rfl, r, r2⟩ := two_of rs
    have := r.int
    subst this
    have := r2.int
    subst this
    exact .inl ⟨_, _, rfl, fin_int q⟩
  · obtain ⟨x, rfl, r⟩ := one_of rs
    split at g
    · rename_i i rr hi
      cases g
      obtain ⟨l, vs, rfl, sq, rv⟩ := r.list ex
      rw [rv.ints hi] at sq
      obtain ⟨m1, m2⟩ := maxI_spec rr i
      refine .inr ⟨l, i :: rr, rfl, sq, by simp, fun m h1 h2 => ?_⟩
      have : m = maxI i rr := Int.le_antisymm (m2 m h1) (h2 _ m1)
      rw [this]
      exact fin_int q
    · cases g
theorem c_any (hc : X.calm = true) : CallR X (.builtin "any") (rC X.K (bltD .any)) := by
  refine CallR.imp (cr_any hc) fun xs H Q h => ?_
  obtain ⟨Hf, ds, z, ex, rs, g, q⟩ := h
  unfold bltD at g
  split at g <;> first | cases g | skip
  all_goals (try rename_i e; try cases e)
  obtain ⟨x, rfl, r⟩ := one_of rs
  rename_i xs
  cases hi : boolsOf xs with
  | none =>
    rw [hi] at g
    cases g
  | some bs =>
    rw [hi] at g
    cases g
    obtain ⟨l, vs, rfl, sq, rv⟩ := r.list ex
    rw [rv.bools hi] at sq
    exact ⟨l, bs, rfl, sq, fin_bool q⟩
theorem c_all (hc : X.calm = true) : CallR X (.builtin "all") (rC X.K (bltD .all)) := by
  refine CallR.imp (cr_all hc) fun xs H Q h => ?_
  obtain ⟨Hf, ds, z, ex, rs, g, q⟩ := h
  unfold bltD at g
  split at g <;> first | cases g | skip
  all_goals (try rename_i e; try cases e)
  obtain ⟨x, rfl, r⟩ := one_of rs
  rename_i xs
  cases hi : boolsOf xs with
  | none =>
    rw [hi] at g
    cases g
  | some bs =>
    rw [hi] at g
    cases g
    obtain ⟨l, vs, rfl, sq, rv⟩ := r.list ex
    rw [rv.bools hi] at sq
    exact ⟨l, bs, rfl, sq, fin_bool q⟩
theorem c_sorted : CallR X (.builtin "sorted") (rC X.K (bltD .sorted)) := by
  refine CallR.imp cr_sortedI fun xs H Q h => ?_
  obtain ⟨Hf, ds, z, ex, rs, g, q⟩ := h
  unfold bltD at g
  split at g <;> first | cases g | skip
  all_goals (try rename_i e; try cases e)
  obtain ⟨x, rfl, r⟩ := one_of rs
  rename_i xs
  cases hi : intsOf xs with
  | none =>
    rw [hi] at g
    cases g
  | some bs =>
    rw [hi] at g
    cases g
    obtain ⟨l, vs, rfl, sq, rv⟩ := r.list ex
    rw [rv.ints hi] at sq
    refine ⟨l, bs, rfl, sq, fun ns' p hp hs hn => ?_⟩
    rw [sortI_uniq hp hs]
    exact fin_lst ex (rp_ints _) q p hn
/-! ### isinstance -/
theorem c_isi {n : String} {g : List PyData → Option PyData} (hg : ∀ ds z, g ds = some z → ∃ d b, ds = [d] ∧ z = .bool b ∧
      (match d with
        | .none => kitB "NoneType" n = some b
        | .bool _ => kitB "bool" n = some b
        | .int _ => kitB "int" n = some b
        | .str _ => kitB "str" n = some b
        | .list _ => kitB "list" n = some b
        | .tuple _ => kitB "tuple" n = some b
        | .dict _ => False)) : CallR X (.builtin "isinstance") (fun xs H Q => ∃ x, xs = [x, .ty n] ∧ rC X.K g [x] H Q) := by
  refine CallR.imp call_isi fun xs H Q h => ?_
  obtain ⟨x, rfl, Hf, ds, z, ex, rs, g, q⟩ := h
  obtain ⟨d, b, rfl, rfl, hd⟩ := hg _ _ g
  obtain ⟨x', e, r⟩ := one_of rs
  cases e
  have q := fin_bool q
  rcases r with r | ⟨l, vs, ys, e, e2, h, hs⟩
  · cases r with
    | non => exact ⟨_, _, _, _, b, rfl, .ty n, .base .non, kit_ty hd, q⟩
    | bl k => exact ⟨_, _, _, _, b, rfl, .ty n, .base (.bl k), kit_ty hd, q⟩
    | int k => exact ⟨_, _, _, _, b, rfl, .ty n, .base (.int k), kit_ty hd, q⟩
    | str k => exact ⟨_, _, _, _, b, rfl, .ty n, .base (.str k), kit_ty hd, q⟩
    | lst h _ => exact ⟨_, _, _, _, b, rfl, .ty n, .base (.lst (ex _ _ h)), kit_ty hd, q⟩
    | tup h _ _ => exact ⟨_, _, _, _, b, rfl, .ty n, .fTuple (ex _ _ h), kit_ty hd, q⟩
  · subst e e2
    rcases h with (h | ⟨o, h⟩) | ⟨o, its, n', h, hc, _⟩
    · exact ⟨_, _, _, _, b, rfl, .ty n, .base (.lst h), kit_ty hd, q⟩
    · exact ⟨_, _, _, _, b, rfl, .ty n, .base (.frz h), kit_ty hd, q⟩
    · exact ⟨_, _, _, _, b, rfl, .ty n, .kList h hc, kit_ty hd, q⟩
theorem c_isStr : CallR X (.builtin "isinstance") (fun xs H Q => ∃ x, xs = [x, .ty "str"] ∧ rC X.K (bltD .isStr) [x] H Q) := c_isi fun ds z h => by
  cases ds with
  | nil => cases h
  | cons d t =>
    cases t with
    | cons e t => cases h
    | nil => cases d <;> first | exact ⟨_, _, rfl, (Option.some.inj h).symm, by first | (show _ = some false; decide +kernel) | (show _ = some true; decide +kernel)⟩ | cases h
theorem c_isInt : CallR X (.builtin "isinstance") (fun xs H Q => ∃ x, xs = [x, .ty "int"] ∧ rC X.K (bltD .isInt) [x] H Q) := c_isi fun ds z h => by
  cases ds with
  | nil => cases h
  | cons d t =>
    cases t with
    | cons e t => cases h
    | nil => cases d <;> first | exact ⟨_, _, rfl, (Option.some.inj h).symm, by first | (show _ = some false; decide +kernel) | (show _ = some true; decide +kernel)⟩ | cases h
theorem c_isBool : CallR X (.builtin "isinstance") (fun xs H Q => ∃ x, xs = [x, .ty "bool"] ∧ rC X.K (bltD .isBool) [x] H Q) := c_isi fun ds z h => by
  cases ds with
  | nil => cases h
  | cons d t =>
    cases t with
    | cons e t => cases h
    | nil => cases d <;> first | exact ⟨_, _, rfl, (Option.some.inj h).symm, by first | (show _ = some false; decide +kernel) | (show _ = some true; decide +kernel)⟩ | cases h
theorem c_isTuple : CallR X (.builtin "isinstance") (fun xs H Q => ∃ x, xs = [x, .ty "tuple"] ∧ rC X.K (bltD .isTuple) [x] H Q) := c_isi fun ds z h => by
  cases ds with
  | nil => cases h
  | cons d t =>
    cases t with
    | cons e t => cases h
    | nil => cases d <;> first | exact ⟨_, _, rfl, (Option.some.inj h).symm, by first | (show _ = some false; decide +kernel) | (show _ = some true; decide +kernel)⟩ | cases h
theorem c_isList : CallR X (.builtin "isinstance") (fun xs H Q => ∃ x, xs = [x, .ty "list"] ∧ rC X.K (bltD .isList) [x] H Q) := c_isi fun ds z h => by
  cases ds with
  | nil => cases h
  | cons d t =>
    cases t with
    | cons e t => cases h
    | nil => cases d <;> first | exact ⟨_, _, rfl, (Option.some.inj h).symm, by first | (show _ = some false; decide +kernel) | (show _ = some true; decide +kernel)⟩ | cases h
end
end Pl

set_option Elab.async false
set_option linter.all false
set_option maxRecDepth 100000
set_option maxHeartbeats 1000000
/-! Pl: methods by data; the terms' soundness. -/
namespace Pl
open PySem PySem.Spec PyProof.Rows L2

/-! ### t.index(x), t a tuple whose object is known -/
def rIxTD (K : PySem.W.Frag) : V → List V → Hp → VK → Prop := fun x xs H Q => ∃ (a : Addr) (o : Obj) (vs : List V) (y : V) (d : PyData) (ds : List PyData) (j : Nat), x = .ref a ∧ xs = [y] ∧ H a = some (.frz o (.tup vs)) ∧ o.dict = none ∧ DpAll K H vs ds ∧ Dp K H y d ∧
  SeqAt.shaped (.list ds) = true ∧ SeqAt.shaped d = true ∧ findI d ds = some j ∧ Q (.int (j : Nat)) H
section
variable {X : Cx}
theorem mt_indexT (hu : X.A.units + 65 < cLine) : MtR X "tuple.index" (rIxTD X.K) := fun pins s σ H x xs v us Q I rx rxs ⟨a, o, vs, y, d, ds, j, ex, exs, ha, hd, hvs, hy, sl, sd, hf, q⟩ => by
  subst ex exs
  cases rx
  obtain ⟨uy, eu, ry⟩ := vals1 rxs
  subst eu
  obtain ⟨bs, r1⟩ := Dp.reads I d y uy hy ry
  have hxs : PyData.canLayAll0 ds = true := SeqAt.canLay_of_shaped sl
  obtain ⟨ho, hz, its, rv, o2, ho2, hc, n, hdt⟩ := I.hok a _ ha
  rw [ho] at ho2
  cases ho2
  obtain ⟨cls, dd, data, sls⟩ := o
  simp only at hc hdt hd
  subst hc hdt hd
  obtain ⟨as, h4⟩ := Dp.readsAll I ds _ its hvs rv
  have hn : its.length = ds.length := SeqAt.ReadsAll.length ds its as h4
  have hmap : its.map (SeqAt.readOf s.heap) = ds := SeqAt.readsAll_map ds its as hxs h4
  obtain ⟨z, hzj, hze, hno⟩ := findI_spec d ds j hf
  have hjd : j < ds.length := (List.getElem?_eq_some_iff.mp hzj).1
  have hj : j < its.toArray.size := by
    rw [List.size_toArray]
    omega
  have at_ : ∀ (m : Nat) (hm : m < its.toArray.size) (z' : PyData), ds[m]? = some z' → SeqAt.readOf s.heap its.toArray[m] = z' := fun m hm z' hz' => by
    have hml : m < its.length := by simpa using hm
    rw [← hmap, List.getElem?_map, List.getElem?_eq_getElem hml] at hz'
    have e1 := Option.some.inj hz'
    simpa using e1
  refine call_meets F.slot_tuple_index ⟨_, ho, rfl⟩ F.entry_tuple_index (F.args_tuple_index_2 _ _) (TI.tuple_indexAt a its.toArray n none sls uy (fun u => PyData.eqv (SeqAt.readOf s.heap u) d) j hj ?_ ?_)
    ⟨ho, SeqAt.items_eqAt (vs := its.toArray) (xs := ds) (by simpa using h4) r1 hxs (SeqAt.canLay_of_shaped sd) (room_in_shaped sd hu), ⟨.int (j : Nat), H, I.tok _, ⟨_, rfl⟩, q⟩⟩
  · show PyData.eqv (SeqAt.readOf s.heap its.toArray[j]) d = true
    rw [at_ j hj z hzj]
    exact hze
  · intro m hm hmj
    have hz' : ds[m]? = some (ds[m]'(by omega)) := List.getElem?_eq_getElem _
    show PyData.eqv (SeqAt.readOf s.heap its.toArray[m]) d = false
    rw [at_ m hm _ hz']
    exact hno m _ hmj hz'
def tBMT (r : V → List V → Hp → VK → Prop) (to : TE) (t : TA) : TE := fun σ H Q => to σ H fun x H1 => (∃ p o xs, x = .ref p ∧ H1 p = some (.frz o (.tup xs)) ∧ o.dict = none) ∧ t σ H1 fun xs H2 => r x xs H2 Q
theorem pe_bmT {o e : Expr} {es : List Expr} {to : TE} {t : TA} {name : Str} {apos cpos : Pos} {id : String} {r : V → List V → Hp → VK → Prop} (slot : Slot "tuple" name id) (hty : typeOf (.builtin id) = pure (.type "method_descriptor")) (hm : MtR X id r) (ho : PE X o to) (ha : PA X (e :: es) t)
    (hbase : attributeBase o name X.env (eval o X.env) = eval o X.env) (hfew : ((backTo cpos (starEach (e :: es) X.env)).all (fun x => !x.1) && (backToKw cpos (keywordEach [] X.env)).all (fun x => x.1.isSome) && decide ((e :: es).length + ([] : List Keyword).length + (if ([] : List Keyword).isEmpty then 0 else 1) < 30)) = true)
    (hline : (apos.endLine == cpos.line) = true) (hs : starEach (e :: es) X.env = (false, eval e X.env) :: starEach es X.env) (hplain : (backTo cpos (starEach es X.env)).any (·.1) = false) : PE X (.Call (.Attribute o name apos) (e :: es) [] cpos) (tBMT r to t) :=
  ⟨fun pins s σ H Q I h => wpAny_Call_method_late hbase hfew hline rfl (thn (ho.run pins s σ H _ I h) fun v s1 ⟨x, H1, I1, r1, ⟨p, ob, xs, ex, hp, hd⟩, q1⟩ => by
    subst ex
    obtain ⟨g1, _, _, _, o2, g2, hc, _⟩ := I1.hok p _ hp
    rw [g1] at g2
    cases g2
    have er : v = .ref p := r1
    subst er
    refine ⟨"tuple", id, F.plainAttrs_tuple, slot, hty, ⟨ob, g1, hc⟩, fun a e => by cases e; exact ⟨ob, g1, hd⟩, ?_⟩
    have hA := ha.run cpos pins s1 σ H1 _ I1 q1
    rw [hs] at hA ⊢
    exact Calls.callWith_builtin (by show (false || (backTo cpos (starEach es X.env)).any (fun z => z.1)) = false; rw [hplain] <;> rfl) (Calls.evalArgs_plain (thn hA fun us s2 ⟨vs, H2, I2, r2, q2⟩ => hm pins s2 σ H2 _ vs _ us Q I2 r1 r2 q2)))⟩
end

/-! ### the terms' readings -/
section
variable (K : PySem.W.Frag) (C : CallF) (T : Addr) (H0 Hf0 : Hp)
def tE (m : M) : TE := fun σ H Q => ∃ Hf env t d t', Abs K T H0 Hf0 Hf env t σ H ∧ ev C env m t = some (d, t') ∧ ∀ v Hf' H', Abs K T H0 Hf0 Hf' env t' σ H' → Kp T Hf H Hf' H' → Rp Hf' v d → Q v H'
/-- a term that is read at once: what may still change is read then -/
def tR (m : M) : TE := fun σ H Q => ∃ Hf env t d t', Abs K T H0 Hf0 Hf env t σ H ∧ ev C env m t = some (d, t') ∧ ∀ v Hf' H', Abs K T H0 Hf0 Hf' env t' σ H' → Kp T Hf H Hf' H' → (∀ Hf2 H2 t2, Abs K T H0 Hf0 Hf2 env t2 σ H2 → Kp T Hf' H' Hf2 H2 → Rb K Hf2 H2 v d) → Q v H'
def tT (m : M) : TT := fun σ H Q => ∃ Hf env t b t', Abs K T H0 Hf0 Hf env t σ H ∧ ev C env m t = some (.bool b, t') ∧ ∀ Hf' H', Abs K T H0 Hf0 Hf' env t' σ H' → Kp T Hf H Hf' H' → Q b H'
def ArgOK (Hf : Hp) (v : V) : LV → Prop
  | .d x => Rp Hf v x
  | .tp => v = .ref T
  | .scr ns => ∃ l, v = .ref l ∧ SqL K Hf l (ns.map V.int)
  | .gd kvs => ∃ l vs, v = .ref l ∧ Hf l = some (.dK vs) ∧ KvAll Hf vs kvs
  | _ => False
def tA (m : M) : TA := fun σ H Q => ∃ Hf env t lvs t', Abs K T H0 Hf0 Hf env t σ H ∧ evs C env m t = some (lvs, t') ∧ ∀ vs Hf' H', Abs K T H0 Hf0 Hf' env t' σ H' → Kp T Hf H Hf' H' → Paired (ArgOK K T Hf') vs lvs → Q vs H'
end
/-- the term m says what the expression e is worth -/
structure SemE (C : CallF) (X : Cx) (e : Expr) (m : M) : Prop where
  run : ∀ T H0 Hf0, PE X e (tE X.K C T H0 Hf0 m)
structure SemR (C : CallF) (X : Cx) (e : Expr) (m : M) : Prop where
  run : ∀ T H0 Hf0, PE X e (tR X.K C T H0 Hf0 m)
structure SemT (C : CallF) (X : Cx) (e : Expr) (m : M) : Prop where
  run : ∀ T H0 Hf0, PT X e (tT X.K C T H0 Hf0 m)
structure SemA (C : CallF) (X : Cx) (es : List Expr) (m : M) : Prop where
  run : ∀ T H0 Hf0, PA X es (tA X.K C T H0 Hf0 m)
section
variable {C : CallF} {X : Cx} {a b c e : Expr} {es : List Expr} {ma mb mc m : M} {pos : Pos} {K : PySem.W.Frag} {T : Addr} {H0 Hf0 Hf : Hp} {env : Env} {t t1 t2 : Int} {σ : L2.St} {H : Hp} {d1 d2 : PyData}
theorem ArgOK.kp {Hf' H' : Hp} {v : V} (k : Kp T Hf H Hf' H') : ∀ {lv : LV}, ArgOK K T Hf v lv → ArgOK K T Hf' v lv
  | .d x, h => Rp.mono k.ex _ _ h
  | .tp, h => h
  | .scr ns, ⟨l, e, h⟩ => ⟨l, e, Same.seq k.ex h⟩
  | .own _, h => h
  | .dk _ _, h => h
  | .gd _, ⟨l, vs, e, a, c⟩ => ⟨l, vs, e, k.ex _ _ a, KvAll.mono k.ex c⟩
  | .dt _, h => h
theorem SemE.r (h : SemE C X e m) : SemR C X e m := ⟨fun T H0 Hf0 => PE.imp (h.run T H0 Hf0) fun σ H Q ⟨Hf, env, t, d, t', A, e, k⟩ => ⟨Hf, env, t, d, t', A, e, fun v Hf' H' A' kp r => k v Hf' H' A' kp fun Hf2 H2 t2 A2 k2 => .inl (Rp.mono k2.ex _ _ r)⟩⟩
/-- two operands -/
theorem two (A : Abs K T H0 Hf0 Hf env t σ H) (e1 : ev C env ma t = some (d1, t1)) (e2 : ev C env mb t1 = some (d2, t2)) {R : V → V → Hp → Prop}
    (h : ∀ v1 v2 Hf2 H2, Abs K T H0 Hf0 Hf2 env t2 σ H2 → Kp T Hf H Hf2 H2 → Rp Hf2 v1 d1 → Rp Hf2 v2 d2 → R v1 v2 H2) : tE K C T H0 Hf0 ma σ H fun x H1 => tE K C T H0 Hf0 mb σ H1 fun y H2 => R x y H2 :=
  ⟨Hf, env, t, d1, t1, A, e1, fun v Hf1 H1 A1 k1 r1 => ⟨Hf1, env, t1, d2, t2, A1, e2, fun w Hf2 H2 A2 k2 r2 => h v w Hf2 H2 A2 (k1.trans k2) (Rp.mono k2.ex _ _ r1) r2⟩⟩
theorem twoL (A : Abs K T H0 Hf0 Hf env t σ H) (e1 : ev C env ma t = some (d1, t1)) (e2 : ev C env mb t1 = some (d2, t2)) {R : V → V → Hp → Prop}
    (h : ∀ v1 v2 Hf2 H2, Abs K T H0 Hf0 Hf2 env t2 σ H2 → Kp T Hf H Hf2 H2 → Rb K Hf2 H2 v1 d1 → Rp Hf2 v2 d2 → R v1 v2 H2) : tR K C T H0 Hf0 ma σ H fun x H1 => tE K C T H0 Hf0 mb σ H1 fun y H2 => R x y H2 :=
  ⟨Hf, env, t, d1, t1, A, e1, fun v Hf1 H1 A1 k1 r1 => ⟨Hf1, env, t1, d2, t2, A1, e2, fun w Hf2 H2 A2 k2 r2 => h v w Hf2 H2 A2 (k1.trans k2) (r1 Hf2 H2 t2 A2 k2) r2⟩⟩
theorem twoR (A : Abs K T H0 Hf0 Hf env t σ H) (e1 : ev C env ma t = some (d1, t1)) (e2 : ev C env mb t1 = some (d2, t2)) {R : V → V → Hp → Prop}
    (h : ∀ v1 v2 Hf2 H2, Abs K T H0 Hf0 Hf2 env t2 σ H2 → Kp T Hf H Hf2 H2 → Rp Hf2 v1 d1 → Rb K Hf2 H2 v2 d2 → R v1 v2 H2) : tE K C T H0 Hf0 ma σ H fun x H1 => tR K C T H0 Hf0 mb σ H1 fun y H2 => R x y H2 :=
  ⟨Hf, env, t, d1, t1, A, e1, fun v Hf1 H1 A1 k1 r1 => ⟨Hf1, env, t1, d2, t2, A1, e2, fun w Hf2 H2 A2 k2 r2 => h v w Hf2 H2 A2 (k1.trans k2) (Rp.mono k2.ex _ _ r1) (r2 Hf2 H2 t2 A2 (Kp.refl _ _ _))⟩⟩
theorem map_some {α β : Type} {o : Option α} {f : α → β} {z : β} (h : o.map f = some z) : ∃ x, o = some x ∧ f x = z := by
  cases o with
  | none => cases h
  | some x => exact ⟨x, rfl, Option.some.inj h⟩
theorem ev2 {α : Type} {f : PyData → PyData → Int → Option α} {z : α} (h : (match ev C env ma t with
    | some (x, t1) => match ev C env mb t1 with
      | some (y, t2) => f x y t2
      | none => none
    | none => none) = some z) : ∃ d1 t1 d2 t2, ev C env ma t = some (d1, t1) ∧ ev C env mb t1 = some (d2, t2) ∧ f d1 d2 t2 = some z := by
  cases e1 : ev C env ma t with
  | none =>
    rw [e1] at h
    cases h
  | some p1 =>
    obtain ⟨d1, t1⟩ := p1
    rw [e1] at h
    cases e2 : ev C env mb t1 with
    | none =>
      simp only [e2] at h
      cases h
    | some p2 =>
      obtain ⟨d2, t2⟩ := p2
      simp only [e2] at h
      exact ⟨d1, t1, d2, t2, rfl, e2, h⟩
theorem ev1 {α : Type} {f : PyData → Int → Option α} {z : α} (h : (match ev C env ma t with
    | some (x, t1) => f x t1
    | none => none) = some z) : ∃ d1 t1, ev C env ma t = some (d1, t1) ∧ f d1 t1 = some z := by
  cases e1 : ev C env ma t with
  | none =>
    rw [e1] at h
    cases h
  | some p1 =>
    obtain ⟨d1, t1⟩ := p1
    rw [e1] at h
    exact ⟨d1, t1, rfl, h⟩
/-! ### names, constants -/
theorem se_var (i : Nat) {x : Str} (hN : X.N[i]? = some x) (hv : Vis X.env.scope x) (hd : (x == ("__debug__" : Str)) = false := by decide) (hcd : (x == ("__classdict__" : Str)) = false := by decide) : SemE C X (.Name x pos) (.var i) :=
  ⟨fun T H0 Hf0 => PE.imp (pe_var hN hv hd hcd) fun σ H Q ⟨Hf, env, t, d, t', A, e, k⟩ => by
    unfold ev at e
    split at e
    · rename_i x hx
      cases e
      obtain ⟨v, hs, r⟩ := A.loc i _ hx
      exact ⟨v, hs, k v Hf H A (Kp.refl _ _ _) r⟩
    · cases e⟩
theorem sr_bor (i : Nat) {x : Str} (hN : X.N[i]? = some x) (hv : Vis X.env.scope x) (hd : (x == ("__debug__" : Str)) = false := by decide) (hcd : (x == ("__classdict__" : Str)) = false := by decide) : SemR C X (.Name x pos) (.bor i) :=
  ⟨fun T H0 Hf0 => PE.imp (pe_var hN hv hd hcd) fun σ H Q ⟨Hf, env, t, d, t', A, e, k⟩ => by
    unfold ev at e
    split at e
    · rename_i x hx
      cases e
      obtain ⟨v, hs, r⟩ := A.loc i _ hx
      exact ⟨v, hs, k v Hf H A (Kp.refl _ _ _) fun Hf2 H2 t2 A2 k2 => .inl (Rp.mono k2.ex _ _ r)⟩
    · rename_i xs hx
      cases e
      obtain ⟨v, hs, r⟩ := A.loc i _ hx
      refine ⟨v, hs, k v Hf H A (Kp.refl _ _ _) fun Hf2 H2 t2 A2 k2 => ?_⟩
      obtain ⟨v2, hs2, l, vs, e1, e2, e3, e4⟩ := A2.loc i _ hx
      rw [hs] at hs2
      cases hs2
      exact .inr ⟨l, vs, xs, e1, rfl, SqL.of e3, e4⟩
    · rename_i ns hx
      cases e
      obtain ⟨v, hs, r⟩ := A.loc i _ hx
      refine ⟨v, hs, k v Hf H A (Kp.refl _ _ _) fun Hf2 H2 t2 A2 k2 => ?_⟩
      obtain ⟨v2, hs2, l, e1, e2⟩ := A2.loc i _ hx
      rw [hs] at hs2
      cases hs2
      exact .inr ⟨l, _, _, e1, rfl, Same.seq A2.ex e2, rp_ints ns⟩
    · cases e⟩
theorem se_lit {v : V} {d : PyData} (h : PE X e (tC v)) (r : ∀ Hf, Rp Hf v d) : SemE C X e (.lit d) :=
  ⟨fun T H0 Hf0 => PE.imp h fun σ H Q ⟨Hf, env, t, d', t', A, e, k⟩ => by
    cases e
    exact k v Hf H A (Kp.refl _ _ _) (r Hf)⟩
theorem se_int {i j} : SemE C X (.Constant (.int i) j pos) (.lit (.int i)) := se_lit pe_int fun _ => .int i
theorem se_str {i j} : SemE C X (.Constant (.str i) j pos) (.lit (.str i)) := se_lit pe_str fun _ => .str i
theorem se_bool {i j} : SemE C X (.Constant (.bool i) j pos) (.lit (.bool i)) := se_lit pe_bl fun _ => .bl i
theorem se_none {j} : SemE C X (.Constant .none j pos) (.lit .none) := se_lit pe_non fun _ => .non
/-! ### operators -/
theorem se_op {op : Operator} {o : Op2} (ho : OpR X (binaryOp op) (rD (binD o))) (ha : SemE C X a ma) (hb : SemE C X b mb) : SemE C X (.BinOp a op b pos) (.bin o ma mb) :=
  ⟨fun T H0 Hf0 => PE.imp (pe_op ho (ha.run T H0 Hf0) (hb.run T H0 Hf0)) fun σ H Q ⟨Hf, env, t, d, t', A, e, k⟩ => by
    unfold ev at e
    obtain ⟨d1, t1, d2, t2, e1, e2, g⟩ := ev2 (f := fun x y t2 => (binD o x y).map (·, t2)) e
    obtain ⟨z, gz, ez⟩ := map_some g
    cases ez
    exact two A e1 e2 fun v1 v2 Hf2 H2 A2 k2 r1 r2 => ⟨Hf2, d1, d2, d, A2.ex, r1, r2, gz, fun v Hf' H' ad r => k v Hf' H' (ad.abs A2).1 (k2.trans (ad.abs A2).2) r⟩⟩
theorem se_add (ha : SemE C X a ma) (hb : SemE C X b mb) : SemE C X (.BinOp a .Add b pos) (.bin .add ma mb) := se_op o_add ha hb
theorem se_sub (ha : SemE C X a ma) (hb : SemE C X b mb) : SemE C X (.BinOp a .Sub b pos) (.bin .sub ma mb) := se_op o_sub ha hb
theorem se_mul (ha : SemE C X a ma) (hb : SemE C X b mb) : SemE C X (.BinOp a .Mult b pos) (.bin .mul ma mb) := se_op o_mul ha hb
theorem se_mod (ha : SemE C X a ma) (hb : SemE C X b mb) : SemE C X (.BinOp a .Mod b pos) (.bin .mod ma mb) := se_op o_mod ha hb
theorem se_fdiv (ha : SemE C X a ma) (hb : SemE C X b mb) : SemE C X (.BinOp a .FloorDiv b pos) (.bin .fdiv ma mb) := se_op o_fdiv ha hb
theorem se_neg (ha : SemE C X a ma) : SemE C X (.UnaryOp .USub a pos) (.neg ma) :=
  ⟨fun T H0 Hf0 => PE.imp (pe_un un_neg (ha.run T H0 Hf0)) fun σ H Q ⟨Hf, env, t, d, t', A, e, k⟩ => by
    unfold ev at e
    split at e
    · rename_i i t1 e1
      cases e
      refine ⟨Hf, env, t, .int i, _, A, e1, fun v Hf' H' A' kp r => ?_⟩
      cases r
      exact ⟨i, rfl, k _ _ _ A' kp (.int _)⟩
    · cases e⟩
/-! ### comparisons, as values and as tests -/
structure SemC (C : CallF) (X : Cx) (e : Expr) (m : M) : Prop where
  val : SemE C X e m
  tst : SemT C X e m
theorem sc_op {op : CmpOp} {o : Cm} (ho : OpR X (compareOp op) (rD (bD (cmpD o)))) (ha : SemE C X a ma) (hb : SemE C X b mb) (hm : behindInMarks op b = false) : SemC C X (.Compare a [op] [b] pos) (.cmp o ma mb) := by
  refine ⟨⟨fun T H0 Hf0 => PE.imp (pe_cmpR ho (ha.run T H0 Hf0) (hb.run T H0 Hf0) hm) fun σ H Q ⟨Hf, env, t, d, t', A, e, k⟩ => ?_⟩, ⟨fun T H0 Hf0 => PT.imp (pt_cmpR ho (ha.run T H0 Hf0) (hb.run T H0 Hf0) hm) fun σ H Q ⟨Hf, env, t, d, t', A, e, k⟩ => ?_⟩⟩
  · unfold ev at e
    obtain ⟨d1, t1, d2, t2, e1, e2, g⟩ := ev2 (f := fun x y t2 => (cmpD o x y).map (PyData.bool ·, t2)) e
    obtain ⟨z, gz, ez⟩ := map_some g
    cases ez
    exact two A e1 e2 fun v1 v2 Hf2 H2 A2 k2 r1 r2 => ⟨Hf2, d1, d2, .bool _, A2.ex, r1, r2, by unfold bD; rw [gz] <;> rfl, fun v Hf' H' ad r => k v Hf' H' (ad.abs A2).1 (k2.trans (ad.abs A2).2) r⟩
  · unfold ev at e
    obtain ⟨d1, t1, d2, t2, e1, e2, g⟩ := ev2 (f := fun x y t2 => (cmpD o x y).map (PyData.bool ·, t2)) e
    obtain ⟨z, gz, ez⟩ := map_some g
    cases ez
    exact two A e1 e2 fun v1 v2 Hf2 H2 A2 k2 r1 r2 => ⟨Hf2, d1, d2, .bool _, A2.ex, r1, r2, by unfold bD; rw [gz] <;> rfl, fun v Hf' H' ad r => by
      cases r
      exact ⟨_, rfl, k Hf' H' (ad.abs A2).1 (k2.trans (ad.abs A2).2)⟩⟩
theorem sc_opR {op : CmpOp} {o : Cm} (ho : OpR X (compareOp op) (rDr X.K (bD (cmpD o)))) (ha : SemE C X a ma) (hb : SemR C X b mb) (hm : behindInMarks op b = false) : SemC C X (.Compare a [op] [b] pos) (.cmp o ma mb) := by
  refine ⟨⟨fun T H0 Hf0 => PE.imp (pe_cmpR ho (ha.run T H0 Hf0) (hb.run T H0 Hf0) hm) fun σ H Q ⟨Hf, env, t, d, t', A, e, k⟩ => ?_⟩, ⟨fun T H0 Hf0 => PT.imp (pt_cmpR ho (ha.run T H0 Hf0) (hb.run T H0 Hf0) hm) fun σ H Q ⟨Hf, env, t, d, t', A, e, k⟩ => ?_⟩⟩
  · unfold ev at e
    obtain ⟨d1, t1, d2, t2, e1, e2, g⟩ := ev2 (f := fun x y t2 => (cmpD o x y).map (PyData.bool ·, t2)) e
    obtain ⟨z, gz, ez⟩ := map_some g
    cases ez
    exact twoR A e1 e2 fun v1 v2 Hf2 H2 A2 k2 r1 r2 => ⟨Hf2, d1, d2, .bool _, A2.ex, r1, r2, by unfold bD; rw [gz] <;> rfl, fun v Hf' H' ad r => k v Hf' H' (ad.abs A2).1 (k2.trans (ad.abs A2).2) r⟩
  · unfold ev at e
    obtain ⟨d1, t1, d2, t2, e1, e2, g⟩ := ev2 (f := fun x y t2 => (cmpD o x y).map (PyData.bool ·, t2)) e
    obtain ⟨z, gz, ez⟩ := map_some g
    cases ez
    exact twoR A e1 e2 fun v1 v2 Hf2 H2 A2 k2 r1 r2 => ⟨Hf2, d1, d2, .bool _, A2.ex, r1, r2, by unfold bD; rw [gz] <;> rfl, fun v Hf' H' ad r => by
      cases r
      exact ⟨_, rfl, k Hf' H' (ad.abs A2).1 (k2.trans (ad.abs A2).2)⟩⟩
theorem sc_eq (hu : X.A.units + 64 < cLine) (ha : SemE C X a ma) (hb : SemE C X b mb) : SemC C X (.Compare a [.Eq] [b] pos) (.cmp .eq ma mb) := sc_op (o_eq hu) ha hb (nomark _)
theorem sc_ne (hu : X.A.units + 64 < cLine) (ha : SemE C X a ma) (hb : SemE C X b mb) : SemC C X (.Compare a [.NotEq] [b] pos) (.cmp .ne ma mb) := sc_op (o_ne hu) ha hb (nomark _)
theorem sc_lt (ha : SemE C X a ma) (hb : SemE C X b mb) : SemC C X (.Compare a [.Lt] [b] pos) (.cmp .lt ma mb) := sc_op (o_ord op_lt) ha hb (nomark _)
theorem sc_le (ha : SemE C X a ma) (hb : SemE C X b mb) : SemC C X (.Compare a [.LtE] [b] pos) (.cmp .le ma mb) := sc_op (o_ord op_le) ha hb (nomark _)
theorem sc_gt (ha : SemE C X a ma) (hb : SemE C X b mb) : SemC C X (.Compare a [.Gt] [b] pos) (.cmp .gt ma mb) := sc_op (o_ord op_gt) ha hb (nomark _)
theorem sc_ge (ha : SemE C X a ma) (hb : SemE C X b mb) : SemC C X (.Compare a [.GtE] [b] pos) (.cmp .ge ma mb) := sc_op (o_ord op_ge) ha hb (nomark _)
theorem sc_in (hu : X.A.units + 65 < cLine) (ha : SemE C X a ma) (hb : SemR C X b mb) (hm : behindInMarks .In b = false := by with_unfolding_all rfl) : SemC C X (.Compare a [.In] [b] pos) (.cmp .isin ma mb) := sc_opR (o_in hu) ha hb hm
theorem sc_notin (hu : X.A.units + 65 < cLine) (ha : SemE C X a ma) (hb : SemR C X b mb) (hm : behindInMarks .NotIn b = false := by with_unfolding_all rfl) : SemC C X (.Compare a [.NotIn] [b] pos) (.cmp .notin ma mb) := sc_opR (o_notin hu) ha hb hm
theorem rp_none {v : V} {d : PyData} (r : Rp Hf v d) : decide (v = .non) = isNone d := by
  cases r <;> simp [isNone]
theorem sc_isN {j p} (ha : SemE C X a ma) : SemC C X (.Compare a [.Is] [.Constant .none j p] pos) (.isN false ma) := by
  refine ⟨⟨fun T H0 Hf0 => PE.imp (pe_cmp (pc_isN (ha.run T H0 Hf0))) fun σ H Q ⟨Hf, env, t, d, t', A, e, k⟩ => ?_⟩, ⟨fun T H0 Hf0 => PT.imp (pt_cmp (pc_isN (ha.run T H0 Hf0))) fun σ H Q ⟨Hf, env, t, d, t', A, e, k⟩ => ?_⟩⟩
  · unfold ev at e
    obtain ⟨d1, t1, e1, g⟩ := ev1 (f := fun x t1 => some (PyData.bool (if false = true then !isNone x else isNone x), t1)) e
    cases g
    exact ⟨Hf, env, t, d1, _, A, e1, fun v Hf' H' A' kp r => k _ _ _ A' kp (by rw [rp_none r]; exact .bl _)⟩
  · unfold ev at e
    obtain ⟨d1, t1, e1, g⟩ := ev1 (f := fun x t1 => some (PyData.bool (if false = true then !isNone x else isNone x), t1)) e
    cases g
    exact ⟨Hf, env, t, d1, _, A, e1, fun v Hf' H' A' kp r => ⟨_, by rw [rp_none r]; rfl, k _ _ A' kp⟩⟩
theorem sc_notN {j p} (ha : SemE C X a ma) : SemC C X (.Compare a [.IsNot] [.Constant .none j p] pos) (.isN true ma) := by
  refine ⟨⟨fun T H0 Hf0 => PE.imp (pe_cmp (pc_notN (ha.run T H0 Hf0))) fun σ H Q ⟨Hf, env, t, d, t', A, e, k⟩ => ?_⟩, ⟨fun T H0 Hf0 => PT.imp (pt_cmp (pc_notN (ha.run T H0 Hf0))) fun σ H Q ⟨Hf, env, t, d, t', A, e, k⟩ => ?_⟩⟩
  · unfold ev at e
    obtain ⟨d1, t1, e1, g⟩ := ev1 (f := fun x t1 => some (PyData.bool (if true = true then !isNone x else isNone x), t1)) e
    cases g
    exact ⟨Hf, env, t, d1, _, A, e1, fun v Hf' H' A' kp r => k _ _ _ A' kp (by rw [rp_none r]; exact .bl _)⟩
  · unfold ev at e
    obtain ⟨d1, t1, e1, g⟩ := ev1 (f := fun x t1 => some (PyData.bool (if true = true then !isNone x else isNone x), t1)) e
    cases g
    exact ⟨Hf, env, t, d1, _, A, e1, fun v Hf' H' A' kp r => ⟨_, by rw [rp_none r]; rfl, k _ _ A' kp⟩⟩
/-! ### tests -/
theorem st_val (h : SemE C X e m) (he : ∀ whole, isTrue e X.env whole = (do let v ← whole; standAt e.pos; holding [v] (truthy v)) := by intro _; rfl) : SemT C X e m :=
  ⟨fun T H0 Hf0 => PT.imp (pt_val (h.run T H0 Hf0) he) fun σ H Q ⟨Hf, env, t, d, t', A, e, k⟩ => ⟨Hf, env, t, _, _, A, e, fun v Hf' H' A' kp r => by
    cases r
    exact ⟨_, rfl, k _ _ A' kp⟩⟩⟩
theorem st_not (h : SemT C X e m) : SemT C X (.UnaryOp .Not e pos) (.not m) :=
  ⟨fun T H0 Hf0 => PT.imp (pt_not (h.run T H0 Hf0)) fun σ H Q ⟨Hf, env, t, d, t', A, e, k⟩ => by
    unfold ev at e
    split at e
    · rename_i i t1 e1
      cases e
      exact ⟨Hf, env, t, i, _, A, e1, fun Hf' H' A' kp => k _ _ A' kp⟩
    · cases e⟩
structure SemW (C : CallF) (X : Cx) (e : Expr) (m : M) : Prop where
  run : ∀ T H0 Hf0, PW X e (tT X.K C T H0 Hf0 m)
theorem SemW.tst (h : SemW C X e m) : SemT C X e m := ⟨fun T H0 Hf0 => (h.run T H0 Hf0).pt⟩
theorem sw_and1 (h : SemT C X e m) : SemW C X (.BoolOp .And [e] pos) m := ⟨fun T H0 Hf0 => pw_and1 (h.run T H0 Hf0)⟩
theorem sw_or1 (h : SemT C X e m) : SemW C X (.BoolOp .Or [e] pos) m := ⟨fun T H0 Hf0 => pw_or1 (h.run T H0 Hf0)⟩
theorem PW.imp {X : Cx} {e : Expr} {t t' : TT} (h : PW X e t) (i : ∀ σ H Q, t' σ H Q → t σ H Q) : PW X e t' := ⟨fun w pins s σ H Q I q => h.run w pins s σ H Q I (i σ H Q q)⟩
theorem tT_and : tT K C T H0 Hf0 (.and ma mb) σ H Q → tAnd (tT K C T H0 Hf0 ma) (tT K C T H0 Hf0 mb) σ H Q := fun ⟨Hf, env, t, d, t', A, e, k⟩ => by
  unfold ev at e
  split at e
  · rename_i t1 e1
    exact ⟨Hf, env, t, true, t1, A, e1, fun Hf1 H1 A1 k1 => ⟨Hf1, env, t1, d, t', A1, e, fun Hf2 H2 A2 k2 => k _ _ A2 (k1.trans k2)⟩⟩
  · rename_i t1 e1
    cases e
    exact ⟨Hf, env, t, false, _, A, e1, fun Hf1 H1 A1 k1 => k _ _ A1 k1⟩
  · cases e
theorem tT_or : tT K C T H0 Hf0 (.or ma mb) σ H Q → tOr (tT K C T H0 Hf0 ma) (tT K C T H0 Hf0 mb) σ H Q := fun ⟨Hf, env, t, d, t', A, e, k⟩ => by
  unfold ev at e
  split at e
  · rename_i t1 e1
    exact ⟨Hf, env, t, false, t1, A, e1, fun Hf1 H1 A1 k1 => ⟨Hf1, env, t1, d, t', A1, e, fun Hf2 H2 A2 k2 => k _ _ A2 (k1.trans k2)⟩⟩
  · rename_i t1 e1
    cases e
    exact ⟨Hf, env, t, true, _, A, e1, fun Hf1 H1 A1 k1 => k _ _ A1 k1⟩
  · cases e
theorem sw_and (ha : SemT C X a ma) (hb : SemW C X (.BoolOp .And (b :: es) pos) mb) : SemW C X (.BoolOp .And (a :: b :: es) pos) (.and ma mb) := ⟨fun T H0 Hf0 => PW.imp (pw_and (ha.run T H0 Hf0) (hb.run T H0 Hf0)) fun _ _ _ => tT_and⟩
theorem sw_or (ha : SemT C X a ma) (hb : SemW C X (.BoolOp .Or (b :: es) pos) mb) : SemW C X (.BoolOp .Or (a :: b :: es) pos) (.or ma mb) := ⟨fun T H0 Hf0 => PW.imp (pw_or (ha.run T H0 Hf0) (hb.run T H0 Hf0)) fun _ _ _ => tT_or⟩
/-! ### and, or, not as values -/
theorem se_one {op} (h : SemE C X e m) : SemE C X (.BoolOp op [e] pos) m := ⟨fun T H0 Hf0 => pe_one (h.run T H0 Hf0)⟩
theorem se_and (ha : SemE C X a ma) (hb : SemE C X (.BoolOp .And (b :: es) pos) mb) : SemE C X (.BoolOp .And (a :: b :: es) pos) (.and ma mb) :=
  ⟨fun T H0 Hf0 => PE.imp (pe_and (ha.run T H0 Hf0) (hb.run T H0 Hf0)) fun σ H Q ⟨Hf, env, t, d, t', A, e, k⟩ => by
    unfold ev at e
    split at e
    · rename_i t1 e1
      refine ⟨Hf, env, t, .bool true, t1, A, e1, fun v Hf1 H1 A1 k1 r => ?_⟩
      cases r
      exact ⟨true, rfl, ⟨Hf1, env, t1, d, t', A1, e, fun v Hf2 H2 A2 k2 r => k _ _ _ A2 (k1.trans k2) r⟩⟩
    · rename_i t1 e1
      cases e
      refine ⟨Hf, env, t, .bool false, _, A, e1, fun v Hf1 H1 A1 k1 r => ?_⟩
      cases r
      exact ⟨false, rfl, k _ _ _ A1 k1 (.bl _)⟩
    · cases e⟩
theorem se_or (ha : SemE C X a ma) (hb : SemE C X (.BoolOp .Or (b :: es) pos) mb) : SemE C X (.BoolOp .Or (a :: b :: es) pos) (.or ma mb) :=
  ⟨fun T H0 Hf0 => PE.imp (pe_or (ha.run T H0 Hf0) (hb.run T H0 Hf0)) fun σ H Q ⟨Hf, env, t, d, t', A, e, k⟩ => by
    unfold ev at e
    split at e
    · rename_i t1 e1
      refine ⟨Hf, env, t, .bool false, t1, A, e1, fun v Hf1 H1 A1 k1 r => ?_⟩
      cases r
      exact ⟨false, rfl, ⟨Hf1, env, t1, d, t', A1, e, fun v Hf2 H2 A2 k2 r => k _ _ _ A2 (k1.trans k2) r⟩⟩
    · rename_i t1 e1
      cases e
      refine ⟨Hf, env, t, .bool true, _, A, e1, fun v Hf1 H1 A1 k1 r => ?_⟩
      cases r
      exact ⟨true, rfl, k _ _ _ A1 k1 (.bl _)⟩
    · cases e⟩
theorem se_not (ha : SemE C X a ma) : SemE C X (.UnaryOp .Not a pos) (.not ma) :=
  ⟨fun T H0 Hf0 => PE.imp (pe_not (ha.run T H0 Hf0)) fun σ H Q ⟨Hf, env, t, d, t', A, e, k⟩ => by
    unfold ev at e
    split at e
    · rename_i i t1 e1
      cases e
      refine ⟨Hf, env, t, .bool i, _, A, e1, fun v Hf1 H1 A1 k1 r => ?_⟩
      cases r
      exact ⟨i, rfl, k _ _ _ A1 k1 (.bl _)⟩
    · cases e⟩
end
end Pl

set_option Elab.async false
set_option linter.all false
set_option maxRecDepth 100000
set_option maxHeartbeats 1000000
/-! Pl: subscripts, displays, calls, comprehensions. -/
namespace Pl
open PySem PySem.Spec PyProof.Rows L2
section
variable {C : CallF} {X : Cx} {a b c e : Expr} {es : List Expr} {ma mb mc m : M} {pos : Pos} {K : PySem.W.Frag} {T : Addr} {H0 Hf0 Hf : Hp} {env : Env} {t t1 t2 : Int} {σ : L2.St} {H : Hp} {d1 d2 : PyData}
theorem se_idx (ha : SemR C X a ma) (hb : SemE C X b mb) (hs : PlainIx b) : SemE C X (.Subscript a b pos) (.idx ma mb) :=
  ⟨fun T H0 Hf0 => PE.imp (pe_ix i_any (ha.run T H0 Hf0) (hb.run T H0 Hf0) hs) fun σ H Q ⟨Hf, env, t, d, t', A, e, k⟩ => by
    unfold ev at e
    obtain ⟨d1, t1, d2, t2, e1, e2, g⟩ := ev2 (f := fun x y t2 => (idxD x y).map (·, t2)) e
    obtain ⟨z, gz, ez⟩ := map_some g
    cases ez
    exact twoL A e1 e2 fun v1 v2 Hf2 H2 A2 k2 r1 r2 => ⟨Hf2, d1, d2, d, A2.ex, r1, r2, gz, fun v Hf' H' ad r => k v Hf' H' (ad.abs A2).1 (k2.trans (ad.abs A2).2) r⟩⟩
/-- the tape's item -/
theorem se_tape (i : Nat) {x : Str} {p1 p2 : Pos} {j} (hN : X.N[i]? = some x) (hv : Vis X.env.scope x) (hd : (x == ("__debug__" : Str)) = false := by decide) (hcd : (x == ("__classdict__" : Str)) = false := by decide) : SemE C X (.Subscript (.Name x p1) (.Constant (.int 0) j p2) pos) (.tape i) :=
  ⟨fun T H0 Hf0 => PE.imp (pe_ix ix_list (pe_var hN hv hd hcd) pe_int (fun _ _ => rfl)) fun σ H Q ⟨Hf, env, t, d, t', A, e, k⟩ => by
    unfold ev at e
    split at e
    · rename_i hx
      cases e
      obtain ⟨v, hs, r⟩ := A.loc i _ hx
      have r : v = .ref T := r
      subst r
      exact ⟨_, hs, T, [.int t], 0, .int t, rfl, rfl, SqL.of A.th, atI_nat (j := 0) rfl, k _ _ _ A (Kp.refl _ _ _) (.int t)⟩
    · cases e⟩
/-! ### slices -/
structure SemO (C : CallF) (X : Cx) (e : Option Expr) (m : M) : Prop where
  run : ∀ T H0 Hf0, PO X e (fun σ H Q => ∃ Hf env t d t' o, Abs X.K T H0 Hf0 Hf env t σ H ∧ ev C env m t = some (d, t') ∧ partD d = some o ∧ ∀ Hf' H', Abs X.K T H0 Hf0 Hf' env t' σ H' → Kp T Hf H Hf' H' → Q o H')
theorem PO.imp {X : Cx} {e : Option Expr} {t t' : TO} (h : PO X e t) (i : ∀ σ H Q, t' σ H Q → t σ H Q) : PO X e t' := ⟨fun pins s σ H Q I q => h.run pins s σ H Q I (i σ H Q q)⟩
theorem so_none : SemO C X none (.lit .none) := ⟨fun T H0 Hf0 => PO.imp po_none fun σ H Q ⟨Hf, env, t, d, t', o, A, e, p, k⟩ => by
  cases e
  cases p
  exact k _ _ A (Kp.refl _ _ _)⟩
theorem so_some (h : SemE C X e m) : SemO C X (some e) (.part m) := ⟨fun T H0 Hf0 => PO.imp (po_some (h.run T H0 Hf0)) fun σ H Q ⟨Hf, env, t, d, t', o, A, e, p, k⟩ => by
  unfold ev at e
  split at e
  · rename_i i t1 e1
    cases e
    cases p
    refine ⟨Hf, env, t, _, _, A, e1, fun v Hf' H' A' kp r => ?_⟩
    cases r
    exact ⟨i, rfl, k _ _ A' kp⟩
  · cases e⟩
theorem se_slc {lo hi : Option Expr} {ml mh : M} {p2 : Pos} (ha : SemR C X a ma) (hl : SemO C X lo ml) (hh : SemO C X hi mh) : SemE C X (.Subscript a (.Slice lo hi none p2) pos) (.slc ma ml mh) :=
  ⟨fun T H0 Hf0 => PE.imp (pe_slice s_any (ha.run T H0 Hf0) (hl.run T H0 Hf0) (hh.run T H0 Hf0)) fun σ H Q ⟨Hf, env, t, d, t', A, e, k⟩ => by
    unfold ev at e
    split at e
    · rename_i x t1 e1
      split at e
      · rename_i l t2 e2
        split at e
        · rename_i h t3 e3
          split at e
          · rename_i l' h' pl ph
            obtain ⟨z, gz, ez⟩ := map_some e
            cases ez
            exact ⟨Hf, env, t, x, t1, A, e1, fun v Hf1 H1 A1 k1 r1 => ⟨Hf1, env, t1, l, t2, l', A1, e2, pl, fun Hf2 H2 A2 k2 => ⟨Hf2, env, t2, h, t', h', A2, e3, ph, fun Hf3 H3 A3 k3 =>
              ⟨Hf3, x, d, A3.ex, r1 Hf3 H3 t' A3 (k2.trans k3), gz, fun w Hf' H' ad r => k w Hf' H' (ad.abs A3).1 (k1.trans (k2.trans (k3.trans (ad.abs A3).2))) r⟩⟩⟩⟩
          · cases e
        · cases e
      · cases e
    · cases e⟩
/-! ### argument lists -/
theorem sa_nil : SemA C X [] .nil := ⟨fun T H0 Hf0 => PA.imp pa_nil fun σ H Q ⟨Hf, env, t, d, t', A, e, k⟩ => by
  unfold evs at e
  cases e
  exact k _ _ _ A (Kp.refl _ _ _) .nil⟩
theorem evs_cons (h : ∀ i, ma ≠ .tape i) (h2 : ma ≠ .edict) {lvs : List LV} (e : evs C env (.cons ma mb) t = some (lvs, t2)) : ∃ d t1 r, ev C env ma t = some (d, t1) ∧ evs C env mb t1 = some (r, t2) ∧ lvs = .d d :: r := by
  cases ma with
  | tape i => exact absurd rfl (h i)
  | edict => exact absurd rfl h2
  | _ =>
    unfold evs at e
    split at e
    · rename_i x t1 e1
      split at e
      · rename_i r t2 e2
        cases e
        exact ⟨x, t1, r, e1, e2, rfl⟩
      · cases e
    · cases e
theorem paired_kp {Hf' H' : Hp} (k : Kp T Hf H Hf' H') : ∀ {vs : List V} {lvs : List LV}, Paired (ArgOK K T Hf) vs lvs → Paired (ArgOK K T Hf') vs lvs
  | _, _, .nil => .nil
  | _, _, .cons h t => .cons (h.kp k) (paired_kp k t)
theorem sa_cons (ha : SemE C X a ma) (hb : SemA C X es mb) (hn : ∀ i, ma ≠ .tape i := by intro _ h; cases h) (hn2 : ma ≠ .edict := by intro h; cases h) (hs : starEach (a :: es) X.env = (false, eval a X.env) :: starEach es X.env := by rfl) : SemA C X (a :: es) (.cons ma mb) :=
  ⟨fun T H0 Hf0 => PA.imp (pa_cons (ha.run T H0 Hf0) (hb.run T H0 Hf0) hs) fun σ H Q ⟨Hf, env, t, lvs, t', A, e, k⟩ => by
    obtain ⟨d, t1, r, e1, e2, rfl⟩ := evs_cons hn hn2 e
    exact ⟨Hf, env, t, d, t1, A, e1, fun v Hf1 H1 A1 k1 r1 => ⟨Hf1, env, t1, r, t', A1, e2, fun vs Hf2 H2 A2 k2 r2 => k _ _ _ A2 (k1.trans k2) (.cons (Rp.mono k2.ex _ _ r1) r2)⟩⟩⟩
theorem sa_pass (i : Nat) {x : Str} {p1 : Pos} (hN : X.N[i]? = some x) (hv : Vis X.env.scope x) (hb : SemA C X es mb) (hd : (x == ("__debug__" : Str)) = false := by decide) (hcd : (x == ("__classdict__" : Str)) = false := by decide) (hs : starEach (.Name x p1 :: es) X.env = (false, eval (.Name x p1) X.env) :: starEach es X.env := by rfl) :
    SemA C X (.Name x p1 :: es) (.cons (.tape i) mb) :=
  ⟨fun T H0 Hf0 => PA.imp (pa_cons (pe_var hN hv hd hcd) (hb.run T H0 Hf0) hs) fun σ H Q ⟨Hf, env, t, lvs, t', A, e, k⟩ => by
    unfold evs at e
    split at e
    · rename_i hx
      split at e
      · rename_i r t2 e2
        cases e
        obtain ⟨v, hs, ok⟩ := A.loc i _ hx
        exact ⟨v, hs, ⟨Hf, env, t, r, _, A, e2, fun vs Hf2 H2 A2 k2 r2 => k _ _ _ A2 k2 (.cons ok r2)⟩⟩
      · cases e
    · rename_i ns hx
      split at e
      · rename_i r t2 e2
        cases e
        obtain ⟨v, hs, l, e1, h1⟩ := A.loc i _ hx
        exact ⟨v, hs, ⟨Hf, env, t, r, _, A, e2, fun vs Hf2 H2 A2 k2 r2 => k _ _ _ A2 k2 (.cons ⟨l, e1, Same.seq k2.ex h1⟩ r2)⟩⟩
      · cases e
    · rename_i kvs hx
      split at e
      · rename_i r t2 e2
        cases e
        obtain ⟨v, hs, l, ws, e1, h1, h2⟩ := A.loc i _ hx
        exact ⟨v, hs, ⟨Hf, env, t, r, _, A, e2, fun vs Hf2 H2 A2 k2 r2 => k _ _ _ A2 k2 (.cons ⟨l, ws, e1, k2.ex _ _ h1, KvAll.mono k2.ex h2⟩ r2)⟩⟩
      · cases e
    · cases e⟩
/-- {} as an argument -/
theorem sa_edict {p1 : Pos} (hb : SemA C X es mb) (hs : starEach (.Dict [] [] p1 :: es) X.env = (false, eval (.Dict [] [] p1) X.env) :: starEach es X.env := by rfl) : SemA C X (.Dict [] [] p1 :: es) (.cons .edict mb) :=
  ⟨fun T H0 Hf0 => PA.imp (pa_cons pe_dnewK (hb.run T H0 Hf0) hs) fun σ H Q ⟨Hf, env, t, lvs, t', A, e, k⟩ => by
    unfold evs at e
    split at e
    · rename_i r t2 e2
      cases e
      exact fun p hp => ⟨upd Hf p (.dK []), env, t, r, _, A.newd hp, e2, fun vs Hf2 H2 A2 k2 r2 => k _ _ _ A2 ((A.kpn hp).trans k2) (.cons ⟨p, [], rfl, k2.ex _ _ upd_same, .nil⟩ r2)⟩
    · cases e⟩
theorem args_data : ∀ {vs : List V} {lvs : List LV} {ds : List PyData}, Paired (ArgOK K T Hf) vs lvs → dsOf lvs = some ds → RpAll Hf vs ds
  | _, _, _, .nil, e => by
    cases e
    exact .nil
  | v :: vs, lv :: lvs, ds, .cons h t, e => by
    cases lv with
    | d x =>
      unfold dsOf at e
      obtain ⟨r, e1, e2⟩ := map_some e
      subst e2
      exact .cons h (args_data t e1)
    | _ => cases e
theorem rb_all : ∀ {vs : List V} {ds : List PyData}, RpAll Hf vs ds → Paired (Rb K Hf H) vs ds
  | _, _, .nil => .nil
  | _, _, .cons h t => .cons (.inl h) (rb_all t)
theorem le1000 {n : Nat} (h : n ≤ 1000) : n ≤ sizeLine := Nat.le_of_lt (small1000 h)
theorem se_tup {x1} (h : SemA C X es m) : SemE C X (.Tuple es x1 pos) (.tup m) :=
  ⟨fun T H0 Hf0 => PE.imp (pe_tupS (h.run T H0 Hf0)) fun σ H Q ⟨Hf, env, t, d, t', A, e, k⟩ => by
    unfold ev at e
    split at e
    · rename_i lvs t1 e1
      split at e
      · rename_i ds e2
        split at e
        · rename_i hl
          cases e
          refine ⟨Hf, env, t, lvs, _, A, e1, fun vs Hf1 H1 A1 k1 r1 => ?_⟩
          have rr := args_data r1 e2
          exact ⟨by rw [rr.len]; exact le1000 hl, fin_tup A1.ex rr fun v Hf' H' ad r => k v Hf' H' (ad.abs A1).1 (k1.trans (ad.abs A1).2) r⟩
        · cases e
      · cases e
    · cases e⟩
theorem se_lst (h : SemA C X es m) : SemE C X (.List es pos) (.lst m) :=
  ⟨fun T H0 Hf0 => PE.imp (pe_lst (h.run T H0 Hf0)) fun σ H Q ⟨Hf, env, t, d, t', A, e, k⟩ => by
    unfold ev at e
    split at e
    · rename_i lvs t1 e1
      split at e
      · rename_i ds e2
        split at e
        · rename_i hl
          cases e
          refine ⟨Hf, env, t, lvs, _, A, e1, fun vs Hf1 H1 A1 k1 r1 => ?_⟩
          have rr := args_data r1 e2
          exact ⟨by rw [rr.len]; exact le1000 hl, fin_lst A1.ex rr fun v Hf' H' ad r => k v Hf' H' (ad.abs A1).1 (k1.trans (ad.abs A1).2) r⟩
        · cases e
      · cases e
    · cases e⟩
/-! ### built-ins by their names -/
theorem se_blt {id : String} {o : Bl} {x : Str} {p : Pos} (hc : CallR X (.builtin id) (rC X.K (bltD o))) (hg : Gl X x) (hm : X.mg x = none) (hv : bootBuiltins x = some (.builtin id)) (ha : SemA C X (e :: es) m) (hn : x ≠ "__name__" := by decide) (hdb : (x == ("__debug__" : Str)) = false := by decide)
    (he : starEach (e :: es) X.env = (false, eval e X.env) :: starEach es X.env := by rfl) (hpl : (backTo pos (starEach es X.env)).any (·.1) = false := by rfl) : SemE C X (.Call (.Name x p) (e :: es) [] pos) (.blt o m) :=
  ⟨fun T H0 Hf0 => PE.imp (pe_callB hc hg hm hv (ha.run T H0 Hf0) hn hdb he hpl) fun σ H Q ⟨Hf, env, t, d, t', A, e, k⟩ => by
    unfold ev at e
    split at e
    · rename_i lvs t1 e1
      split at e
      · rename_i ds e2
        obtain ⟨z, gz, ez⟩ := map_some e
        cases ez
        exact ⟨Hf, env, t, lvs, _, A, e1, fun vs Hf1 H1 A1 k1 r1 => ⟨Hf1, ds, d, A1.ex, rb_all (args_data r1 e2), gz, fun v Hf' H' ad r => k v Hf' H' (ad.abs A1).1 (k1.trans (ad.abs A1).2) r⟩⟩
      · cases e
    · cases e⟩
theorem se_bty {id : String} {o : Bl} {x : Str} {p : Pos} (hc : CallR X (.type id) (rC X.K (bltD o))) (hg : Gl X x) (hm : X.mg x = none) (hv : bootBuiltins x = some (.type id)) (ha : SemA C X (e :: es) m) (hn : x ≠ "__name__" := by decide) (hdb : (x == ("__debug__" : Str)) = false := by decide)
    (he : starEach (e :: es) X.env = (false, eval e X.env) :: starEach es X.env := by rfl) (hpl : (backTo pos (starEach es X.env)).any (·.1) = false := by rfl) : SemE C X (.Call (.Name x p) (e :: es) [] pos) (.blt o m) :=
  ⟨fun T H0 Hf0 => PE.imp (pe_callTy hc hg hm hv (ha.run T H0 Hf0) hn hdb he hpl) fun σ H Q ⟨Hf, env, t, d, t', A, e, k⟩ => by
    unfold ev at e
    split at e
    · rename_i lvs t1 e1
      split at e
      · rename_i ds e2
        obtain ⟨z, gz, ez⟩ := map_some e
        cases ez
        exact ⟨Hf, env, t, lvs, _, A, e1, fun vs Hf1 H1 A1 k1 r1 => ⟨Hf1, ds, d, A1.ex, rb_all (args_data r1 e2), gz, fun v Hf' H' ad r => k v Hf' H' (ad.abs A1).1 (k1.trans (ad.abs A1).2) r⟩⟩
      · cases e
    · cases e⟩
/-- len(x), list(x), .. of what may be read -/
theorem evs_one {lvs : List LV} (h : ∀ i, ma ≠ .tape i) (h2 : ma ≠ .edict) (e : evs C env (.cons ma .nil) t = some (lvs, t2)) : ∃ d, ev C env ma t = some (d, t2) ∧ lvs = [.d d] := by
  obtain ⟨d, t1, r, e1, e2, rfl⟩ := evs_cons h h2 e
  unfold evs at e2
  cases e2
  exact ⟨d, e1, rfl⟩
theorem se_blt1 {id : String} {o : Bl} {x : Str} {p : Pos} (hc : CallR X (.builtin id) (rC X.K (bltD o))) (hg : Gl X x) (hm : X.mg x = none) (hv : bootBuiltins x = some (.builtin id)) (ha : SemR C X e m) (ht : ∀ i, m ≠ .tape i := by intro _ h; cases h) (ht2 : m ≠ .edict := by intro h; cases h) (hn : x ≠ "__name__" := by decide) (hdb : (x == ("__debug__" : Str)) = false := by decide)
    (he : starEach [e] X.env = (false, eval e X.env) :: starEach [] X.env := by rfl) : SemE C X (.Call (.Name x p) [e] [] pos) (.blt o (.cons m .nil)) :=
  ⟨fun T H0 Hf0 => PE.imp (pe_callB hc hg hm hv (pa_cons (ha.run T H0 Hf0) pa_nil he) hn hdb he) fun σ H Q ⟨Hf, env, t, d, t', A, e, k⟩ => by
    unfold ev at e
    split at e
    · rename_i lvs t1 e1
      obtain ⟨d0, e0, rfl⟩ := evs_one ht ht2 e1
      obtain ⟨z, gz, ez⟩ := map_some (show (bltD o [d0]).map (·, t1) = some (d, t') from e)
      cases ez
      exact ⟨Hf, env, t, d0, _, A, e0, fun v Hf1 H1 A1 k1 r1 => ⟨Hf1, [d0], d, A1.ex, .cons (r1 Hf1 H1 t' A1 (Kp.refl _ _ _)) .nil, gz, fun v Hf' H' ad r => k v Hf' H' (ad.abs A1).1 (k1.trans (ad.abs A1).2) r⟩⟩
    · cases e⟩
theorem se_bty1 {id : String} {o : Bl} {x : Str} {p : Pos} (hc : CallR X (.type id) (rC X.K (bltD o))) (hg : Gl X x) (hm : X.mg x = none) (hv : bootBuiltins x = some (.type id)) (ha : SemR C X e m) (ht : ∀ i, m ≠ .tape i := by intro _ h; cases h) (ht2 : m ≠ .edict := by intro h; cases h) (hn : x ≠ "__name__" := by decide) (hdb : (x == ("__debug__" : Str)) = false := by decide)
    (he : starEach [e] X.env = (false, eval e X.env) :: starEach [] X.env := by rfl) : SemE C X (.Call (.Name x p) [e] [] pos) (.blt o (.cons m .nil)) :=
  ⟨fun T H0 Hf0 => PE.imp (pe_callTy hc hg hm hv (pa_cons (ha.run T H0 Hf0) pa_nil he) hn hdb he) fun σ H Q ⟨Hf, env, t, d, t', A, e, k⟩ => by
    unfold ev at e
    split at e
    · rename_i lvs t1 e1
      obtain ⟨d0, e0, rfl⟩ := evs_one ht ht2 e1
      obtain ⟨z, gz, ez⟩ := map_some (show (bltD o [d0]).map (·, t1) = some (d, t') from e)
      cases ez
      exact ⟨Hf, env, t, d0, _, A, e0, fun v Hf1 H1 A1 k1 r1 => ⟨Hf1, [d0], d, A1.ex, .cons (r1 Hf1 H1 t' A1 (Kp.refl _ _ _)) .nil, gz, fun v Hf' H' ad r => k v Hf' H' (ad.abs A1).1 (k1.trans (ad.abs A1).2) r⟩⟩
    · cases e⟩
/-- isinstance(x, T) -/
theorem se_isi {n : String} {o : Bl} {x y : Str} {p p2 : Pos} (hc : CallR X (.builtin "isinstance") (fun xs H Q => ∃ x, xs = [x, .ty n] ∧ rC X.K (bltD o) [x] H Q)) (hg : Gl X x) (hm : X.mg x = none) (hv : bootBuiltins x = some (.builtin "isinstance")) (hgy : Gl X y) (hmy : X.mg y = none) (hvy : bootBuiltins y = some (.type n)) (ha : SemR C X e m)
    (ht : ∀ i, m ≠ .tape i := by intro _ h; cases h) (ht2 : m ≠ .edict := by intro h; cases h) (hn : x ≠ "__name__" := by decide) (hdb : (x == ("__debug__" : Str)) = false := by decide) (hny : y ≠ "__name__" := by decide) (hdy : (y == ("__debug__" : Str)) = false := by decide)
    (he : starEach [e, .Name y p2] X.env = (false, eval e X.env) :: starEach [.Name y p2] X.env := by rfl) : SemE C X (.Call (.Name x p) [e, .Name y p2] [] pos) (.blt o (.cons m .nil)) :=
  ⟨fun T H0 Hf0 => PE.imp (pe_callB hc hg hm hv (pa_cons (ha.run T H0 Hf0) (pa_cons (pe_bltn hgy hmy hvy (v := .ty n) rfl hny hdy) pa_nil) he) hn hdb he) fun σ H Q ⟨Hf, env, t, d, t', A, e, k⟩ => by
    unfold ev at e
    split at e
    · rename_i lvs t1 e1
      obtain ⟨d0, e0, rfl⟩ := evs_one ht ht2 e1
      obtain ⟨z, gz, ez⟩ := map_some (show (bltD o [d0]).map (·, t1) = some (d, t') from e)
      cases ez
      exact ⟨Hf, env, t, d0, _, A, e0, fun v Hf1 H1 A1 k1 r1 => ⟨v, rfl, Hf1, [d0], d, A1.ex, .cons (r1 Hf1 H1 t' A1 (Kp.refl _ _ _)) .nil, gz, fun v Hf' H' ad r => k v Hf' H' (ad.abs A1).1 (k1.trans (ad.abs A1).2) r⟩⟩
    · cases e⟩
/-! ### x.index(y), s.join(xs) -/
theorem se_index {apos cpos : Pos} (hu : X.A.units + 65 < cLine) (ha : SemR C X a ma) (hb : SemE C X b mb) (hbase : attributeBase a "index" X.env (eval a X.env) = eval a X.env := by rfl)
    (hfew : ((backTo cpos (starEach [b] X.env)).all (fun x => !x.1) && (backToKw cpos (keywordEach [] X.env)).all (fun x => x.1.isSome) && decide ([b].length + ([] : List Keyword).length + (if ([] : List Keyword).isEmpty then 0 else 1) < 30)) = true := by rfl)
    (hline : (apos.endLine == cpos.line) = true := by rfl) (hs : starEach [b] X.env = (false, eval b X.env) :: starEach [] X.env := by rfl) : SemE C X (.Call (.Attribute a "index" apos) [b] [] cpos) (.index ma mb) := by
  refine ⟨fun T H0 Hf0 => PE.imp (PE.or (pe_bm F.plainAttrs_list F.slot_list_index F.type_list_index (mt_indexD hu) (ha.run T H0 Hf0) (pa_cons (hb.run T H0 Hf0) pa_nil hs) hbase hfew hline hs)
    (pe_bmT F.slot_tuple_index F.type_tuple_index (mt_indexT hu) (ha.run T H0 Hf0) (pa_cons (hb.run T H0 Hf0) pa_nil hs) hbase hfew hline hs rfl)) fun σ H Q ⟨Hf, env, t, d, t', A, e, k⟩ => ?_⟩
  unfold ev at e
  obtain ⟨d1, t1, d2, t2, e1, e2, g⟩ := ev2 (f := fun x y t2 => (indexD x y).map (·, t2)) e
  obtain ⟨z, gz, ez⟩ := map_some g
  cases ez
  cases d1 with
  | list ds =>
    simp only [indexD] at gz
    split at gz
    · rename_i hsh
      rw [Bool.and_eq_true] at hsh
      obtain ⟨j, gj, ej⟩ := map_some gz
      subst ej
      obtain ⟨w, h1, h2, h3⟩ := findI_spec d2 ds j gj
      refine .inl ⟨Hf, env, t, _, t1, A, e1, fun v Hf1 H1 A1 k1 r1 => ?_⟩
      obtain ⟨l, vs, rfl, sq, rs⟩ := (r1 Hf1 H1 t1 A1 (Kp.refl _ _ _)).list A1.ex
      refine ⟨.inl ⟨rfl, _, sq⟩, ⟨Hf1, env, t1, d2, t', A1, e2, fun y Hf2 H2 A2 k2 r2 => ?_⟩⟩
      exact ⟨l, y, d2, ds, j, w, rfl, rfl, (r1 Hf2 H2 t' A2 k2).dp A2.ex, Rp.dp _ _ (Rp.mono A2.ex _ _ r2), hsh.1, hsh.2, h1, h2, h3, k _ _ _ A2 (k1.trans k2) (.int _)⟩
    · cases gz
  | tuple ds =>
    simp only [indexD] at gz
    split at gz
    · rename_i hsh
      rw [Bool.and_eq_true] at hsh
      obtain ⟨j, gj, ej⟩ := map_some gz
      subst ej
      refine .inr ⟨Hf, env, t, _, t1, A, e1, fun v Hf1 H1 A1 k1 r1 => ?_⟩
      rcases r1 Hf1 H1 t1 A1 (Kp.refl _ _ _) with r | ⟨_, _, _, _, e3, _⟩
      · cases r with
        | @tup l o vs ds h hd hvs =>
          refine ⟨⟨l, o, vs, rfl, A1.ex _ _ h, hd⟩, ⟨Hf1, env, t1, d2, t', A1, e2, fun y Hf2 H2 A2 k2 r2 => ?_⟩⟩
          have ex2 : Ex Hf1 H2 := k2.ex.trans A2.ex
          exact ⟨l, o, vs, y, d2, ds, j, rfl, rfl, ex2 _ _ h, hd, RpAll.dp _ _ (RpAll.mono ex2 _ _ hvs), Rp.dp _ _ (Rp.mono A2.ex _ _ r2), hsh.1, hsh.2, gj, k _ _ _ A2 (k1.trans k2) (.int _)⟩
      · cases e3
    · cases gz
  | _ => cases gz
theorem se_join {apos cpos : Pos} (ha : SemE C X a ma) (hb : SemE C X b mb) (hs : starEach [b] X.env = [(false, eval b X.env)] := by rfl) (hbase : attributeBase a "join" X.env (eval a X.env) = eval a X.env := by rfl) (hline : (apos.endLine == cpos.line) = true := by rfl) :
    SemE C X (.Call (.Attribute a "join" apos) [b] [] cpos) (.join ma mb) :=
  ⟨fun T H0 Hf0 => PE.imp (pe_join (ha.run T H0 Hf0) (hb.run T H0 Hf0) hs hbase hline) fun σ H Q ⟨Hf, env, t, d, t', A, e, k⟩ => by
    unfold ev at e
    obtain ⟨d1, t1, d2, t2, e1, e2, g⟩ := ev2 (f := fun x y t2 => (joinD x y).map (·, t2)) e
    obtain ⟨z, gz, ez⟩ := map_some g
    cases ez
    unfold joinD at gz
    split at gz
    · split at gz
      · rename_i ys hy
        split at gz
        · rename_i hz
          cases gz
          refine ⟨Hf, env, t, _, t1, A, e1, fun v Hf1 H1 A1 k1 r1 => ?_⟩
          cases r1
          refine ⟨⟨_, rfl⟩, ⟨Hf1, env, t1, _, t', A1, e2, fun y Hf2 H2 A2 k2 r2 => ?_⟩⟩
          cases r2 with
          | @lst l vs ds h hvs =>
            have ev := hvs.strs hy
            subst ev
            exact ⟨_, l, ys, rfl, rfl, .inl (SqL.of (A2.ex _ _ h)), hz, k _ _ _ A2 (k1.trans k2) (.str _)⟩
        · cases gz
      · cases gz
    · cases gz⟩
end
end Pl

set_option Elab.async false
set_option linter.all false
set_option maxRecDepth 100000
set_option maxHeartbeats 1000000
/-! Pl: what is walked, targets, comprehensions. -/
namespace Pl
open PySem PySem.Spec PyProof.Rows L2
section
variable (K : PySem.W.Frag) (C : CallF) (T : Addr) (H0 Hf0 : Hp)
def tI (k : IK) (m : M) : TI := fun σ H R => ∃ Hf env t d t' items, Abs K T H0 Hf0 Hf env t σ H ∧ ev C env m t = some (d, t') ∧ itemsD k d = some items ∧
  ∀ (J : It) (vs : List V) Hf' H', Abs K T H0 Hf0 Hf' env t' σ H' → Kp T Hf H Hf' H' → RpAll Hf' vs items → Walk J vs.length (fun H => Ex Hf' H) (YAt vs) → R J H'
def tgIx : Tg → List Nat
  | .nm i => [i]
  | .tp is => is
def tG (tg : Tg) : TG := fun v σ H Q => ∃ Hf env t d env', Abs K T H0 Hf0 Hf env t σ H ∧ Rp Hf v d ∧ setTg tg d env = some env' ∧
  ∀ σ', Abs K T H0 Hf0 Hf env' t σ' H → (∀ js, (∀ i ∈ tgIx tg, i ∈ js) → wipe σ' js = wipe σ js) → Q σ' H
end
structure SemI (C : CallF) (X : Cx) (tg e : Expr) (k : IK) (m : M) : Prop where
  run : ∀ T H0 Hf0, PI X tg e (tI X.K C T H0 Hf0 k m)
structure SemG (X : Cx) (e : Expr) (tg : Tg) : Prop where
  run : ∀ T H0 Hf0, PG X e (tG X.K T H0 Hf0 tg)
section
variable {C : CallF} {X : Cx} {a b c e tg : Expr} {es : List Expr} {ma mb mc m : M} {pos : Pos} {K : PySem.W.Frag} {T : Addr} {H0 Hf0 Hf : Hp} {env : Env} {t t1 t2 : Int} {σ : L2.St} {H : Hp} {d1 d2 : PyData}
/-! ### what is walked -/
theorem walk_conv {J : It} {n m : Nat} {G G' : Hp → Prop} {Y Y' : Nat → Hp → V → Hp → Prop} (w : Walk J n G Y) (hn : n = m) (hg : ∀ H, G' H → G H) (hy : ∀ i H x H', i < n → Y i H x H' → Y' i H x H') : Walk J m G' Y' := by
  subst hn
  exact w.mono hg fun i H x H' hi _ y => hy i H x H' hi y
theorem rp_intf (f : Nat → Int) : ∀ ns : List Nat, RpAll Hf (ns.map fun i => V.int (f i)) (ns.map fun i => PyData.int (f i))
  | [] => .nil
  | i :: r => .cons (.int _) (rp_intf f r)
theorem si_seq (h : SemE C X e m) : SemI C X tg e .seq m :=
  ⟨fun T H0 Hf0 => PI.imp (PI.or (PI.or (pi_list (h.run T H0 Hf0)) (pi_tup (h.run T H0 Hf0))) (pi_str (h.run T H0 Hf0))) fun σ H R ⟨Hf, env, t, d, t', items, A, e, hi, k⟩ => by
    cases d with
    | list xs =>
      cases hi
      refine .inl (.inl ⟨Hf, env, t, _, t', A, e, fun v Hf1 H1 A1 k1 r1 => ?_⟩)
      cases r1 with
      | @lst l vs ds h hs =>
        exact ⟨l, rfl, ⟨vs, SqL.of (A1.ex _ _ h)⟩, k _ vs _ _ A1 k1 hs (walk_conv walk_list rfl (fun H' e' => SqL.of (e' _ _ h)) fun _ _ _ _ _ y => y)⟩
    | tuple xs =>
      cases hi
      refine .inl (.inr ⟨Hf, env, t, _, t', A, e, fun v Hf1 H1 A1 k1 r1 => ?_⟩)
      cases r1 with
      | @tup l o vs ds h hd hs =>
        exact ⟨l, rfl, ⟨vs, .inl (.inr ⟨o, A1.ex _ _ h⟩)⟩, k _ vs _ _ A1 k1 hs (walk_conv walk_tup rfl (fun H' e' => .inl (.inr ⟨o, e' _ _ h⟩)) fun _ _ _ _ _ y => y)⟩
    | str z =>
      cases hi
      refine .inr ⟨Hf, env, t, _, t', A, e, fun v Hf1 H1 A1 k1 r1 => ?_⟩
      cases r1
      refine ⟨z, rfl, k _ _ _ _ A1 k1 (rp_signs z.cps.toList) (walk_conv walk_str (by simp) (fun _ _ => True.intro) fun i H x H' hi ⟨h1, c, h2, h3⟩ => ⟨h1, ?_⟩)⟩
      rw [List.getElem?_map, Array.getElem?_toList, h2, h3] <;> rfl
    | _ => cases hi⟩
theorem si_range {p : Pos} (hg : Gl X "range") (hm : X.mg "range" = none) (h : SemE C X e m) (hs : starEach [e] X.env = [(false, eval e X.env)] := by rfl) : SemI C X tg (.Call (.Name "range" p) [e] [] pos) .range m :=
  ⟨fun T H0 Hf0 => PI.imp (pi_range1 hg hm (pa_cons (h.run T H0 Hf0) pa_nil hs) hs) fun σ H R ⟨Hf, env, t, d, t', items, A, e, hi, k⟩ => by
    cases d with
    | int n =>
      simp only [itemsD] at hi
      split at hi
      · rename_i hb
        cases hi
        refine ⟨Hf, env, t, _, t', A, e, fun v Hf1 H1 A1 k1 r1 => ?_⟩
        cases r1
        refine ⟨n, rfl, by omega, by omega, k _ ((List.range n.toNat).map fun i => V.int (i : Nat)) _ _ A1 k1 (rp_intf (fun i => (i : Int)) _) (walk_conv walk_range (by simp) (fun _ _ => True.intro) fun i H x H' hi ⟨h1, h2⟩ => ⟨h1, ?_⟩)⟩
        rw [h2, List.getElem?_map, List.getElem?_range hi]
        simp
      · cases hi
    | _ => cases hi⟩
theorem si_revr {p p2 pos2 : Pos} (hg : Gl X "reversed") (hm : X.mg "reversed" = none) (hg2 : Gl X "range") (hm2 : X.mg "range" = none) (h : SemE C X e m) (hs : starEach [e] X.env = (false, eval e X.env) :: starEach [] X.env := by rfl)
    (hs2 : starEach [.Call (.Name "range" p2) [e] [] pos2] X.env = (false, eval (.Call (.Name "range" p2) [e] [] pos2) X.env) :: starEach [] X.env := by rfl) : SemI C X tg (.Call (.Name "reversed" p) [.Call (.Name "range" p2) [e] [] pos2] [] pos) .revr m :=
  ⟨fun T H0 Hf0 => PI.imp (pi_revR hg hm (prg_1 hg2 hm2 (h.run T H0 Hf0) hs) hs2) fun σ H R ⟨Hf, env, t, d, t', items, A, e, hi, k⟩ => by
    cases d with
    | int n =>
      simp only [itemsD] at hi
      split at hi
      · rename_i hb
        cases hi
        refine ⟨Hf, env, t, _, t', A, e, fun v Hf1 H1 A1 k1 r1 => ?_⟩
        cases r1
        refine ⟨n, rfl, by decide, by decide, by omega, by omega, k _ ((List.range n.toNat).map fun i => V.int (n - 1 - (i : Nat))) _ _ A1 k1 (rp_intf (fun i => n - 1 - (i : Int)) _) (walk_conv walk_rangeC (by simp) (fun _ _ => True.intro) fun i H x H' hi ⟨h1, h2⟩ => ⟨h1, ?_⟩)⟩
        rw [h2, List.getElem?_map, List.getElem?_range (by simpa using hi)]
        have hi' : i < n.toNat := by simpa using hi
        simp only [Option.map_some]
        congr 2
        omega
      · cases hi
    | _ => cases hi⟩
theorem RpAll.rev : ∀ {vs : List V} {ds : List PyData}, RpAll Hf vs ds → RpAll Hf vs.reverse ds.reverse
  | _, _, .nil => .nil
  | v :: vs, d :: ds, .cons h t => by
    rw [List.reverse_cons, List.reverse_cons]
    exact t.rev.append (.cons h .nil)
theorem si_rev {p : Pos} (hg : Gl X "reversed") (hm : X.mg "reversed" = none) (h : SemE C X e m) (hs : starEach [e] X.env = (false, eval e X.env) :: starEach [] X.env := by rfl) : SemI C X tg (.Call (.Name "reversed" p) [e] [] pos) .rev m :=
  ⟨fun T H0 Hf0 => PI.imp (RT.pi_revA hg hm (h.run T H0 Hf0) hs) fun σ H R ⟨Hf, env, t, d, t', items, A, e, hi, k⟩ => by
    cases d with
    | list xs =>
      cases hi
      refine ⟨Hf, env, t, _, t', A, e, fun v Hf1 H1 A1 k1 r1 => ?_⟩
      cases r1 with
      | @lst l vs ds h hs =>
        refine ⟨l, vs, rfl, .inl ⟨SqL.of (A1.ex _ _ h), k _ vs.reverse _ _ A1 k1 hs.rev (walk_conv walk_rev (by simp) (fun H' e' => SqL.of (e' _ _ h)) fun i H x H' hi ⟨h1, h2⟩ => ⟨h1, ?_⟩)⟩⟩
        rw [List.getElem?_reverse hi]
        exact h2
    | tuple xs =>
      cases hi
      refine ⟨Hf, env, t, _, t', A, e, fun v Hf1 H1 A1 k1 r1 => ?_⟩
      cases r1 with
      | @tup l o vs ds h hd hs =>
        have sq : ∀ H', Ex Hf1 H' → SqT X.K H' l vs := fun H' e' => .inl (.inr ⟨o, e' _ _ h⟩)
        refine ⟨l, vs, rfl, .inr ⟨sq _ A1.ex, k _ vs.reverse _ _ A1 k1 hs.rev ⟨fun i H' hi e' => ?_, fun H' e' => ?_, fun i H' x H'' hi e' y => ?_⟩⟩⟩
        · rw [List.length_reverse] at hi
          exact ⟨hi, vs, vs[vs.length - 1 - i]'(by omega), sq _ e', List.getElem?_eq_getElem _⟩
        · exact Nat.le_of_eq (by simp)
        · rw [List.length_reverse] at hi
          refine ⟨y.1, ?_⟩
          rw [List.getElem?_reverse hi]
          exact y.2 vs (sq _ e')
    | _ => cases hi⟩
/-! ### targets -/
theorem wipe_get (σ : L2.St) (j : Nat) : ∀ vs : List Nat, (wipe σ vs)[j]? = if j ∈ vs then (if j < σ.length then some none else none) else σ[j]?
  | [] => by simp [wipe]
  | v :: vs => by
    unfold wipe
    by_cases e : v = j
    · subst e
      rw [if_pos List.mem_cons_self, List.getElem?_set, if_pos rfl, wipe_length]
    · rw [List.getElem?_set_ne e, wipe_get σ j vs]
      by_cases hj : j ∈ vs
      · rw [if_pos hj, if_pos (List.mem_cons_of_mem _ hj)]
      · rw [if_neg hj, if_neg fun h => (List.mem_cons.mp h).elim (fun z => e z.symm) hj]
theorem wipe_set {σ : L2.St} {i : Nat} {x : Option V} {js : List Nat} (h : i ∈ js) : wipe (σ.set i x) js = wipe σ js := by
  apply List.ext_getElem?
  intro j
  rw [wipe_get, wipe_get, List.length_set]
  by_cases hj : j ∈ js
  · rw [if_pos hj, if_pos hj]
  · rw [if_neg hj, if_neg hj, List.getElem?_set_ne (fun e => hj (by rw [← e]; exact h))]
theorem sg_name (i : Nat) {x : Str} (hN : X.N.Nodup) (hi : X.N[i]? = some x) (hx : Loc X.env.scope x) (hf : X.fn x = true ∨ X.env.scope.names.lookup x = some .local) : SemG X (.Name x pos) (.nm i) :=
  ⟨fun T H0 Hf0 => PG.imp (pg_name hN hi hx hf) fun v σ H Q ⟨Hf, env, t, d, env', A, r, e, k⟩ => by
    cases e
    exact k _ (A.set r) fun js h => wipe_set (h i List.mem_cons_self)⟩
def gsOf : List Nat → TGs
  | [] => gNil
  | i :: r => gCons (gName i) (gsOf r)
theorem gs_run : ∀ {is : List Nat} {vs : List V} {ds : List PyData} {env env' : Env} {σ : L2.St} {Q : L2.St → Hp → Prop}, Abs K T H0 Hf0 Hf env t σ H → RpAll Hf vs ds → setIs is ds env = some env' →
    (∀ σ', Abs K T H0 Hf0 Hf env' t σ' H → (∀ js, (∀ i ∈ is, i ∈ js) → wipe σ' js = wipe σ js) → Q σ' H) → gsOf is vs σ H Q
  | [], _, _, env, env', σ, Q, A, .nil, e, k => by
    cases e
    exact ⟨rfl, k _ A fun _ _ => rfl⟩
  | i :: is, v :: vs, d :: ds, env, env', σ, Q, A, .cons h hs, e, k =>
    ⟨v, vs, rfl, gs_run (A.set h) hs e fun σ' A' hw => k σ' A' fun js hj => by
      rw [hw js fun i hi => hj i (List.mem_cons_of_mem _ hi), wipe_set (hj i List.mem_cons_self)]⟩
  | [], _, _ :: _, env, env', σ, Q, A, .cons h hs, e, k => by cases e
  | i :: is, _, [], env, env', σ, Q, A, .nil, e, k => by cases e
theorem setIs_len : ∀ {is : List Nat} {ds : List PyData} {env env' : Env}, setIs is ds env = some env' → ds.length = is.length
  | [], [], _, _, _ => rfl
  | _ :: is, _ :: ds, env, env', h => by
    rw [List.length_cons, List.length_cons, setIs_len (is := is) (ds := ds) h]
  | [], _ :: _, _, _, h => by cases h
  | _ :: _, [], _, _, h => by cases h
theorem sg_tup {is : List Nat} {k} (hc : X.calm = true) (h : PGs X es (gsOf is)) (hn : (assignEach es X.env).length = is.length := by rfl) (hst : (assignEach es X.env).findIdx? (·.1) = none := by rfl) : SemG X (.Tuple es k pos) (.tp is) :=
  ⟨fun T H0 Hf0 => PG.imp (pg_tup hc h hn hst) fun v σ H Q ⟨Hf, env, t, d, env', A, r, e, k⟩ => by
    cases d with
    | tuple ds =>
      cases r with
      | @tup l o vs _ hh hd hs =>
        have e : setIs is ds env = some env' := e
        exact ⟨l, vs, rfl, .inl (.inr ⟨o, A.ex _ _ hh⟩), by rw [hs.len, setIs_len e], gs_run A hs e k⟩
    | _ => cases e⟩
/-! ### a new list that grows on the way -/
theorem Abs.other (A : Abs K T H0 Hf0 Hf env t σ H) {D : Addr} {o : HO} (h1 : D ≠ T) (h2 : Hf D = none) (h3 : H0 D = none) (h4 : ∀ (i : Nat) (lv : LV), env[i]? = some (some lv) → lv.mut = true → σ[i]? ≠ some (some (.ref D))) :
    Abs K T H0 Hf0 Hf env t σ (upd H D o) := by
  refine ⟨fun a u e => by rw [upd_ne (ne_of_none e h2)]; exact A.ex a u e, ⟨A.kp.ex, fun b u n e => by rw [upd_ne (ne_of_none e h3)]; exact A.kp.same b u n e, A.kp.away, fun h => by rw [upd_ne h1.symm]; exact A.kp.tt h⟩, A.len, fun j l h => ?_, A.new, A.sep, A.tf, by rw [upd_ne h1.symm]; exact A.th, A.t0⟩
  obtain ⟨v, hv, okv⟩ := A.loc j l h
  refine ⟨v, hv, ?_⟩
  have nep : l.mut = true → v ≠ .ref D := fun ml z => by
    subst z
    exact h4 j l h ml hv
  cases l with
  | d x => exact okv
  | tp => exact okv
  | scr ns => exact okv
  | own xs =>
    obtain ⟨q, vs, e1, e2, e3, e4⟩ := okv
    exact ⟨q, vs, e1, e2, by rw [upd_ne (fun z => nep rfl (by rw [e1, z]))]; exact e3, e4⟩
  | gd xs => exact okv
  | dk n xs =>
    obtain ⟨q, vs, e1, e2, e3, e4⟩ := okv
    exact ⟨q, vs, e1, e2, by rw [upd_ne (fun z => nep rfl (by rw [e1, z]))]; exact e3, e4⟩
  | dt xs =>
    obtain ⟨q, vs, e1, e2, e3, e4⟩ := okv
    exact ⟨q, vs, e1, e2, by rw [upd_ne (fun z => nep rfl (by rw [e1, z]))]; exact e3, e4⟩
theorem Abs.notmut (A : Abs K T H0 Hf0 Hf env t σ H) {D : Addr} (h : H D = none) : ∀ (i : Nat) (lv : LV), env[i]? = some (some lv) → lv.mut = true → σ[i]? ≠ some (some (.ref D)) := fun i lv he hm hs => by
  obtain ⟨v, hv, ok⟩ := A.loc i lv he
  rw [hs] at hv
  cases hv
  cases lv with
  | own xs =>
    obtain ⟨l, vs, e, _, b, _⟩ := ok
    cases e
    rw [h] at b
    cases b
  | dk n xs =>
    obtain ⟨l, vs, e, _, b, _⟩ := ok
    cases e
    rw [h] at b
    cases b
  | dt xs =>
    obtain ⟨l, vs, e, _, b, _⟩ := ok
    cases e
    rw [h] at b
    cases b
  | _ => cases hm
theorem Kp.grow {Hf' H' : Hp} {D : Addr} {o : HO} (k : Kp T Hf H Hf' H') (hD : D ≠ T) (h : H D = none) : Kp T Hf H Hf' (upd H' D o) :=
  ⟨k.ex, fun b u n e => by rw [upd_ne (ne_of_none e h)]; exact k.same b u n e, k.away, fun ht => by rw [upd_ne hD.symm]; exact k.tt ht⟩
/-! ### comprehensions -/
def lcF (C : CallF) (env : Env) (vs : List Nat) (tg : Tg) (c e : M) : PyData → Int → Option (Option PyData × Int) := fun y t => match setTg tg y (wipeE env vs) with
  | some env2 => match ev C env2 c t with
    | some (.bool true, t2) => match ev C env2 e t2 with
      | some (z, t3) => some (some z, t3)
      | none => none
    | some (.bool false, t2) => some (none, t2)
    | _ => none
  | none => none
theorem ev_lc {k : IK} {it : M} {tgt : Tg} {vs : List Nat} {c e : M} {d : PyData} {t' : Int} (h : ev C env (.lc k it tgt vs c e) t = some (d, t')) :
    ∃ x t1 xs ys, ev C env it t = some (x, t1) ∧ itemsD k x = some xs ∧ xs.length < sizeLine ∧ lcLoop (lcF C env vs tgt c e) xs t1 = some (ys, t') ∧ d = .list ys := by
  unfold ev at h
  split at h
  · rename_i x t1 e1
    split at h
    · rename_i xs e2
      split at h
      · rename_i hl
        obtain ⟨⟨ys, t3⟩, e3, e4⟩ := map_some h
        cases e4
        exact ⟨x, t1, xs, ys, e1, e2, hl, e3, rfl⟩
      · cases h
    · cases h
  · cases h
theorem lc_read {k : IK} {it : M} {tgt : Tg} {vs : List Nat} {mc me : M} (hv : ∀ i ∈ tgIx tgt, i ∈ vs) {Q : VK} (h : tE K C T H0 Hf0 (.lc k it tgt vs mc me) σ H Q) :
    tLc (tI K C T H0 Hf0 k it) (tG K T H0 Hf0 tgt) (tT K C T H0 Hf0 mc) (tE K C T H0 Hf0 me) vs σ H Q := by
  obtain ⟨Hf, env, t, d, t', A, e, q⟩ := h
  obtain ⟨x, t1, xs, ys, e1, e2, hl, e3, rfl⟩ := ev_lc e
  refine ⟨Hf, env, t, x, t1, xs, A, e1, e2, fun J vL Hf1 H1 A1 k1 r1 w D hD => ?_⟩
  obtain ⟨f1, f2, f3⟩ := A1.fresh hD
  have nm := A1.notmut hD
  refine lc_it w (fun i Hc => ∃ Hfc tc accV accD rest, Abs K T H0 Hf0 Hfc env tc σ Hc ∧ Kp T Hf1 H1 Hfc Hc ∧ Hfc D = none ∧ Hc D = some (.lst accV) ∧ RpAll Hfc accV accD ∧ lcLoop (lcF C env vs tgt mc me) (xs.drop i) tc = some (rest, t') ∧ accD ++ rest = ys ∧ accV.length ≤ i) ?_ ?_ ?_ ?_
  · exact ⟨Hf1, t1, [], [], ys, A1.other f3 f1 f2 nm, (Kp.refl _ _ _).grow f3 hD, f1, upd_same, .nil, e3, rfl, Nat.le_refl _⟩
  · rintro i Hc _ ⟨Hfc, tc, accV, accD, rest, Ac, kc, _⟩
    exact kc.ex.trans Ac.ex
  · rintro i xv Hc H' hi ⟨Hfc, tc, accV, accD, rest, Ac, kc, hfD, hcD, ra, hloop, hys, hlen⟩ ⟨rfl, hxv⟩
    have hi2 : i < xs.length := by
      rw [← r1.len]
      exact hi
    obtain ⟨dx, hdx, rx⟩ := r1.getV hxv
    have hdrop : xs.drop i = dx :: xs.drop (i + 1) := by
      rw [List.drop_eq_getElem_cons hi2]
      congr 1
      have := (List.getElem?_eq_some_iff.mp hdx).2
      exact this
    rw [hdrop] at hloop
    unfold lcLoop at hloop
    split at hloop
    · cases hloop
    · rename_i o tn hf
      unfold lcF at hf
      split at hf
      · rename_i env2 hset
        have Aw := Ac.wipe vs
        refine ⟨Hfc, wipeE env vs, tc, dx, env2, Aw, Rp.mono kc.ex _ _ rx, hset, fun σ2 A2 hw => ⟨?_, ?_⟩⟩
        · rw [hw vs hv]
          apply List.ext_getElem?
          intro j
          rw [wipe_get, wipe_length, wipe_get]
          split <;> rfl
        · split at hf
          · rename_i t2 hc
            split at hf
            · rename_i z t3 he
              cases hf
              refine ⟨Hfc, env2, tc, true, t2, A2, hc, fun Hf3 H3 A3 k3 => ?_⟩
              refine iteT ⟨Hf3, env2, t2, z, _, A3, he, fun v Hf4 H4 A4 k4 r4 => ?_⟩
              have k34 := k3.trans k4
              have B : Abs K T H0 Hf0 Hf4 env tn σ H4 := Ac.kept k34 A4.ex A4.th
              have hD4 : H4 D = some (.lst accV) := k34.same D _ f3 hcD
              have hf4 : Hf4 D = none := k34.away D _ hcD hfD
              split at hloop
              · cases hloop
              · rename_i ys2 t4 hl2
                cases hloop
                refine ⟨accV, hD4, by omega, ⟨Hf4, tn, accV ++ [v], accD ++ [z], ys2, B.other f3 hf4 f2 nm, (kc.trans k34).grow f3 hD, hf4, upd_same, (RpAll.mono k34.ex _ _ ra).append (.cons r4 .nil), hl2, ?_, ?_⟩⟩
                · rw [List.append_assoc]
                  exact hys
                · rw [List.length_append]
                  simp
                  omega
            · cases hf
          · rename_i t2 hc
            cases hf
            refine ⟨Hfc, env2, tc, false, _, A2, hc, fun Hf3 H3 A3 k3 => ?_⟩
            refine iteF ?_
            have B : Abs K T H0 Hf0 Hf3 env tn σ H3 := Ac.kept k3 A3.ex A3.th
            split at hloop
            · cases hloop
            · rename_i ys2 t4 hl2
              cases hloop
              exact ⟨Hf3, tn, accV, accD, _, B, kc.trans k3, k3.away D _ hcD hfD, k3.same D _ f3 hcD, RpAll.mono k3.ex _ _ ra, hl2, hys, by omega⟩
          · cases hf
      · cases hf
  · rintro Hc ⟨Hfc, tc, accV, accD, rest, Ac, kc, hfD, hcD, ra, hloop, hys, hlen⟩
    rw [r1.len, List.drop_length] at hloop
    unfold lcLoop at hloop
    cases hloop
    rw [List.append_nil] at hys
    subst hys
    have ex2 : Ex Hfc (upd Hfc D (.lst accV)) := Ex.new hfD
    have kk : Kp T Hfc Hc (upd Hfc D (.lst accV)) Hc ∨ True := .inr True.intro
    have kk : Kp T Hf1 H1 (upd Hfc D (.lst accV)) Hc := ⟨kc.ex.trans ex2, kc.same, fun b o h1 h2 => by rw [upd_ne (ne_of_none h1 hD)]; exact kc.away b o h1 h2, kc.tt⟩
    have exh : Ex (upd Hfc D (.lst accV)) Hc := fun a u e => by
      by_cases hp : a = D
      · subst hp
        rw [upd_same] at e
        cases e
        exact hcD
      · rw [upd_ne hp] at e
        exact Ac.ex a u e
    exact q (.ref D) _ Hc (A1.kept kk exh Ac.th) (k1.trans kk) (.lst upd_same (RpAll.mono ex2 _ _ ra))
theorem se_lc {elt iter : Expr} {ifs : List Expr} {scope : Scope} {own : List (Str × Nat)} {k : IK} {it mc me : M} {tgt : Tg} (hc : X.calm = true) (hN : X.N.Nodup) (hi : SemI C X tg iter k it) (ok : BlkOk X.N X.env.scope scope own) (hv : ∀ i ∈ tgIx tgt, i ∈ own.map (·.2))
    (hg : ∀ (s : Shared) (H : Hp) (L : Addr) (cl : List (Str × Addr)) (fp : List Addr), SemG (X.blk s H scope (compEnvC scope cl L X.env) fp) tg tgt)
    (ht : ∀ (s : Shared) (H : Hp) (L : Addr) (cl : List (Str × Addr)) (fp : List Addr) T H0 Hf0, PTs (X.blk s H scope (compEnvC scope cl L X.env) fp) ifs (tT X.K C T H0 Hf0 mc))
    (he : ∀ (s : Shared) (H : Hp) (L : Addr) (cl : List (Str × Addr)) (fp : List Addr), SemE C (X.blk s H scope (compEnvC scope cl L X.env) fp) elt me) (hs : ∀ x, foldedSetIterable iter X.env x = pure x := by intro _; rfl) :
    SemE C X (.ListComp elt [⟨tg, iter, ifs, 0⟩] scope pos) (.lc k it tgt (own.map (·.2)) mc me) :=
  ⟨fun T H0 Hf0 => PE.imp (pe_lc hc hN (hi.run T H0 Hf0) ok (fun s H L cl fp => (hg s H L cl fp).run T H0 Hf0) (fun s H L cl fp => ht s H L cl fp T H0 Hf0) (fun s H L cl fp => (he s H L cl fp).run T H0 Hf0) hs) fun σ H Q h => lc_read hv h⟩
theorem pts_all (T : Addr) (H0 Hf0 : Hp) : PTs X [] (tT X.K C T H0 Hf0 (.lit (.bool true))) := ⟨fun pins s σ H Q I ⟨Hf, env, t, b, t', A, e, k⟩ => by
  cases e
  exact pts_nil.run pins s σ H Q I (k _ _ A (Kp.refl _ _ _))⟩
theorem pts_if (h : SemT C X c mc) (T : Addr) (H0 Hf0 : Hp) : PTs X [c] (tT X.K C T H0 Hf0 mc) := pts_one (h.run T H0 Hf0)
end
end Pl

set_option Elab.async false
set_option linter.all false
set_option maxRecDepth 100000
set_option maxHeartbeats 1000000
/-! Pl: statements, defs. -/
namespace Pl
open PySem PySem.Spec PyProof.Rows L2
inductive S where
  | nop
  | seq (a b : S)
  | asg (tg : Tg) (e : M)
  | own (i : Nat) (l : M)
  | app (i : Nat) (e : M)
  | seti (i : Nat) (ix e : M)
  | pop0 (j i : Nat)
  | tape (i : Nat) (e : M)
  | frz (i : Nat)
  | ife (c : M) (a b : S)
  | for (k : IK) (it : M) (tg : Tg) (b : S)
  | forG (i : Nat) (tg : Tg) (b : S)
  | while (c : M) (b : S)
  | whileL (i : Nat) (b : S)
  | ret (e : M)
  | drop (e : M)
  | new0 (i : Nat) (t : Bool)
  | newK (i : Nat) (k v : M)
  | newD (i j : Nat)
  | frzD (i : Nat)
  | dput (i : Nat) (k e : M)
  | dputN (i : Nat) (k e : M)
  | tail (i f : Nat) (l : M) (qs : List M) (r : S)
  | never
inductive Out where
  | nx (env : Env) (t : Int)
  | rt (d : PyData) (t : Int)
def forL (f : Env → Int → Option Out) (tg : Tg) : List PyData → Env → Int → Option Out
  | [], env, t => some (.nx env t)
  | d :: ds, env, t => match setTg tg d env with
    | none => none
    | some env1 => match f env1 t with
      | some (.nx env2 t2) => forL f tg ds env2 t2
      | o => o
/-- a loop over a list of one's own that may grow on the way: from the place j on -/
def forO (f : Env → Int → Option Out) (tg : Tg) (i : Nat) : Nat → Nat → Env → Int → Option Out
  | 0, _, _, _ => none
  | w + 1, j, env, t => match env[i]? with
    | some (some (.own xs)) => match xs[j]? with
      | none => some (.nx env t)
      | some d => match setTg tg d env with
        | none => none
        | some env1 => match f env1 t with
          | some (.nx env2 t2) => forO f tg i w (j + 1) env2 t2
          | o => o
    | _ => none
def whl (c : Env → Int → Option (PyData × Int)) (f : Env → Int → Option Out) : Nat → Env → Int → Option Out
  | 0, _, _ => none
  | w + 1, env, t => match c env t with
    | some (.bool true, t1) => match f env t1 with
      | some (.nx env2 t2) => whl c f w env2 t2
      | o => o
    | some (.bool false, t1) => some (.nx env t1)
    | _ => none
def ownAt (env : Env) (i : Nat) : Option (List PyData) := match env[i]? with
  | some (some (.own xs)) => some xs
  | _ => none
def isListD : PyData → Bool
  | .list _ => true
  | _ => false
/-- three parts: something, a list of lists that is not empty, a list; none of them long -/
def new3B : PyData → Bool
  | .tuple [_, .list (.list ws :: _), .list gs] => decide (ws.length < 1000000) && decide (gs.length < 1000000)
  | _ => false
def nomutB (env : Env) : Bool := env.all fun | some lv => !lv.mut | none => true
/-- tests that are false, one behind the other -/
def qtest (C : CallF) (env : Env) : List M → Int → Option Int
  | [], t => some t
  | c :: r, t => match ev C env c t with
    | some (.bool false, t1) => qtest C env r t1
    | _ => none
def exs (C : CallF) (W : Nat) : S → Env → Int → Option Out
  | .nop, env, t => some (.nx env t)
  | .seq a b, env, t => match exs C W a env t with
    | some (.nx env1 t1) => exs C W b env1 t1
    | o => o
  | .asg tg e, env, t => match ev C env e t with
    | some (d, t1) => (setTg tg d env).map fun env1 => .nx env1 t1
    | none => none
  | .own i l, env, t => match evs C env l t with
    | some (lvs, t1) => match dsOf lvs with
      | some ds => if ds.length ≤ 1000 ∧ i < env.length then some (.nx (env.set i (some (.own ds))) t1) else none
      | none => none
    | none => none
  | .app i e, env, t => match ev C env e t with
    | some (d, t1) => match ownAt env i with
      | some xs => if xs.length < sizeLine then some (.nx (env.set i (some (.own (xs ++ [d])))) t1) else none
      | none => none
    | none => none
  | .seti i ix e, env, t => match ev C env e t with
    | some (d, t1) => match ev C env ix t1 with
      | some (.int k, t2) => match ownAt env i with
        | some xs => (ixN xs.length k).map fun j => .nx (env.set i (some (.own (xs.set j d)))) t2
        | none => none
      | _ => none
    | none => none
  | .pop0 j i, env, t => match ownAt env i with
    | some (x :: xs) => if i ≠ j then some (.nx ((env.set i (some (.own xs))).set j (some (.d x))) t) else none
    | _ => none
  | .tape i e, env, t => match ev C env e t with
    | some (.int n, t1) => match env[i]? with
      | some (some .tp) => some (.nx env n)
      | _ => none
    | _ => none
  | .frz i, env, t => match ownAt env i with
    | some xs => some (.nx (env.set i (some (.d (.list xs)))) t)
    | none => none
  | .ife c a b, env, t => match ev C env c t with
    | some (.bool true, t1) => exs C W a env t1
    | some (.bool false, t1) => exs C W b env t1
    | _ => none
  | .for k it tg b, env, t => match ev C env it t with
    | some (x, t1) => match itemsD k x with
      | some xs => forL (exs C W b) tg xs env t1
      | none => none
    | none => none
  | .forG i tg b, env, t => forO (exs C W b) tg i W 0 env t
  | .while c b, env, t => whl (fun env t => ev C env c t) (exs C W b) W env t
  | .whileL i b, env, t => whl (fun env t => (ownAt env i).map fun xs => (.bool (!xs.isEmpty), t)) (exs C W b) W env t
  | .ret e, env, t => match ev C env e t with
    | some (d, t1) => some (.rt d t1)
    | none => none
  | .drop e, env, t => match ev C env e t with
    | some (_, t1) => some (.nx env t1)
    | none => none
  | .new0 i b, env, t => if i < env.length then some (.nx (env.set i (some (if b then .dt [] else .dk false []))) t) else none
  | .newK i k v, env, t => match ev C env k t with
    | some (x, t1) => match ev C env v t1 with
      | some (y, t2) => match keyD x with
        | some key => if i < env.length ∧ (flatD y || isListD y) = true then some (.nx (env.set i (some (.dk true [(key, y)]))) t2) else none
        | none => none
      | none => none
    | none => none
  | .newD i j, env, t => match env[j]? with
    | some (some (.gd kvs)) => if i < env.length then some (.nx (env.set i (some (.dk false kvs))) t) else none
    | _ => none
  | .frzD i, env, t => match env[i]? with
    | some (some (.dk _ kvs)) => some (.nx (env.set i (some (.gd kvs))) t)
    | _ => none
  | .dput i k e, env, t => match ev C env e t with
    | some (y, t1) => match ev C env k t1 with
      | some (x, t2) => match env[i]? with
        | some (some (.dk n kvs)) => match keyD x with
          | some key => if kvs.length < sizeLine ∧ (!n || flatD y) = true then some (.nx (env.set i (some (.dk n (putD kvs key y)))) t2) else none
          | none => none
        | _ => none
      | none => none
    | none => none
  | .dputN i k e, env, t => match ev C env e t with
    | some (y, t1) => match ev C env k t1 with
      | some (x, t2) => match env[i]? with
        | some (some (.dk n kvs)) => match keyD x with
          | some key => if kvs.length < sizeLine ∧ isListD y = true then some (.nx (env.set i (some (.dk n (putD kvs key y)))) t2) else none
          | none => none
        | _ => none
      | none => none
    | none => none
  | .tail i f l qs r, env, t => match evs C env l t with
    | some (lvs, t1) => match C f lvs t1 with
      | some (x, t2) => if nomutB (env.set i none) = true ∧ i < env.length ∧ new3B x = true then match qtest C (env.set i (some (.d x))) qs t2 with
        | some t3 => exs C W r (env.set i none) t3
        | none => none
        else none
      | none => none
    | none => none
  | .never, _, _ => none
/-! ### the statements' readings -/
structure Fin (T : Addr) (H0 Hf0 Hf : Hp) (t : Int) (H : Hp) : Prop where
  ex : Ex Hf H
  kp : Kp T Hf0 H0 Hf H
  tf : Hf T = none
  th : H T = some (.lst [.int t])
theorem Abs.fin {K : PySem.W.Frag} {T : Addr} {H0 Hf0 Hf : Hp} {env : Env} {t : Int} {σ : L2.St} {H : Hp} (A : Abs K T H0 Hf0 Hf env t σ H) : Fin T H0 Hf0 Hf t H := ⟨A.ex, A.kp, A.tf, A.th⟩
section
variable (K : PySem.W.Frag) (C : CallF) (W : Nat) (T : Addr) (H0 Hf0 : Hp)
def Wants (Hf : Hp) (D : Ends) : Out → Prop
  | .nx env t => ∀ σ Hf' H', Abs K T H0 Hf0 Hf' env t σ H' → Ex Hf Hf' → D.nx σ H'
  | .rt d t => ∀ v Hf' H', Fin T H0 Hf0 Hf' t H' → Ex Hf Hf' → Rp Hf' v d → D.rt v H'
def tS (s : S) : TS := fun D σ H => ∃ Hf env t o, Abs K T H0 Hf0 Hf env t σ H ∧ exs C W s env t = some o ∧ Wants K T H0 Hf0 Hf D o
end
structure SemS (C : CallF) (W : Nat) (X : Cx) (st : Stmt) (s : S) : Prop where
  run : ∀ T H0 Hf0, PS X st (tS X.K C W T H0 Hf0 s)
structure SemB (C : CallF) (W : Nat) (X : Cx) (sts : List Stmt) (s : S) : Prop where
  run : ∀ T H0 Hf0, PSs X sts (tS X.K C W T H0 Hf0 s)
section
variable {C : CallF} {W : Nat} {X : Cx} {a b c e tg : Expr} {es : List Expr} {ma mb mc m : M} {pos : Pos} {K : PySem.W.Frag} {T : Addr} {H0 Hf0 Hf : Hp} {env : Env} {t t1 t2 : Int} {σ : L2.St} {H : Hp} {d1 d2 : PyData} {st : Stmt} {sts : List Stmt} {s1 s2 : S}
theorem Wants.mono {Hf' : Hp} {D : Ends} {o : Out} (h : Wants K T H0 Hf0 Hf D o) (e : Ex Hf Hf') : Wants K T H0 Hf0 Hf' D o := by
  cases o with
  | nx env t => exact fun σ Hf2 H2 A e2 => h σ Hf2 H2 A (e.trans e2)
  | rt d t => exact fun v Hf2 H2 A e2 r => h v Hf2 H2 A (e.trans e2) r
theorem sb_nil : SemB C W X [] .nop := ⟨fun T H0 Hf0 => PSs.imp pss_nil fun D σ H ⟨Hf, env, t, o, A, e, k⟩ => by
  cases e
  exact k _ _ _ A (Ex.refl _)⟩
theorem sb_cons (h1 : SemS C W X st s1) (h2 : SemB C W X sts s2) : SemB C W X (st :: sts) (.seq s1 s2) := ⟨fun T H0 Hf0 => PSs.imp (pss_cons (h1.run T H0 Hf0) (h2.run T H0 Hf0)) fun D σ H ⟨Hf, env, t, o, A, e, k⟩ => by
  unfold exs at e
  cases e1 : exs C W s1 env t with
  | none =>
    rw [e1] at e
    cases e
  | some o1 =>
    rw [e1] at e
    refine ⟨Hf, env, t, o1, A, e1, ?_⟩
    cases o1 with
    | nx env1 t1 => exact fun σ1 Hf1 H1 A1 ex1 => ⟨Hf1, env1, t1, o, A1, e, k.mono ex1⟩
    | rt d t1 =>
      cases e
      exact k⟩
theorem ownAt_some {i : Nat} {xs : List PyData} (h : ownAt env i = some xs) : env[i]? = some (some (.own xs)) := by
  unfold ownAt at h
  split at h
  · cases h
    assumption
  · cases h
theorem exs_seq {a b : S} : exs C W (.seq a b) env t = match exs C W a env t with
    | some (.nx env1 t1) => exs C W b env1 t1
    | o => o := by rw [exs]
theorem exs_frz {i : Nat} : exs C W (.frz i) env t = match ownAt env i with
    | some xs => some (.nx (env.set i (some (.d (.list xs)))) t)
    | none => none := by rw [exs]
theorem sb_frz (i : Nat) (h2 : SemB C W X sts s2) : SemB C W X sts (.seq (.frz i) s2) := ⟨fun T H0 Hf0 => PSs.imp (h2.run T H0 Hf0) fun D σ H ⟨Hf, env, t, o, A, e, k⟩ => by
  rw [exs_seq, exs_frz] at e
  cases e0 : ownAt env i with
  | none => rw [e0] at e; cases e
  | some xs =>
    rw [e0] at e
    obtain ⟨Hf', ex, A'⟩ := A.freeze (ownAt_some e0)
    exact ⟨Hf', _, t, o, A', e, k.mono ex⟩⟩
theorem sb_one (h1 : SemS C W X st s1) : SemB C W X [st] s1 := ⟨fun T H0 Hf0 => pss_one (h1.run T H0 Hf0)⟩
theorem sb_never : SemB C W X sts .never := ⟨fun T H0 Hf0 => PSs.imp pss_never fun D σ H ⟨Hf, env, t, o, A, e, k⟩ => by cases e⟩
theorem ss_never : SemS C W X st .never := ⟨fun T H0 Hf0 => PS.imp ps_never fun D σ H ⟨Hf, env, t, o, A, e, k⟩ => by cases e⟩
theorem asg_read {g : Tg} {D : Ends} (h : tS K C W T H0 Hf0 (.asg g m) D σ H) : tAsg (tE K C T H0 Hf0 m) (tG K T H0 Hf0 g) D σ H := by
  obtain ⟨Hf, env, t, o, A, e, k⟩ := h
  unfold exs at e
  split at e
  · rename_i d t1 e1
    obtain ⟨env1, e2, e3⟩ := map_some e
    subst e3
    exact ⟨Hf, env, t, d, t1, A, e1, fun v Hf1 H1 A1 k1 r1 => ⟨Hf1, env, t1, d, env1, A1, r1, e2, fun σ' A' _ => k _ _ _ A' k1.ex⟩⟩
  · cases e
theorem ss_asg {i : Nat} {x : Str} {pos' : Pos} (hN : X.N.Nodup) (hi : X.N[i]? = some x) (hx : Loc X.env.scope x) (hf : X.fn x = true ∨ X.env.scope.names.lookup x = some .local) (he : SemE C X e m) (hs : swapsWith e (some (.Name x pos')) pos.line X.env = pure false := by rfl) :
    SemS C W X (.Assign [.Name x pos'] e pos) (.asg (.nm i) m) :=
  ⟨fun T H0 Hf0 => PS.imp (ps_set hN hi hx (he.run T H0 Hf0) hs hf) fun D σ H h => by
    have h := asg_read h
    obtain ⟨Hf, env, t, d, t', A, e, k⟩ := h
    refine ⟨Hf, env, t, d, t', A, e, fun v Hf1 H1 A1 k1 r1 => ?_⟩
    obtain ⟨Hf2, env2, t2, d2, env', A2, r2, e2, k2⟩ := k v Hf1 H1 A1 k1 r1
    cases e2
    exact k2 _ (A2.set r2) fun js h => wipe_set (h i List.mem_cons_self)⟩
theorem ss_asgT {g : Tg} (he : SemE C X e m) (hg : SemG X tg g) (hs : swapsWithSole [tg] e pos.line X.env = pure false := by rfl) (hw : swappedStores [tg] e X.env = pure none := by rfl) (h1 : (assignEach [tg] X.env).map (·.2) = [assign tg X.env] := by rfl) : SemS C W X (.Assign [tg] e pos) (.asg g m) :=
  ⟨fun T H0 Hf0 => PS.imp (ps_asg (he.run T H0 Hf0) (hg.run T H0 Hf0) hs hw h1) fun D σ H h => asg_read h⟩
theorem ss_asgLc {i : Nat} {y : Str} {py : Pos} {elt iter tg : Expr} {ifs : List Expr} {scope : Scope} {own : List (Str × Nat)} {spos : Pos} {k : IK} {it mc me : M} {tgt : Tg} (hc : X.calm = true) (hN : X.N.Nodup) (hy : X.N[i]? = some y) (hyl : X.env.scope.names.lookup y = some .local)
    (hsw : swapsWith (.ListComp elt [⟨tg, iter, ifs, 0⟩] scope pos) (some (.Name y py)) spos.line X.env = pure true) (hi : SemI C X tg iter k it) (ok : BlkOk X.N X.env.scope scope own) (hv : ∀ i ∈ tgIx tgt, i ∈ own.map (·.2))
    (hg : ∀ (s : Shared) (H : Hp) (L : Addr) (cl : List (Str × Addr)) (fp : List Addr), SemG (X.blk s H scope (compEnvC scope cl L X.env) fp) tg tgt)
    (ht : ∀ (s : Shared) (H : Hp) (L : Addr) (cl : List (Str × Addr)) (fp : List Addr) T H0 Hf0, PTs (X.blk s H scope (compEnvC scope cl L X.env) fp) ifs (tT X.K C T H0 Hf0 mc))
    (he : ∀ (s : Shared) (H : Hp) (L : Addr) (cl : List (Str × Addr)) (fp : List Addr), SemE C (X.blk s H scope (compEnvC scope cl L X.env) fp) elt me) (hs : ∀ x, foldedSetIterable iter X.env x = pure x := by intro _; rfl) :
    SemS C W X (.Assign [.Name y py] (.ListComp elt [⟨tg, iter, ifs, 0⟩] scope pos) spos) (.asg (.nm i) (.lc k it tgt (own.map (·.2)) mc me)) :=
  ⟨fun T H0 Hf0 => PS.imp (ps_setLc (te := tE X.K C T H0 Hf0 me) (g := tG X.K T H0 Hf0 tgt) hc hN hy hyl hsw (hi.run T H0 Hf0) ok (fun s H L cl fp => (hg s H L cl fp).run T H0 Hf0) (fun s H L cl fp => ht s H L cl fp T H0 Hf0) (fun s H L cl fp => (he s H L cl fp).run T H0 Hf0) hs) fun D σ H h => by
    refine lc_read hv ?_
    obtain ⟨Hf, env, t, d, t', A, e, k⟩ := asg_read h
    refine ⟨Hf, env, t, d, t', A, e, fun v Hf1 H1 A1 k1 r1 => ?_⟩
    obtain ⟨Hf2, env2, t2, d2, env', A2, r2, e2, k2⟩ := k v Hf1 H1 A1 k1 r1
    cases e2
    exact k2 _ (A2.set r2) fun js h => wipe_set (h i List.mem_cons_self)⟩
theorem ss_own {i : Nat} {x : Str} {pos' p2 : Pos} (hN : X.N.Nodup) (hi : X.N[i]? = some x) (hx : Loc X.env.scope x) (hf : X.fn x = true ∨ X.env.scope.names.lookup x = some .local) (he : SemA C X es m) (hs : swapsWith (.List es p2) (some (.Name x pos')) pos.line X.env = pure false := by rfl) :
    SemS C W X (.Assign [.Name x pos'] (.List es p2) pos) (.own i m) :=
  ⟨fun T H0 Hf0 => PS.imp (ps_set hN hi hx (pe_lst (he.run T H0 Hf0)) hs hf) fun D σ H ⟨Hf, env, t, o, A, e, k⟩ => by
    unfold exs at e
    split at e
    · rename_i lvs t1 e1
      split at e
      · rename_i ds e2
        split at e
        · rename_i hl
          cases e
          refine ⟨Hf, env, t, lvs, _, A, e1, fun vs Hf1 H1 A1 k1 r1 => ?_⟩
          have rr := args_data r1 e2
          exact ⟨by rw [rr.len]; exact le1000 hl.1, fun p hp => k _ _ _ (A1.setM hp rfl ⟨p, vs, rfl, (A1.fresh hp).1, upd_same, rr⟩) k1.ex⟩
        · cases e
      · cases e
    · cases e⟩
theorem ss_app (i : Nat) {x : Str} {p1 apos cpos pos : Pos} (hN : X.N[i]? = some x) (hv : Vis X.env.scope x) (he : SemE C X e m) (hd : (x == ("__debug__" : Str)) = false := by decide) (hcd : (x == ("__classdict__" : Str)) = false := by decide)
    (hfew : ((backTo cpos (starEach [e] X.env)).all (fun x => !x.1) && (backToKw cpos (keywordEach [] X.env)).all (fun x => x.1.isSome) && decide ([e].length + ([] : List Keyword).length + (if ([] : List Keyword).isEmpty then 0 else 1) < 30)) = true := by rfl)
    (hline : (apos.endLine == cpos.line) = true := by rfl) (hs : starEach [e] X.env = (false, eval e X.env) :: starEach [] X.env := by rfl) (hsw : swapsWith (.Call (.Attribute (.Name x p1) "append" apos) [e] [] cpos) none pos.line X.env = pure false := by rfl) :
    SemS C W X (.Expr (.Call (.Attribute (.Name x p1) "append" apos) [e] [] cpos) pos) (.app i m) :=
  ⟨fun T H0 Hf0 => PS.imp (ps_expr (pe_bm F.plainAttrs_list F.slot_list_append F.type_list_append mt_append (pe_var hN hv hd hcd) (pa_cons (he.run T H0 Hf0) pa_nil hs) rfl hfew hline hs) hsw) fun D σ H ⟨Hf, env, t, o, A, e, k⟩ => by
    unfold exs at e
    split at e
    · rename_i d t1 e1
      split at e
      · rename_i xs hx
        have hx := ownAt_some hx
        split at e
        · rename_i hl
          cases e
          obtain ⟨v, hs, l, vs, rfl, f1, f2, f3⟩ := A.loc i _ hx
          refine ⟨_, hs, .inl ⟨rfl, vs, SqL.of f2⟩, ⟨Hf, env, t, d, _, A, e1, fun w Hf1 H1 A1 k1 r1 => ?_⟩⟩
          obtain ⟨v', hs', l', vs', e', g1, g2, g3⟩ := A1.loc i _ hx
          rw [hs] at hs'
          cases hs'
          cases e'
          exact ⟨l, vs', w, rfl, rfl, g2, by rw [g3.len]; exact hl, k _ _ _ (A1.write hx rfl hs g1 rfl ⟨l, _, rfl, g1, upd_same, g3.append (.cons r1 .nil)⟩) k1.ex⟩
        · cases e
      · cases e
    · cases e⟩
theorem ss_seti (i : Nat) {x : Str} {p1 p2 pos : Pos} {ix : Expr} {mi : M} (hN : X.N[i]? = some x) (hv : Vis X.env.scope x) (he : SemE C X e m) (hix : SemE C X ix mi) (hd : (x == ("__debug__" : Str)) = false := by decide) (hcd : (x == ("__classdict__" : Str)) = false := by decide)
    (ha : ∀ v, assign (.Subscript (.Name x p1) ix p2) X.env v = (do
      let ov ← holding [v] (eval (.Name x p1) X.env)
      let iv ← holding [v, ov] (eval ix X.env)
      standAt p2
      holding [v, ov, iv] (setItem ov iv v)
      release [v, ov, iv] []) := by intro _; rfl)
    (hs : swapsWithSole [.Subscript (.Name x p1) ix p2] e pos.line X.env = pure false := by rfl) (hw : swappedStores [.Subscript (.Name x p1) ix p2] e X.env = pure none := by rfl) (h1 : (assignEach [.Subscript (.Name x p1) ix p2] X.env).map (·.2) = [assign (.Subscript (.Name x p1) ix p2) X.env] := by rfl) :
    SemS C W X (.Assign [.Subscript (.Name x p1) ix p2] e pos) (.seti i mi m) :=
  ⟨fun T H0 Hf0 => PS.imp (ps_asg (he.run T H0 Hf0) (pg_sub (pe_var hN hv hd hcd) (hix.run T H0 Hf0) set_list ha) hs hw h1) fun D σ H ⟨Hf, env, t, o, A, e, k⟩ => by
    unfold exs at e
    split at e
    · rename_i d t1 e1
      split at e
      · rename_i kk t2 e2
        split at e
        · rename_i xs hx
          have hx := ownAt_some hx
          obtain ⟨j, hj, ej⟩ := map_some e
          subst ej
          refine ⟨Hf, env, t, d, _, A, e1, fun w Hf1 H1 A1 k1 r1 => ?_⟩
          obtain ⟨v, hs, l, vs, rfl, f1, f2, f3⟩ := A1.loc i _ hx
          refine ⟨_, hs, ⟨Hf1, env, t1, _, _, A1, e2, fun y Hf2 H2 A2 k2 r2 => ?_⟩⟩
          cases r2
          obtain ⟨v', hs', l', vs', e', g1, g2, g3⟩ := A2.loc i _ hx
          rw [hs] at hs'
          cases hs'
          cases e'
          exact ⟨l, vs', kk, j, rfl, rfl, g2, by rw [g3.len]; exact hj, k _ _ _ (A2.write hx rfl hs g1 rfl ⟨l, _, rfl, g1, upd_same, g3.set (Rp.mono k2.ex _ _ r1) j⟩) (k1.ex.trans k2.ex)⟩
        · cases e
      · cases e
    · cases e⟩
theorem ss_tape (i : Nat) {x : Str} {p1 p2 p3 pos : Pos} {j} (hN : X.N[i]? = some x) (hv : Vis X.env.scope x) (he : SemE C X e m) (hd : (x == ("__debug__" : Str)) = false := by decide) (hcd : (x == ("__classdict__" : Str)) = false := by decide)
    (hs : swapsWithSole [.Subscript (.Name x p1) (.Constant (.int 0) j p3) p2] e pos.line X.env = pure false := by rfl) (hw : swappedStores [.Subscript (.Name x p1) (.Constant (.int 0) j p3) p2] e X.env = pure none := by rfl)
    (h1 : (assignEach [.Subscript (.Name x p1) (.Constant (.int 0) j p3) p2] X.env).map (·.2) = [assign (.Subscript (.Name x p1) (.Constant (.int 0) j p3) p2) X.env] := by rfl) :
    SemS C W X (.Assign [.Subscript (.Name x p1) (.Constant (.int 0) j p3) p2] e pos) (.tape i m) :=
  ⟨fun T H0 Hf0 => PS.imp (ps_asg (he.run T H0 Hf0) (pg_sub (pe_var hN hv hd hcd) pe_int set_list) hs hw h1) fun D σ H ⟨Hf, env, t, o, A, e, k⟩ => by
    unfold exs at e
    split at e
    · rename_i n t1 e1
      split at e
      · rename_i hx
        cases e
        refine ⟨Hf, env, t, _, _, A, e1, fun w Hf1 H1 A1 k1 r1 => ?_⟩
        cases r1
        obtain ⟨v, hs, r⟩ := A1.loc i _ hx
        have r : v = .ref T := r
        subst r
        exact ⟨_, hs, T, _, 0, 0, rfl, rfl, A1.th, rfl, k _ _ _ (A1.tape).1 k1.ex⟩
      · cases e
    · cases e⟩
theorem ss_if {x y : List Stmt} (hc : SemT C X c mc) (ha : SemB C W X x s1) (hb : SemB C W X y s2) : SemS C W X (.If c x y pos) (.ife mc s1 s2) :=
  ⟨fun T H0 Hf0 => PS.imp (ps_if (hc.run T H0 Hf0) (ha.run T H0 Hf0) (hb.run T H0 Hf0)) fun D σ H ⟨Hf, env, t, o, A, e, k⟩ => by
    unfold exs at e
    split at e
    · rename_i t1 e1
      exact ⟨Hf, env, t, true, t1, A, e1, fun Hf1 H1 A1 k1 => iteT ⟨Hf1, env, t1, o, A1, e, k.mono k1.ex⟩⟩
    · rename_i t1 e1
      exact ⟨Hf, env, t, false, t1, A, e1, fun Hf1 H1 A1 k1 => iteF ⟨Hf1, env, t1, o, A1, e, k.mono k1.ex⟩⟩
    · cases e⟩
theorem ss_ret (he : SemE C X e m) : SemS C W X (.Return (some e) pos) (.ret m) :=
  ⟨fun T H0 Hf0 => PS.imp (ps_ret (he.run T H0 Hf0)) fun D σ H ⟨Hf, env, t, o, A, e, k⟩ => by
    unfold exs at e
    split at e
    · rename_i d t1 e1
      cases e
      exact ⟨Hf, env, t, d, _, A, e1, fun v Hf1 H1 A1 k1 r1 => k _ _ _ A1.fin k1.ex r1⟩
    · cases e⟩
theorem ss_drop (he : SemE C X e m) (hs : swapsWith e none pos.line X.env = pure false := by rfl) : SemS C W X (.Expr e pos) (.drop m) :=
  ⟨fun T H0 Hf0 => PS.imp (ps_expr (he.run T H0 Hf0) hs) fun D σ H ⟨Hf, env, t, o, A, e, k⟩ => by
    unfold exs at e
    split at e
    · rename_i d t1 e1
      cases e
      exact ⟨Hf, env, t, d, _, A, e1, fun v Hf1 H1 A1 k1 r1 => k _ _ _ A1 k1.ex⟩
    · cases e⟩
theorem ss_for {iter : Expr} {body : List Stmt} {k : IK} {it : M} {g : Tg} (hp : PassesOwn (model X.prog X.w) X.A X.env X.xe) (hc : X.calm = true) (hi : SemI C X tg iter k it) (hg : SemG X tg g) (hb : SemB C W X body s1) (hs : ∀ x, foldedSetIterable iter X.env x = pure x := by intro _; rfl) :
    SemS C W X (.For tg iter body [] pos) (.for k it g s1) :=
  ⟨fun T H0 Hf0 => PS.imp (ps_for hp hc (hi.run T H0 Hf0) (hg.run T H0 Hf0) (hb.run T H0 Hf0) hs) fun D σ H ⟨Hf, env, t, o, A, e, q⟩ => by
    unfold exs at e
    split at e
    · rename_i x t1 e1
      split at e
      · rename_i xs e2
        refine ⟨Hf, env, t, x, t1, xs, A, e1, e2, fun J vL Hf1 H1 A1 k1 r1 w => ?_⟩
        have q := q.mono k1.ex
        refine for_it w (fun i σc Hc => ∃ Hfc envc tc, Abs X.K T H0 Hf0 Hfc envc tc σc Hc ∧ Ex Hf1 Hfc ∧ forL (exs C W s1) g (xs.drop i) envc tc = some o) ?_ ?_ ?_ ?_
        · exact ⟨Hf1, env, t1, A1, Ex.refl _, e⟩
        · rintro i σc Hc _ ⟨Hfc, envc, tc, Ac, exc, _⟩
          exact exc.trans Ac.ex
        · rintro i xv σc Hc H' hi ⟨Hfc, envc, tc, Ac, exc, hloop⟩ ⟨rfl, hxv⟩
          have hi2 : i < xs.length := by
            rw [← r1.len]
            exact hi
          obtain ⟨dx, hdx, rx⟩ := r1.getV hxv
          have hdrop : xs.drop i = dx :: xs.drop (i + 1) := by
            rw [List.drop_eq_getElem_cons hi2]
            congr 1
            exact (List.getElem?_eq_some_iff.mp hdx).2
          rw [hdrop] at hloop
          unfold forL at hloop
          split at hloop
          · cases hloop
          · rename_i env1 hset
            refine ⟨Hfc, envc, tc, dx, env1, Ac, Rp.mono exc _ _ rx, hset, fun σ2 A2 _ => ?_⟩
            split at hloop
            · rename_i env2 t2 hb
              exact ⟨Hfc, env1, tc, _, A2, hb, fun σ3 Hf3 H3 A3 ex3 => ⟨Hf3, env2, t2, A3, exc.trans ex3, hloop⟩⟩
            · rename_i o' hno
              refine ⟨Hfc, env1, tc, o, A2, hloop, ?_⟩
              cases o with
              | nx e' t' => exact absurd hloop (hno e' t')
              | rt d t' => exact q.mono exc
        · rintro σc Hc ⟨Hfc, envc, tc, Ac, exc, hloop⟩
          rw [r1.len, List.drop_length] at hloop
          unfold forL at hloop
          cases hloop
          exact q _ _ _ Ac exc
      · cases e
    · cases e⟩
theorem whl_read {tc : TT} {tb : TS} {cf : Env → Int → Option (PyData × Int)} {D : Ends} (hcr : ∀ (σ : L2.St) (H : Hp) (Q : Bool → Hp → Prop) (Hf : Hp) (env : Env) (t : Int) (b : Bool) (t' : Int), Abs K T H0 Hf0 Hf env t σ H → cf env t = some (.bool b, t') → (∀ Hf' H', Abs K T H0 Hf0 Hf' env t' σ H' → Ex Hf Hf' → Q b H') → tc σ H Q)
    (hbr : ∀ D σ H, tS K C W T H0 Hf0 s1 D σ H → tb D σ H) {w : Nat} {o : Out} (A : Abs K T H0 Hf0 Hf env t σ H) (e : whl cf (exs C W s1) w env t = some o) (q : Wants K T H0 Hf0 Hf D o) : tWhile tc tb D σ H := by
  refine ⟨fun n σc Hc => ∃ Hfc envc tc, Abs K T H0 Hf0 Hfc envc tc σc Hc ∧ Ex Hf Hfc ∧ whl cf (exs C W s1) n envc tc = some o, ⟨w, Hf, env, t, A, Ex.refl _, e⟩, ?_⟩
  rintro n σc Hc ⟨Hfc, envc, tcc, Ac, exc, hw⟩
  cases n with
  | zero => cases hw
  | succ n =>
    unfold whl at hw
    split at hw
    · rename_i t1 e1
      refine hcr σc Hc _ Hfc envc tcc true t1 Ac e1 fun Hf1 H1 A1 ex1 => ?_
      refine iteT ⟨fun σ' H' => ∃ Hfc envc tc, Abs K T H0 Hf0 Hfc envc tc σ' H' ∧ Ex Hf Hfc ∧ whl cf (exs C W s1) n envc tc = some o, fun σ' H' h => ⟨n, Nat.lt_succ_self n, h⟩, hbr _ _ _ ?_⟩
      split at hw
      · rename_i env2 t2 hb
        exact ⟨Hf1, envc, t1, _, A1, hb, fun σ3 Hf3 H3 A3 ex3 => ⟨Hf3, env2, t2, A3, exc.trans (ex1.trans ex3), hw⟩⟩
      · rename_i o' hno
        refine ⟨Hf1, envc, t1, o, A1, hw, ?_⟩
        cases o with
        | nx e' t' => exact absurd hw (hno e' t')
        | rt d t' => exact q.mono (exc.trans ex1)
    · rename_i t1 e1
      cases hw
      refine hcr σc Hc _ Hfc envc tcc false t1 Ac e1 fun Hf1 H1 A1 ex1 => ?_
      exact iteF (q _ _ _ A1 (exc.trans ex1))
    · cases hw
theorem ss_while {body : List Stmt} (hp : PassesOwn (model X.prog X.w) X.A X.env X.xe) (hc : SemT C X c mc) (hb : SemB C W X body s1) : SemS C W X (.While c body [] pos) (.while mc s1) :=
  ⟨fun T H0 Hf0 => PS.imp (ps_while hp (hc.run T H0 Hf0) (hb.run T H0 Hf0)) fun D σ H ⟨Hf, env, t, o, A, e, q⟩ => by
    unfold exs at e
    exact whl_read (fun σ H Q Hf env t b t' A e k => ⟨Hf, env, t, b, t', A, e, fun Hf' H' A' k' => k _ _ A' k'.ex⟩) (fun _ _ _ h => h) A e q⟩
theorem ss_whileL (i : Nat) {x : Str} {p1 : Pos} {body : List Stmt} (hp : PassesOwn (model X.prog X.w) X.A X.env X.xe) (hN : X.N[i]? = some x) (hv : Vis X.env.scope x) (hb : SemB C W X body s1) (hd : (x == ("__debug__" : Str)) = false := by decide) (hcd : (x == ("__classdict__" : Str)) = false := by decide)
    (he : ∀ whole, isTrue (.Name x p1) X.env whole = (do let v ← whole; standAt (Expr.Name x p1).pos; holding [v] (truthy v)) := by intro _; rfl) : SemS C W X (.While (.Name x p1) body [] pos) (.whileL i s1) :=
  ⟨fun T H0 Hf0 => PS.imp (ps_while hp (pt_truth (pe_var hN hv hd hcd) he) (hb.run T H0 Hf0)) fun D σ H ⟨Hf, env, t, o, A, e, q⟩ => by
    unfold exs at e
    refine whl_read (fun σ H Q Hf env t b t' A e k => ?_) (fun _ _ _ h => h) A e q
    obtain ⟨xs, e1, e2⟩ := map_some e
    cases e2
    obtain ⟨v, hs, l, vs, rfl, f1, f2, f3⟩ := A.loc i _ (ownAt_some e1)
    refine ⟨_, hs, _, .inl ⟨vs, SqL.of f2, ?_⟩, k _ _ A (Ex.refl _)⟩
    cases f3 <;> rfl⟩
theorem ss_pop0 (j i : Nat) {x y : Str} {p1 p2 pos' apos cpos pos : Pos} {kk} (hNd : X.N.Nodup) (hj : X.N[j]? = some y) (hx : Loc X.env.scope y) (hf : X.fn y = true ∨ X.env.scope.names.lookup y = some .local) (hN : X.N[i]? = some x) (hv : Vis X.env.scope x) (hd : (x == ("__debug__" : Str)) = false := by decide) (hcd : (x == ("__classdict__" : Str)) = false := by decide)
    (hfew : ((backTo cpos (starEach [.Constant (.int 0) kk p2] X.env)).all (fun x => !x.1) && (backToKw cpos (keywordEach [] X.env)).all (fun x => x.1.isSome) && decide ([Expr.Constant (.int 0) kk p2].length + ([] : List Keyword).length + (if ([] : List Keyword).isEmpty then 0 else 1) < 30)) = true := by rfl)
    (hline : (apos.endLine == cpos.line) = true := by rfl) (hs : swapsWith (.Call (.Attribute (.Name x p1) "pop" apos) [.Constant (.int 0) kk p2] [] cpos) (some (.Name y pos')) pos.line X.env = pure false := by rfl) :
    SemS C W X (.Assign [.Name y pos'] (.Call (.Attribute (.Name x p1) "pop" apos) [.Constant (.int 0) kk p2] [] cpos) pos) (.pop0 j i) :=
  ⟨fun T H0 Hf0 => PS.imp (ps_set hNd hj hx (pe_bm F.plainAttrs_list F.slot_list_pop F.type_list_pop mt_popAt (pe_var hN hv hd hcd) (pa_cons pe_int pa_nil) rfl hfew hline) hs hf) fun D σ H ⟨Hf, env, t, o, A, e, k⟩ => by
    unfold exs at e
    split at e
    · rename_i x xs hx
      have hx := ownAt_some hx
      split at e
      · rename_i hij
        cases e
        obtain ⟨v, hs, l, vs, rfl, f1, f2, f3⟩ := A.loc i _ hx
        cases f3 with
        | @cons w vs _ _ r rs =>
          refine ⟨_, hs, .inl ⟨rfl, _, SqL.of f2⟩, ⟨l, _, 0, 0, w, rfl, rfl, f2, by decide, by decide, ?_, rfl, ?_⟩⟩
          · have h0 : (0 : Int) < ((w :: vs).length : Nat) := by
              rw [List.length_cons]
              omega
            rw [seqIndex_of (by decide) h0] <;> rfl
          · exact k _ _ _ ((A.write hx rfl hs f1 rfl (o := .lst vs) (lv' := .own xs) ⟨l, vs, rfl, f1, upd_same, rs⟩).set r) (Ex.refl _)
      · cases e
    · cases e⟩
/-! ### defs -/
structure FnM where
  np : Nat
  n : Nat
  body : S
def runF (C : CallF) (W : Nat) (fm : FnM) (args : List LV) (t : Int) : Option (PyData × Int) :=
  if args.length = fm.np then match exs C W fm.body (args.map some ++ List.replicate (fm.n - fm.np) none) t with
    | some (.rt d t') => some (d, t')
    | some (.nx _ t') => some (.none, t')
    | none => none
  else none
def spF (K : PySem.W.Frag) (C : CallF) (np f : Nat) : Sp := fun vs H Q _ => vs.length = np ∧ ∃ T Hf lvs t r t', C f lvs t = some (r, t') ∧ Ex Hf H ∧ Hf T = none ∧ H T = some (.lst [.int t]) ∧ Paired (ArgOK K T Hf) vs lvs ∧
  ∀ v Hf' H', Ex Hf' H' → Kp T Hf H Hf' H' → H' T = some (.lst [.int t']) → Rp Hf' v r → Q v H'
theorem paired_len {α β : Type} {R : α → β → Prop} : ∀ {a : List α} {b : List β}, Paired R a b → a.length = b.length
  | _, _, .nil => rfl
  | _, _, .cons _ t => by rw [List.length_cons, List.length_cons, paired_len t]
theorem paired_get {α β : Type} {R : α → β → Prop} : ∀ {a : List α} {b : List β} {i : Nat} {y : β}, Paired R a b → b[i]? = some y → ∃ x, a[i]? = some x ∧ R x y
  | _, _, i, y, .nil, h => by simp at h
  | _, _, 0, y, .cons r _, h => by
    simp at h
    subst h
    exact ⟨_, rfl, r⟩
  | _, _, i + 1, y, .cons _ t, h => by
    obtain ⟨x, h1, h2⟩ := paired_get (i := i) (y := y) t (by simpa using h)
    exact ⟨x, by simpa using h1, h2⟩
theorem se_call {k f np : Nat} {fa : Addr} {fd : FuncData} {ps : List Str} {x : Str} {p : Pos} (F : FnOk X.prog X.w X.K X.mg X.base CX0 k fa fd ps (spF X.K C np f)) (hr : Room k X.A) (hg : Gl X x) (hm : X.mg x = some (.ref fa)) (hk : PySem.W.keepIn X.K (.ref fa) = true) (hb : Binds X.K fd ps []) (ha : SemA C X (e :: es) m) (hlen : (e :: es).length = np) (hml : ∀ env t lvs t', evs C env m t = some (lvs, t') → lvs.length = np)
    (hdb : (x == ("__debug__" : Str)) = false := by decide) (he : starEach (e :: es) X.env = (false, eval e X.env) :: starEach es X.env := by rfl) (hpl : (backTo pos (starEach es X.env)).any (·.1) = false := by rfl) : SemE C X (.Call (.Name x p) (e :: es) [] pos) (.call f m) :=
  ⟨fun T H0 Hf0 => PE.imp (pe_call F hr hg hm hk hb .nil pass0 (ha.run T H0 Hf0) hdb he hpl) fun σ H Q ⟨Hf, env, t, d, t', A, e, k⟩ => by
    unfold ev at e
    split at e
    · rename_i lvs t1 e1
      refine ⟨Hf, env, t, lvs, t1, A, e1, fun vs Hf1 H1 A1 k1 r1 => ?_⟩
      show spF X.K C np f (vs ++ []) H1 Q E0
      rw [List.append_nil]
      exact ⟨by rw [paired_len r1]; exact hml _ _ _ _ e1, T, Hf1, lvs, t1, d, t', e, A1.ex, A1.tf, A1.th, r1, fun v Hf2 H2 ex2 k2 th r => k v Hf2 H2 (A1.kept k2 ex2 th) (k1.trans k2) r⟩
    · cases e⟩
theorem abs_start {vs : List V} {lvs : List LV} {n : Nat} {N : List Str} (ex : Ex Hf H) (tf : Hf T = none) (th : H T = some (.lst [.int t])) (r : Paired (ArgOK K T Hf) vs lvs) (hn : N.length - vs.length = n) : Abs K T H Hf Hf (lvs.map some ++ List.replicate n none) t (L2.start N vs) H := by
  have hl := paired_len r
  have get : ∀ (i : Nat) (lv : LV), (lvs.map some ++ List.replicate n none)[i]? = some (some lv) → lvs[i]? = some lv := fun i lv h => by
    by_cases hi : i < lvs.length
    · rw [List.getElem?_append_left (by simpa using hi), List.getElem?_map, List.getElem?_eq_getElem hi] at h
      rw [List.getElem?_eq_getElem hi]
      exact Option.some.inj h
    · rw [List.getElem?_append_right (by simpa using hi), List.getElem?_replicate] at h
      split at h <;> cases h
  have nomut : ∀ {v : V} {lv : LV}, ArgOK K T Hf v lv → lv.mut = false := fun {v lv} h => by
    cases lv <;> first | rfl | exact h.elim
  refine ⟨ex, Kp.refl _ _ _, ?_, fun i lv h => ?_, fun i lv a h hm _ => ?_, fun i j lv lv' a _ h hm _ _ _ _ => ?_, tf, th, by rw [th]; simp⟩
  · unfold L2.start
    rw [List.length_append, List.length_append, List.length_map, List.length_map, List.length_replicate, List.length_replicate, hl, ← hn, hl]
  · have h' := get i lv h
    obtain ⟨v, h1, h2⟩ := paired_get r h'
    have hi : i < vs.length := (List.getElem?_eq_some_iff.mp h1).1
    refine ⟨v, ?_, ?_⟩
    · unfold L2.start
      rw [List.getElem?_append_left (by simpa using hi), List.getElem?_map, h1] <;> rfl
    · cases lv with
      | d x => exact h2
      | tp => exact h2
      | scr ns => exact h2
      | gd kvs => exact h2
      | _ => exact h2.elim
  · obtain ⟨v, h1, h2⟩ := paired_get r (get i lv h)
    rw [nomut h2] at hm
    cases hm
  · obtain ⟨v, h1, h2⟩ := paired_get r (get i lv h)
    rw [nomut h2] at hm
    cases hm
theorem fn_sem {P : Program} {w : World} {mg : Str → Option Value} {base : Heap} {x qual : Str} {st : Stmt} {fa : Addr} {fd : FuncData} {N ps : List Str} {k f : Nat} {C' : CallF} {fm : FnM} (F : Fun K x qual st fa fd) (S : FnScope N ps (defScope st)) (hnp : ps.length = fm.np) (hn : N.length = fm.n)
    (hC : ∀ args t, C' f args t = runF C W fm args t)
    (hb : ∀ (cdv : Value) (A : Around) (outer : List PySem.Env) (s : Shared) (H : Hp) (E : XK), Room k (A.deeper (envOfC qual (defScope st) s.heap.objs.size fa cdv)) → SemB C W (cxOf CX0 P w K mg base N qual (defScope st) fa cdv A outer s H E).nox (defBody st) fm.body) :
    FnOk P w K mg base CX0 (k + 1) fa fd ps (spF K C' fm.np f) := by
  refine F.ok S (fun vs H Q E h => by rw [hnp]; exact h.1) fun cdv A outer s H vs Q E hr h => ?_
  obtain ⟨hl, T, Hf, lvs, t, r, t', hc, ex, tf, th, ra, q⟩ := h
  refine ⟨_, (hb cdv A outer s H E hr).run T H Hf, ?_⟩
  rw [hC] at hc
  unfold runF at hc
  split at hc
  · have A0 := abs_start (N := N) (n := fm.n - fm.np) ex tf th ra (by rw [hn, hl])
    split at hc
    · rename_i d t1 he
      cases hc
      exact ⟨Hf, _, t, _, A0, he, fun v Hf' H' fi e' rv => q v Hf' H' fi.ex fi.kp fi.th rv⟩
    · rename_i e1 t1 he
      cases hc
      exact ⟨Hf, _, t, _, A0, he, fun σ' Hf' H' A' e' => q .non Hf' H' A'.ex A'.kp A'.th .non⟩
    · cases hc
  · cases hc
end
end Pl

set_option Elab.async false
set_option linter.all false
set_option maxRecDepth 100000
set_option maxHeartbeats 1000000
/-! Pl: the links in short words. -/
namespace Pl
open PySem PySem.Spec PyProof.Rows L2
theorem Room.u64 {k : Nat} {A : Around} (r : Room k A) : A.units + 64 < cLine := r.units
theorem Room.u1 {k : Nat} {A : Around} (r : Room k A) : A.units + 1 < cLine := by
  have := r.units
  omega
theorem Room.u65 {k : Nat} {A : Around} (r : Room k A) : A.units + 65 < cLine := by
  have := r.un
  omega
def argc : M → Nat
  | .cons _ b => argc b + 1
  | _ => 0
theorem evs_len {C : CallF} {env : Env} : ∀ (m : M) (t : Int) (lvs : List LV) (t' : Int), evs C env m t = some (lvs, t') → lvs.length = argc m := by
  intro m
  induction m with
  | nil =>
    intro t lvs t' h
    unfold evs at h
    cases h
    rfl
  | cons a b _ ih =>
    intro t lvs t' h
    cases a with
    | tape i =>
      unfold evs at h
      split at h
      · split at h
        · rename_i r t2 e
          cases h
          show r.length + 1 = argc b + 1
          rw [ih _ _ _ e]
        · cases h
      · split at h
        · rename_i r t2 e
          cases h
          show r.length + 1 = argc b + 1
          rw [ih _ _ _ e]
        · cases h
      · split at h
        · rename_i r t2 e
          cases h
          show r.length + 1 = argc b + 1
          rw [ih _ _ _ e]
        · cases h
      · cases h
    | edict =>
      unfold evs at h
      split at h
      · rename_i r t2 e
        cases h
        show r.length + 1 = argc b + 1
        rw [ih _ _ _ e]
      · cases h
    | _ =>
      obtain ⟨d, t1, r, e1, e2, rfl⟩ := evs_cons (by intro i z; cases z) (by intro z; cases z) h
      show r.length + 1 = argc b + 1
      rw [ih _ _ _ e2]
  | _ =>
    intro t lvs t' h
    unfold evs at h
    cases h
section
variable {C : CallF} {W : Nat} {X : Cx} {a b c e tg : Expr} {es : List Expr} {ma mb mc m : M} {pos : Pos} {st : Stmt} {sts : List Stmt} {s1 s2 : S}
theorem xv (i : Nat) {x : Str} (hN : X.N[i]? = some x := by rfl) (hv : Vis X.env.scope x := by first | exact Or.inl rfl | exact Or.inr (Or.inl rfl) | exact Or.inr (Or.inr rfl)) (hd : (x == ("__debug__" : Str)) = false := by decide) (hcd : (x == ("__classdict__" : Str)) = false := by decide) : SemE C X (.Name x pos) (.var i) := se_var i hN hv hd hcd
theorem xb (i : Nat) {x : Str} (hN : X.N[i]? = some x := by rfl) (hv : Vis X.env.scope x := by first | exact Or.inl rfl | exact Or.inr (Or.inl rfl) | exact Or.inr (Or.inr rfl)) (hd : (x == ("__debug__" : Str)) = false := by decide) (hcd : (x == ("__classdict__" : Str)) = false := by decide) : SemR C X (.Name x pos) (.bor i) := sr_bor i hN hv hd hcd
theorem xt (i : Nat) {x : Str} {p1 p2 : Pos} {j} (hN : X.N[i]? = some x := by rfl) (hv : Vis X.env.scope x := by first | exact Or.inl rfl | exact Or.inr (Or.inl rfl) | exact Or.inr (Or.inr rfl)) (hd : (x == ("__debug__" : Str)) = false := by decide) (hcd : (x == ("__classdict__" : Str)) = false := by decide) : SemE C X (.Subscript (.Name x p1) (.Constant (.int 0) j p2) pos) (.tape i) := se_tape i hN hv hd hcd
theorem xp (i : Nat) {x : Str} {p1 : Pos} (hb : SemA C X es mb) (hN : X.N[i]? = some x := by rfl) (hv : Vis X.env.scope x := by first | exact Or.inl rfl | exact Or.inr (Or.inl rfl) | exact Or.inr (Or.inr rfl)) (hd : (x == ("__debug__" : Str)) = false := by decide) (hcd : (x == ("__classdict__" : Str)) = false := by decide)
    (hs : starEach (.Name x p1 :: es) X.env = (false, eval (.Name x p1) X.env) :: starEach es X.env := by rfl) : SemA C X (.Name x p1 :: es) (.cons (.tape i) mb) := sa_pass i hN hv hb hd hcd hs
theorem xi (ha : SemR C X a ma) (hb : SemE C X b mb) (hs : PlainIx b := by intro _ _; rfl) : SemE C X (.Subscript a b pos) (.idx ma mb) := se_idx ha hb hs
theorem yset (i : Nat) {x : Str} {pos' : Pos} (hN : X.N.Nodup) (he : SemE C X e m) (hi : X.N[i]? = some x := by rfl) (hx : Loc X.env.scope x := by first | exact Or.inl rfl | exact Or.inr rfl) (hf : X.fn x = true ∨ X.env.scope.names.lookup x = some .local := by first | exact Or.inl rfl | exact Or.inr rfl)
    (hs : swapsWith e (some (.Name x pos')) pos.line X.env = pure false := by rfl) : SemS C W X (.Assign [.Name x pos'] e pos) (.asg (.nm i) m) := ss_asg hN hi hx hf he hs
theorem yown (i : Nat) {x : Str} {pos' p2 : Pos} (hN : X.N.Nodup) (he : SemA C X es m) (hi : X.N[i]? = some x := by rfl) (hx : Loc X.env.scope x := by first | exact Or.inl rfl | exact Or.inr rfl) (hf : X.fn x = true ∨ X.env.scope.names.lookup x = some .local := by first | exact Or.inl rfl | exact Or.inr rfl)
    (hs : swapsWith (.List es p2) (some (.Name x pos')) pos.line X.env = pure false := by rfl) : SemS C W X (.Assign [.Name x pos'] (.List es p2) pos) (.own i m) := ss_own hN hi hx hf he hs
theorem yapp (i : Nat) {x : Str} {p1 apos cpos pos : Pos} (he : SemE C X e m) (hN : X.N[i]? = some x := by rfl) (hv : Vis X.env.scope x := by first | exact Or.inl rfl | exact Or.inr (Or.inl rfl) | exact Or.inr (Or.inr rfl)) (hd : (x == ("__debug__" : Str)) = false := by decide) (hcd : (x == ("__classdict__" : Str)) = false := by decide)
    (hfew : ((backTo cpos (starEach [e] X.env)).all (fun x => !x.1) && (backToKw cpos (keywordEach [] X.env)).all (fun x => x.1.isSome) && decide ([e].length + ([] : List Keyword).length + (if ([] : List Keyword).isEmpty then 0 else 1) < 30)) = true := by rfl)
    (hline : (apos.endLine == cpos.line) = true := by rfl) (hs : starEach [e] X.env = (false, eval e X.env) :: starEach [] X.env := by rfl) (hsw : swapsWith (.Call (.Attribute (.Name x p1) "append" apos) [e] [] cpos) none pos.line X.env = pure false := by rfl) :
    SemS C W X (.Expr (.Call (.Attribute (.Name x p1) "append" apos) [e] [] cpos) pos) (.app i m) := ss_app i hN hv he hd hcd hfew hline hs hsw
theorem yseti (i : Nat) {x : Str} {p1 p2 pos : Pos} {ix : Expr} {mi : M} (hix : SemE C X ix mi) (he : SemE C X e m) (hN : X.N[i]? = some x := by rfl) (hv : Vis X.env.scope x := by first | exact Or.inl rfl | exact Or.inr (Or.inl rfl) | exact Or.inr (Or.inr rfl)) (hd : (x == ("__debug__" : Str)) = false := by decide) (hcd : (x == ("__classdict__" : Str)) = false := by decide)
    (ha : ∀ v, assign (.Subscript (.Name x p1) ix p2) X.env v = (do
      let ov ← holding [v] (eval (.Name x p1) X.env)
      let iv ← holding [v, ov] (eval ix X.env)
      standAt p2
      holding [v, ov, iv] (setItem ov iv v)
      release [v, ov, iv] []) := by intro _; rfl)
    (hs : swapsWithSole [.Subscript (.Name x p1) ix p2] e pos.line X.env = pure false := by rfl) (hw : swappedStores [.Subscript (.Name x p1) ix p2] e X.env = pure none := by rfl) (h1 : (assignEach [.Subscript (.Name x p1) ix p2] X.env).map (·.2) = [assign (.Subscript (.Name x p1) ix p2) X.env] := by rfl) :
    SemS C W X (.Assign [.Subscript (.Name x p1) ix p2] e pos) (.seti i mi m) := ss_seti i hN hv he hix hd hcd ha hs hw h1
theorem ytape (i : Nat) {x : Str} {p1 p2 p3 pos : Pos} {j} (he : SemE C X e m) (hN : X.N[i]? = some x := by rfl) (hv : Vis X.env.scope x := by first | exact Or.inl rfl | exact Or.inr (Or.inl rfl) | exact Or.inr (Or.inr rfl)) (hd : (x == ("__debug__" : Str)) = false := by decide) (hcd : (x == ("__classdict__" : Str)) = false := by decide)
    (hs : swapsWithSole [.Subscript (.Name x p1) (.Constant (.int 0) j p3) p2] e pos.line X.env = pure false := by rfl) (hw : swappedStores [.Subscript (.Name x p1) (.Constant (.int 0) j p3) p2] e X.env = pure none := by rfl)
    (h1 : (assignEach [.Subscript (.Name x p1) (.Constant (.int 0) j p3) p2] X.env).map (·.2) = [assign (.Subscript (.Name x p1) (.Constant (.int 0) j p3) p2) X.env] := by rfl) :
    SemS C W X (.Assign [.Subscript (.Name x p1) (.Constant (.int 0) j p3) p2] e pos) (.tape i m) := ss_tape i hN hv he hd hcd hs hw h1
theorem ypop0 (j i : Nat) {x y : Str} {p1 p2 pos' apos cpos pos : Pos} {kk} (hNd : X.N.Nodup) (hj : X.N[j]? = some y := by rfl) (hx : Loc X.env.scope y := by first | exact Or.inl rfl | exact Or.inr rfl) (hf : X.fn y = true ∨ X.env.scope.names.lookup y = some .local := by first | exact Or.inl rfl | exact Or.inr rfl) (hN : X.N[i]? = some x := by rfl) (hv : Vis X.env.scope x := by first | exact Or.inl rfl | exact Or.inr (Or.inl rfl) | exact Or.inr (Or.inr rfl)) (hd : (x == ("__debug__" : Str)) = false := by decide) (hcd : (x == ("__classdict__" : Str)) = false := by decide)
    (hfew : ((backTo cpos (starEach [.Constant (.int 0) kk p2] X.env)).all (fun x => !x.1) && (backToKw cpos (keywordEach [] X.env)).all (fun x => x.1.isSome) && decide ([Expr.Constant (.int 0) kk p2].length + ([] : List Keyword).length + (if ([] : List Keyword).isEmpty then 0 else 1) < 30)) = true := by rfl)
    (hline : (apos.endLine == cpos.line) = true := by rfl) (hs : swapsWith (.Call (.Attribute (.Name x p1) "pop" apos) [.Constant (.int 0) kk p2] [] cpos) (some (.Name y pos')) pos.line X.env = pure false := by rfl) :
    SemS C W X (.Assign [.Name y pos'] (.Call (.Attribute (.Name x p1) "pop" apos) [.Constant (.int 0) kk p2] [] cpos) pos) (.pop0 j i) := ss_pop0 j i hNd hj hx hf hN hv hd hcd hfew hline hs
theorem gn (i : Nat) {x : Str} (hN : X.N.Nodup) (hi : X.N[i]? = some x := by rfl) (hx : Loc X.env.scope x := by first | exact Or.inl rfl | exact Or.inr rfl) (hf : X.fn x = true ∨ X.env.scope.names.lookup x = some .local := by first | exact Or.inl rfl | exact Or.inr rfl) : SemG X (.Name x pos) (.nm i) := sg_name i hN hi hx hf
theorem gs0 : PGs X [] (gsOf []) := pgs_nil
theorem gs1 (i : Nat) {x : Str} {is : List Nat} (hN : X.N.Nodup) (hr : PGs X es (gsOf is)) (hi : X.N[i]? = some x := by rfl) (hx : Loc X.env.scope x := by first | exact Or.inl rfl | exact Or.inr rfl) (hf : X.fn x = true ∨ X.env.scope.names.lookup x = some .local := by first | exact Or.inl rfl | exact Or.inr rfl) : PGs X (.Name x pos :: es) (gsOf (i :: is)) := pgs_cons (pg_name hN hi hx hf) hr
theorem xcall {k f np : Nat} {fa : Addr} {fd : FuncData} {ps : List Str} {x : Str} {p : Pos} (F : FnOk X.prog X.w X.K X.mg X.base CX0 k fa fd ps (spF X.K C np f)) (hr : Room k X.A) (hm : X.mg x = some (.ref fa)) (hk : PySem.W.keepIn X.K (.ref fa) = true) (hb : Binds X.K fd ps []) (ha : SemA C X (e :: es) m) (hlen : (e :: es).length = np := by rfl) (hml : argc m = np := by rfl) (hg : Gl X x := by rfl)
    (hdb : (x == ("__debug__" : Str)) = false := by decide) (he : starEach (e :: es) X.env = (false, eval e X.env) :: starEach es X.env := by rfl) (hpl : (backTo pos (starEach es X.env)).any (·.1) = false := by rfl) : SemE C X (.Call (.Name x p) (e :: es) [] pos) (.call f m) :=
  se_call F hr hg hm hk hb ha hlen (fun env t lvs t' h => by rw [evs_len m t lvs t' h, hml]) hdb he hpl
end
end Pl
namespace Pl
open PySem PySem.Spec PyProof.Rows L2
theorem fn_none {P : Program} {w : World} {K : PySem.W.Frag} {mg : Str → Option Value} {base : Heap} {C : CallF} {f np : Nat} {fa : Addr} {fd : FuncData} {ps : List Str} (h : ∀ args t, C f args t = none) (hl : ps.length = np := by rfl) : FnOk P w K mg base CX0 0 fa fd ps (spF K C np f) :=
  ⟨fun vs H Q E q => by rw [hl]; exact q.1, fun A outer s H args us vs Q E _ _ _ _ ⟨_, T, Hf, lvs, t, r, t', hc, _⟩ => by rw [h] at hc; cases hc⟩
end Pl

set_option Elab.async false
set_option linter.all false
set_option maxRecDepth 100000
set_option maxHeartbeats 1000000
/-! Pl: a law's tail: what was told is looked at, then changed, and what was handed in is looked at again; a law's whole body. -/
namespace Pl
open PySem PySem.Spec PyProof.Rows L2
/-- the three parts of what is told: a pair of lists that were not tracked in H -/
def New3 (H Hx : Hp) (v : V) : Prop := ∃ (p : Addr) (o : Obj) (vm : V) (s g r0 : Addr) (rs ws gs : List V), v = .ref p ∧ Hx p = some (.frz o (.tup [vm, .ref s, .ref g])) ∧ Hx s = some (.lst (.ref r0 :: rs)) ∧ Hx r0 = some (.lst ws) ∧ Hx g = some (.lst gs) ∧ H r0 = none ∧ H g = none ∧ ws.length + 1 < sizeLine ∧ gs.length < sizeLine
theorem New3.mono {H Hx Hy : Hp} {v : V} (h : New3 H Hx v) (e : Ex Hx Hy) : New3 H Hy v := by
  obtain ⟨p, o, vm, s, g, r0, rs, ws, gs, h1, h2, h3, h4, h5, h6⟩ := h
  exact ⟨p, o, vm, s, g, r0, rs, ws, gs, h1, e _ _ h2, e _ _ h3, e _ _ h4, e _ _ h5, h6⟩
/-- what is new about three parts, when their data are known -/
def NwL (b : Bool) (H Hx : Hp) (v : V) : Prop := ∀ g vs, v = .ref g → Hx g = some (.lst vs) → H g = none ∧ (b = true → ∀ x ∈ vs, NwV H x)
def Nw3 (H Hx : Hp) (v : V) : Prop := ∀ p o vm vs vg, v = .ref p → Hx p = some (.frz o (.tup [vm, vs, vg])) → NwL true H Hx vs ∧ NwL false H Hx vg
theorem new3_of {H Hx : Hp} {v : V} {r : PyData} (hb : new3B r = true) (hr : Rp Hx v r) (n : Nw3 H Hx v) : New3 H Hx v := by
  unfold new3B at hb
  split at hb
  · rename_i m ws rest gs
    obtain ⟨b1, b2⟩ := Bool.and_eq_true_iff.mp hb
    have b1 := of_decide_eq_true b1
    have b2 := of_decide_eq_true b2
    cases hr with
    | @tup p o xs _ h hd hs =>
      cases hs with
      | @cons vm _ _ _ hm hs =>
        cases hs with
        | @cons v1 _ _ _ h1 hs =>
          cases hs with
          | @cons v2 _ _ _ h2 hs =>
            cases hs
            obtain ⟨n1, n2⟩ := n _ _ _ _ _ rfl h
            cases h1 with
            | @lst s xs1 _ hs1 hr1 =>
              cases hr1 with
              | @cons w ws1 _ _ hw hws =>
                cases h2 with
                | @lst g xs2 _ hg hr2 =>
                  have m1 := (n1 _ _ rfl hs1).2 rfl w List.mem_cons_self
                  have m2 := (n2 _ _ rfl hg).1
                  cases hw with
                  | @lst r0 xs3 _ hr0 hr3 => exact ⟨p, o, vm, s, g, r0, ws1, xs3, xs2, rfl, h, hs1, hr0, hg, m1 _ rfl, m2, by rw [hr3.len]; exact Nat.lt_of_lt_of_le (Nat.add_lt_add_right b1 1) (by decide), by rw [hr2.len]; exact Nat.lt_of_lt_of_le b2 (by decide)⟩
  · cases hb
/-- the promise with it -/
def spN (K : PySem.W.Frag) (C : CallF) (np f : Nat) : Sp := fun vs H Q _ => vs.length = np ∧ ∃ T Hf lvs t r t', C f lvs t = some (r, t') ∧ new3B r = true ∧ Ex Hf H ∧ Hf T = none ∧ H T = some (.lst [.int t]) ∧ Paired (ArgOK K T Hf) vs lvs ∧
  ∀ v Hf' H', Ex Hf' H' → Kp T Hf H Hf' H' → H' T = some (.lst [.int t']) → Rp Hf' v r → New3 H Hf' v → Q v H'
theorem Abs.forget {K : PySem.W.Frag} {T : Addr} {H0 Hf0 Hf : Hp} {env : Env} {t : Int} {σ : L2.St} {H : Hp} (A : Abs K T H0 Hf0 Hf env t σ H) {i : Nat} {o : Option V} : Abs K T H0 Hf0 Hf (env.set i none) t (σ.set i o) H := by
  have ne : ∀ {j : Nat} {lv : LV}, (env.set i none)[j]? = some (some lv) → i ≠ j := fun {j lv} h e => by
    subst e
    have hi : i < env.length := by
      have := (List.getElem?_eq_some_iff.mp h).1
      rw [List.length_set] at this
      exact this
    rw [List.getElem?_set_self hi] at h
    cases h
  refine ⟨A.ex, A.kp, by rw [List.length_set, List.length_set]; exact A.len, fun j lv h => ?_, fun j lv a h hm hs => ?_, fun j k lv lv' a n hj mj hk mk sj sk => ?_, A.tf, A.th, A.t0⟩
  · have e := ne h
    rw [List.getElem?_set_ne e] at h
    rw [List.getElem?_set_ne e]
    exact A.loc j lv h
  · have e := ne h
    rw [List.getElem?_set_ne e] at h hs
    exact A.new j lv a h hm hs
  · have ej := ne hj
    have ek := ne hk
    rw [List.getElem?_set_ne ej] at hj sj
    rw [List.getElem?_set_ne ek] at hk sk
    exact A.sep j k lv lv' a n hj mj hk mk sj sk
def noMut (env : Env) : Prop := ∀ (i : Nat) (lv : LV), env[i]? = some (some lv) → lv.mut = false
theorem noMut_of {env : Env} (h : nomutB env = true) : noMut env := fun i lv e => by
  have := List.all_eq_true.mp h _ (List.mem_of_getElem? e)
  simpa using this
section
variable (K : PySem.W.Frag) (C : CallF) (W : Nat) (T : Addr) (H0 Hf0 : Hp)
def tTl (i : Nat) (qs : List M) (r : S) : TS := fun D σ H => ∃ (Hf : Hp) (env : Env) (t : Int) (Hx : Hp) (x : PyData) (t3 : Int) (o : Out) (v : V), Abs K T H0 Hf0 Hf (env.set i none) t σ H ∧ Abs K T H0 Hf0 Hx (env.set i (some (.d x))) t σ H ∧ Ex Hf Hx ∧ σ[i]? = some (some v) ∧ (∃ Hn, New3 Hn Hx v ∧ (∀ a, Hn a = none → Hf a = none ∧ H0 a = none ∧ a ≠ T)) ∧ noMut (env.set i none) ∧
  qtest C (env.set i (some (.d x))) qs t = some t3 ∧ exs C W r (env.set i none) t3 = some o ∧ Wants K T H0 Hf0 Hf D o
end
structure SemL (C : CallF) (W : Nat) (X : Cx) (sts : List Stmt) (i : Nat) (qs : List M) (r : S) : Prop where
  run : ∀ T H0 Hf0, PSs X sts (tTl X.K C W T H0 Hf0 i qs r)
section
variable {C : CallF} {W : Nat} {X : Cx} {a b c e tg : Expr} {es : List Expr} {ma mb mc m : M} {pos : Pos} {K : PySem.W.Frag} {T : Addr} {H0 Hf0 Hf : Hp} {env : Env} {t t1 t2 : Int} {σ : L2.St} {H : Hp} {st : Stmt} {sts : List Stmt} {s1 s2 r : S} {qs : List M} {i : Nat}
theorem sl_test {body : List Stmt} {mr : S} (hc : SemT C X c mc) (hb : SemB C W X body mr) (h : SemL C W X sts i qs r) : SemL C W X (.If c body [] pos :: sts) i (mc :: qs) r :=
  ⟨fun T H0 Hf0 => PSs.imp (pss_cons (ps_if (hc.run T H0 Hf0) (hb.run T H0 Hf0) pss_nil) (h.run T H0 Hf0)) fun D σ H ⟨Hf, env, t, Hx, x, t3, o, v, A, Ax, ex, hs, hn, nm, q, e, k⟩ => by
    unfold qtest at q
    split at q
    · rename_i t1 e1
      refine ⟨Hx, _, t, false, t1, Ax, e1, fun Hx1 H1 A1 k1 => iteF ?_⟩
      have kk : Kp T Hf H Hf H1 := ⟨Ex.refl _, k1.same, fun _ _ _ h => h, k1.tt⟩
      obtain ⟨Hn, n3, hn⟩ := hn
      exact ⟨Hf, env, t1, Hx1, x, t3, o, v, A.kept kk (fun a u h => k1.same a u (fun e => by
        subst e
        rw [A.tf] at h
        cases h) (A.ex a u h)) A1.th, A1, ex.trans k1.ex, hs, ⟨Hn, n3.mono k1.ex, hn⟩, nm, q, e, k⟩
    · cases q⟩
theorem frz_ne {H : Hp} {p q : Addr} {o : Obj} {u : HO} {xs : List V} (h : H p = some (.frz o u)) (h' : H q = some (.lst xs)) : p ≠ q := fun e => by
  subst e
  rw [h] at h'
  cases h'
theorem sl_mut {x : Str} {ca cb : Expr} {w1 w2 : V} {p1 p2 p3 p4 p5 p6 p7 p8 q1 q2 q3 q4 q5 q6 : Pos} {j1 j2 j3} (hN : X.N[i]? = some x) (hv : Vis X.env.scope x) (ha : PE X ca (tC w1)) (hb : PE X cb (tC w2)) (h : SemB C W X sts r) (hd : (x == ("__debug__" : Str)) = false := by decide) (hcd : (x == ("__classdict__" : Str)) = false := by decide)
    (hb1 : attributeBase (.Subscript (.Subscript (.Name x p1) (.Constant (.int 1) j1 p2) p3) (.Constant (.int 0) j2 p4) p5) "append" X.env (eval (.Subscript (.Subscript (.Name x p1) (.Constant (.int 1) j1 p2) p3) (.Constant (.int 0) j2 p4) p5) X.env) = eval (.Subscript (.Subscript (.Name x p1) (.Constant (.int 1) j1 p2) p3) (.Constant (.int 0) j2 p4) p5) X.env := by rfl)
    (hf1 : ((backTo p7 (starEach [ca] X.env)).all (fun x => !x.1) && (backToKw p7 (keywordEach [] X.env)).all (fun x => x.1.isSome) && decide ([ca].length + ([] : List Keyword).length + (if ([] : List Keyword).isEmpty then 0 else 1) < 30)) = true := by rfl)
    (hl1 : (p6.endLine == p7.line) = true := by rfl) (hs1 : starEach [ca] X.env = (false, eval ca X.env) :: starEach [] X.env := by rfl) (hw1 : swapsWith (.Call (.Attribute (.Subscript (.Subscript (.Name x p1) (.Constant (.int 1) j1 p2) p3) (.Constant (.int 0) j2 p4) p5) "append" p6) [ca] [] p7) none p8.line X.env = pure false := by rfl)
    (hb2 : attributeBase (.Subscript (.Name x q1) (.Constant (.int 2) j3 q2) q3) "append" X.env (eval (.Subscript (.Name x q1) (.Constant (.int 2) j3 q2) q3) X.env) = eval (.Subscript (.Name x q1) (.Constant (.int 2) j3 q2) q3) X.env := by rfl)
    (hf2 : ((backTo q5 (starEach [cb] X.env)).all (fun x => !x.1) && (backToKw q5 (keywordEach [] X.env)).all (fun x => x.1.isSome) && decide ([cb].length + ([] : List Keyword).length + (if ([] : List Keyword).isEmpty then 0 else 1) < 30)) = true := by rfl)
    (hl2 : (q4.endLine == q5.line) = true := by rfl) (hs2 : starEach [cb] X.env = (false, eval cb X.env) :: starEach [] X.env := by rfl) (hw2 : swapsWith (.Call (.Attribute (.Subscript (.Name x q1) (.Constant (.int 2) j3 q2) q3) "append" q4) [cb] [] q5) none q6.line X.env = pure false := by rfl) :
    SemL C W X (.Expr (.Call (.Attribute (.Subscript (.Subscript (.Name x p1) (.Constant (.int 1) j1 p2) p3) (.Constant (.int 0) j2 p4) p5) "append" p6) [ca] [] p7) p8 :: .Expr (.Call (.Attribute (.Subscript (.Name x q1) (.Constant (.int 2) j3 q2) q3) "append" q4) [cb] [] q5) q6 :: sts) i [] r :=
  ⟨fun T H0 Hf0 => PSs.imp (pss_cons (ps_expr (pe_bm F.plainAttrs_list F.slot_list_append F.type_list_append mt_append (pe_ix ix_list (pe_ix ix_tup (pe_var hN hv hd hcd) pe_int (fun _ _ => rfl)) pe_int (fun _ _ => rfl)) (pa_cons ha pa_nil hs1) hb1 hf1 hl1 hs1) hw1)
    (pss_cons (ps_expr (pe_bm F.plainAttrs_list F.slot_list_append F.type_list_append mt_append (pe_ix ix_tup (pe_var hN hv hd hcd) pe_int (fun _ _ => rfl)) (pa_cons hb pa_nil hs2) hb2 hf2 hl2 hs2) hw2) (h.run T H0 Hf0))) fun D σ H ⟨Hf, env, t, Hx, x, t3, o, v, A, Ax, ex, hs, ⟨Hn, ⟨p, ob, vm, s, g, r0, rs, ws, gs, ev, g1, g2, g3, g4, n1, n2, z1, z2⟩, hn⟩, nm, q, e, k⟩ => by
      subst ev
      cases q
      have h1 := Ax.ex _ _ g1
      have h2 := Ax.ex _ _ g2
      have h3 := Ax.ex _ _ g3
      have h4 := Ax.ex _ _ g4
      obtain ⟨a1, a2, a3⟩ := hn _ n1
      obtain ⟨b1, b2, b3⟩ := hn _ n2
      have nmA : ∀ (D : Addr) (j : Nat) (lv : LV), (env.set i none)[j]? = some (some lv) → lv.mut = true → σ[j]? ≠ some (some (.ref D)) := fun D j lv hj hm => by
        rw [nm j lv hj] at hm
        cases hm
      have B1 := A.other (o := .lst (ws ++ [w1])) a3 a1 a2 (nmA r0)
      refine ⟨.ref p, hs, p, _, 1, .ref s, rfl, rfl, .inl (.inr ⟨ob, h1⟩), rfl, s, _, 0, .ref r0, rfl, rfl, SqL.of h2, atI_nat (j := 0) rfl, .inl ⟨rfl, _, SqL.of h3⟩, r0, ws, w1, rfl, rfl, h3, by omega, ?_⟩
      have e1 : upd H r0 (.lst (ws ++ [w1])) p = some (.frz ob (.tup [vm, .ref s, .ref g])) := by
        rw [upd_ne (frz_ne h1 h3)]
        exact h1
      have e2 : ∃ gs', upd H r0 (.lst (ws ++ [w1])) g = some (.lst gs') ∧ gs'.length < sizeLine := by
        by_cases hg : g = r0
        · subst hg
          exact ⟨_, upd_same, by rw [List.length_append]; exact z1⟩
        · exact ⟨gs, by rw [upd_ne hg]; exact h4, z2⟩
      obtain ⟨gs', e2, z3⟩ := e2
      refine ⟨.ref p, hs, p, _, 2, .ref g, rfl, rfl, .inl (.inr ⟨ob, e1⟩), rfl, .inl ⟨rfl, _, SqL.of e2⟩, g, gs', w2, rfl, rfl, e2, z3, ?_⟩
      exact ⟨Hf, _, _, o, B1.other b3 b1 b2 (nmA g), e, k⟩⟩
theorem sb_tail {f k np : Nat} {fa : Addr} {fd : FuncData} {ps : List Str} {x y : Str} {pos' p p3 : Pos} {r : S} {qs : List M} (F : FnOk X.prog X.w X.K X.mg X.base CX0 k fa fd ps (spN X.K C np f)) (hr : Room k X.A) (hm : X.mg x = some (.ref fa)) (hk : PySem.W.keepIn X.K (.ref fa) = true) (hb : Binds X.K fd ps [])
    (hNd : X.N.Nodup) (ha : SemA C X (e :: es) m) (hL : SemL C W X sts i qs r) (hi : X.N[i]? = some y := by rfl) (hx : Loc X.env.scope y := by first | exact Or.inl rfl | exact Or.inr rfl) (hf : X.fn y = true ∨ X.env.scope.names.lookup y = some .local := by first | exact Or.inl rfl | exact Or.inr rfl) (hml : argc m = np := by rfl) (hg : Gl X x := by rfl)
    (hdb : (x == ("__debug__" : Str)) = false := by decide) (he : starEach (e :: es) X.env = (false, eval e X.env) :: starEach es X.env := by rfl) (hpl : (backTo p (starEach es X.env)).any (·.1) = false := by rfl) (hs : swapsWith (.Call (.Name x p3) (e :: es) [] p) (some (.Name y pos')) pos.line X.env = pure false := by rfl) :
    SemB C W X (.Assign [.Name y pos'] (.Call (.Name x p3) (e :: es) [] p) pos :: sts) (.tail i f m qs r) :=
  ⟨fun T H0 Hf0 => PSs.imp (pss_cons (ps_set hNd hi hx (pe_call F hr hg hm hk hb .nil pass0 (ha.run T H0 Hf0) hdb he hpl) hs hf) (hL.run T H0 Hf0)) fun D σ H ⟨Hf, env, t, o, A, e, q⟩ => by
    unfold exs at e
    split at e
    · rename_i lvs t1 e1
      split at e
      · rename_i x0 t2 e2
        split at e
        · rename_i hne
          split at e
          rotate_left
          · cases e
          rename_i t3 e3
          refine ⟨Hf, env, t, lvs, t1, A, e1, fun vs Hf1 H1 A1 k1 r1 => ?_⟩
          show spN X.K C np f (vs ++ []) H1 _ E0
          rw [List.append_nil]
          refine ⟨by rw [paired_len r1]; rw [evs_len m _ _ _ e1, hml], T, Hf1, lvs, t1, x0, t2, e2, hne.2.2, A1.ex, A1.tf, A1.th, r1, fun v Hf2 H2 ex2 k2 th rr n3 => ?_⟩
          have A2 := A1.kept k2 ex2 th
          have kk : Kp T Hf1 H1 Hf1 H2 := ⟨Ex.refl _, k2.same, fun _ _ _ h => h, k2.tt⟩
          have A3 : Abs X.K T H0 Hf0 Hf1 env t2 σ H2 := A1.kept kk (k2.ex.trans ex2) th
          exact ⟨Hf1, env, t2, Hf2, x0, t3, o, v, A3.forget, A2.set rr, k2.ex, List.getElem?_set_self (by
              have := (List.getElem?_eq_some_iff.mp hi).1
              rw [A.len]
              exact hne.2.1), ⟨H1, n3, fun a ha => A1.fresh ha⟩, noMut_of hne.1, e3, e, q.mono k1.ex⟩
        · cases e
      · cases e
    · cases e⟩
/-! ### the law's own body -/
def spLaw (K : PySem.W.Frag) : Sp := fun vs H Q _ => ∃ (a : Addr) (ns : List Int), vs = [.ref a] ∧ SqL K H a (ns.map V.int) ∧ ns.length ≤ 63 ∧ ∀ H', Q (.bl true) H'
theorem pss_any {P : Addr → Hp → Hp → TS} (h : ∀ T H0 Hf0, PSs X sts (P T H0 Hf0)) : PSs X sts (fun D σ H => ∃ T H0 Hf0, P T H0 Hf0 D σ H) := ⟨fun pins s σ H D I ⟨T, H0, Hf0, q⟩ => (h T H0 Hf0).run pins s σ H D I q⟩
def env0 (ns : List Int) (n : Nat) : Env := some (.scr ns) :: some .tp :: List.replicate (n - 2) none
theorem law_ok {P : Program} {w : World} {mg : Str → Option Value} {base : Heap} {x : Str} {st : Stmt} {f : Addr} {fd : FuncData} {N : List Str} {k n : Nat} {s : S} {pos pos' p2 p3 : Pos} {j} {sc1 tp1 : Str} {rest : List Stmt} (F : Fun K x x st f fd) (Sc : FnScope N [sc1] (defScope st)) (hst : defBody st = .Assign [.Name tp1 pos'] (.List [.Constant (.int 0) j p2] p3) pos :: rest) (hn : N.length = n) (h2 : 2 ≤ n) (hi : N[1]? = some tp1)
    (hx : Loc (defScope st) tp1)
    (hb : ∀ (cdv : Value) (A : Around) (outer : List PySem.Env) (s' : Shared) (H : Hp) (E : XK), Room k (A.deeper (envOfC x (defScope st) s'.heap.objs.size f cdv)) → SemB C W (cxOf CX0 P w K mg base N x (defScope st) f cdv A outer s' H E).nox rest s)
    (hs : ∀ (cdv : Value) (A : Around) (outer : List PySem.Env) (s' : Shared) (H : Hp) (E : XK), swapsWith (.List [.Constant (.int 0) j p2] p3) (some (.Name tp1 pos')) pos.line (cxOf CX0 P w K mg base N x (defScope st) f cdv A outer s' H E).nox.env = pure false)
    (he : ∀ ns : List Int, ns.length ≤ 63 → ∃ t, exs C W s (env0 ns n) 0 = some (.rt (.bool true) t)) : FnOk P w K mg base CX0 (k + 1) f fd [sc1] (spLaw K) := by
  refine F.ok Sc (fun vs H Q E ⟨a, ns, e, _⟩ => by rw [e]; rfl) fun cdv A outer s' H vs Q E hr h => ?_
  obtain ⟨a, ns, rfl, hS, hl, q⟩ := h
  obtain ⟨t, ht⟩ := he ns hl
  rw [hst]
  refine ⟨_, pss_cons (ps_set (i := 1) Sc.nd hi hx (pe_lst (pa_cons pe_int pa_nil)) (hs cdv A outer s' H E) (.inl rfl)) (pss_any fun T H0 Hf0 => (hb cdv A outer s' H E hr).run T H0 Hf0), ?_⟩
  refine ⟨by show 1 ≤ sizeLine; decide, fun p hp => ⟨p, upd H p (.lst [.int 0]), H, H, env0 ns n, 0, _, ?_, ht, fun v Hf' H' _ _ r => ?_⟩⟩
  · have nm : ∀ (i : Nat) (lv : LV), (env0 ns n)[i]? = some (some lv) → (i = 0 ∧ lv = .scr ns) ∨ (i = 1 ∧ lv = .tp) := fun i lv h => by
      match i, h with
      | 0, h =>
        cases h
        exact .inl ⟨rfl, rfl⟩
      | 1, h =>
        cases h
        exact .inr ⟨rfl, rfl⟩
      | i + 2, h =>
        have h : (List.replicate (n - 2) (none : Option LV))[i]? = some (some lv) := h
        rw [List.getElem?_replicate] at h
        split at h <;> cases h
    have hlen : (L2.start N [V.ref a]).length = n := by
      unfold L2.start
      rw [List.length_append, List.length_replicate, hn]
      show 1 + (n - 1) = n
      omega
    refine ⟨Ex.new hp, Kp.refl _ _ _, ?_, fun i lv h => ?_, fun i lv a h hm _ => ?_, fun i j lv lv' a _ h hm _ _ _ _ => ?_, hp, upd_same, by rw [upd_same]; simp⟩
    · rw [List.length_set, hlen]
      unfold env0
      rw [List.length_cons, List.length_cons, List.length_replicate]
      omega
    · rcases nm i lv h with ⟨rfl, rfl⟩ | ⟨rfl, rfl⟩
      · refine ⟨.ref a, ?_, a, rfl, hS⟩
        rw [List.getElem?_set_ne (by decide)]
        rfl
      · exact ⟨.ref p, List.getElem?_set_self (by rw [hlen]; omega), rfl⟩
    · rcases nm i lv h with ⟨rfl, rfl⟩ | ⟨rfl, rfl⟩ <;> cases hm
    · rcases nm i lv h with ⟨rfl, rfl⟩ | ⟨rfl, rfl⟩ <;> cases hm
  · cases r
    exact q _
end
end Pl

set_option Elab.async false
set_option linter.all false
set_option maxRecDepth 100000
set_option maxHeartbeats 400000
/-! Pl: loops and places of plain data. -/
namespace Pl
open PySem L2
/-! ### one step of reckoning each -/
section
variable {C : CallF} {W : Nat} {env : Env} {t : Int}
def lp (C : CallF) (W : Nat) (b : S) : Env → Int → Option Out := fun env t => exs C W b env t
def wc (C : CallF) (c : M) : Env → Int → Option (PyData × Int) := fun env t => ev C env c t
@[simp] theorem x_var {i : Nat} : ev C env (.var i) t = match env[i]? with | some (some (.d x)) => some (x, t) | _ => none := by rw [ev] <;> rfl
@[simp] theorem x_bor {i : Nat} : ev C env (.bor i) t = match env[i]? with | some (some (.d x)) => some (x, t) | some (some (.own xs)) => some (.list xs, t) | some (some (.scr ns)) => some (.list (ns.map .int), t) | _ => none := by rw [ev] <;> rfl
@[simp] theorem x_tape {i : Nat} : ev C env (.tape i) t = match env[i]? with | some (some .tp) => some (.int t, t) | _ => none := by rw [ev] <;> rfl
@[simp] theorem x_lit {d : PyData} : ev C env (.lit d) t = some (d, t) := by rw [ev] <;> rfl
@[simp] theorem x_bin {o : Op2} {a b : M} : ev C env (.bin o a b) t = match ev C env a t with | some (x, t1) => (match ev C env b t1 with | some (y, t2) => (binD o x y).map (·, t2) | none => none) | none => none := by rw [ev] <;> rfl
@[simp] theorem x_cmp {o : Cm} {a b : M} : ev C env (.cmp o a b) t = match ev C env a t with | some (x, t1) => (match ev C env b t1 with | some (y, t2) => (cmpD o x y).map (PyData.bool ·, t2) | none => none) | none => none := by rw [ev] <;> rfl
@[simp] theorem x_idx {a b : M} : ev C env (.idx a b) t = match ev C env a t with | some (x, t1) => (match ev C env b t1 with | some (y, t2) => (idxD x y).map (·, t2) | none => none) | none => none := by rw [ev] <;> rfl
@[simp] theorem x_index {a b : M} : ev C env (.index a b) t = match ev C env a t with | some (x, t1) => (match ev C env b t1 with | some (y, t2) => (indexD x y).map (·, t2) | none => none) | none => none := by rw [ev] <;> rfl
@[simp] theorem x_join {a b : M} : ev C env (.join a b) t = match ev C env a t with | some (x, t1) => (match ev C env b t1 with | some (y, t2) => (joinD x y).map (·, t2) | none => none) | none => none := by rw [ev] <;> rfl
@[simp] theorem x_isN {n : Bool} {a : M} : ev C env (.isN n a) t = match ev C env a t with | some (x, t1) => some (.bool (if n then !isNone x else isNone x), t1) | none => none := by rw [ev] <;> rfl
@[simp] theorem x_and {a b : M} : ev C env (.and a b) t = match ev C env a t with | some (.bool true, t1) => ev C env b t1 | some (.bool false, t1) => some (.bool false, t1) | _ => none := by rw [ev] <;> rfl
@[simp] theorem x_or {a b : M} : ev C env (.or a b) t = match ev C env a t with | some (.bool false, t1) => ev C env b t1 | some (.bool true, t1) => some (.bool true, t1) | _ => none := by rw [ev] <;> rfl
@[simp] theorem x_not {a : M} : ev C env (.not a) t = match ev C env a t with | some (.bool b, t1) => some (.bool !b, t1) | _ => none := by rw [ev] <;> rfl
@[simp] theorem x_neg {a : M} : ev C env (.neg a) t = match ev C env a t with | some (.int i, t1) => some (.int (-i), t1) | _ => none := by rw [ev] <;> rfl
@[simp] theorem x_part {a : M} : ev C env (.part a) t = match ev C env a t with | some (.int i, t1) => some (.int i, t1) | _ => none := by rw [ev] <;> rfl
@[simp] theorem x_slc {a lo hi : M} : ev C env (.slc a lo hi) t = match ev C env a t with | some (x, t1) => (match ev C env lo t1 with | some (l, t2) => (match ev C env hi t2 with | some (h, t3) => (match partD l, partD h with | some l2, some h2 => (slcD x l2 h2).map (·, t3) | _, _ => none) | none => none) | none => none) | none => none := by rw [ev] <;> rfl
@[simp] theorem x_tup {l : M} : ev C env (.tup l) t = match evs C env l t with | some (lvs, t1) => (match dsOf lvs with | some ds => if ds.length ≤ 1000 then some (.tuple ds, t1) else none | none => none) | none => none := by rw [ev] <;> rfl
@[simp] theorem x_lst {l : M} : ev C env (.lst l) t = match evs C env l t with | some (lvs, t1) => (match dsOf lvs with | some ds => if ds.length ≤ 1000 then some (.list ds, t1) else none | none => none) | none => none := by rw [ev] <;> rfl
@[simp] theorem x_call {f : Nat} {l : M} : ev C env (.call f l) t = match evs C env l t with | some (lvs, t1) => C f lvs t1 | none => none := by rw [ev] <;> rfl
@[simp] theorem x_blt {b : Bl} {l : M} : ev C env (.blt b l) t = match evs C env l t with | some (lvs, t1) => (match dsOf lvs with | some ds => (bltD b ds).map (·, t1) | none => none) | none => none := by rw [ev] <;> rfl
@[simp] theorem x_lc {k : IK} {it c e : M} {tg : Tg} {vs : List Nat} : ev C env (.lc k it tg vs c e) t = match ev C env it t with | some (x, t1) => (match itemsD k x with | some xs => if xs.length < sizeLine then (lcLoop (lcF C env vs tg c e) xs t1).map (fun r => (PyData.list r.1, r.2)) else none | none => none) | none => none := by rw [ev] <;> rfl
@[simp] theorem x_nil : evs C env .nil t = some ([], t) := by rw [evs] <;> rfl
@[simp] theorem x_pass {i : Nat} {b : M} : evs C env (.cons (.tape i) b) t = match env[i]? with | some (some .tp) => (match evs C env b t with | some (r, t2) => some (.tp :: r, t2) | none => none) | some (some (.scr ns)) => (match evs C env b t with | some (r, t2) => some (.scr ns :: r, t2) | none => none) | some (some (.gd kvs)) => (match evs C env b t with | some (r, t2) => some (.gd kvs :: r, t2) | none => none) | _ => none := by rw [evs] <;> rfl
@[simp] theorem x_c_var {i : Nat} {b : M} : evs C env (.cons (.var i) b) t = match ev C env (.var i) t with | some (dd, t1) => (match evs C env b t1 with | some (r, t2) => some (.d dd :: r, t2) | none => none) | none => none := by rw [evs] <;> first | rfl | (intro i h; cases h) | (intro h; cases h)
@[simp] theorem x_c_bor {i : Nat} {b : M} : evs C env (.cons (.bor i) b) t = match ev C env (.bor i) t with | some (dd, t1) => (match evs C env b t1 with | some (r, t2) => some (.d dd :: r, t2) | none => none) | none => none := by rw [evs] <;> first | rfl | (intro i h; cases h) | (intro h; cases h)
@[simp] theorem x_c_lit {d : PyData} {b : M} : evs C env (.cons (.lit d) b) t = match ev C env (.lit d) t with | some (dd, t1) => (match evs C env b t1 with | some (r, t2) => some (.d dd :: r, t2) | none => none) | none => none := by rw [evs] <;> first | rfl | (intro i h; cases h) | (intro h; cases h)
@[simp] theorem x_c_bin {o : Op2} {x : M} {y : M} {b : M} : evs C env (.cons (.bin o x y) b) t = match ev C env (.bin o x y) t with | some (dd, t1) => (match evs C env b t1 with | some (r, t2) => some (.d dd :: r, t2) | none => none) | none => none := by rw [evs] <;> first | rfl | (intro i h; cases h) | (intro h; cases h)
@[simp] theorem x_c_cmp {o : Cm} {x : M} {y : M} {b : M} : evs C env (.cons (.cmp o x y) b) t = match ev C env (.cmp o x y) t with | some (dd, t1) => (match evs C env b t1 with | some (r, t2) => some (.d dd :: r, t2) | none => none) | none => none := by rw [evs] <;> first | rfl | (intro i h; cases h) | (intro h; cases h)
@[simp] theorem x_c_isN {n : Bool} {x : M} {b : M} : evs C env (.cons (.isN n x) b) t = match ev C env (.isN n x) t with | some (dd, t1) => (match evs C env b t1 with | some (r, t2) => some (.d dd :: r, t2) | none => none) | none => none := by rw [evs] <;> first | rfl | (intro i h; cases h) | (intro h; cases h)
@[simp] theorem x_c_and {x : M} {y : M} {b : M} : evs C env (.cons (.and x y) b) t = match ev C env (.and x y) t with | some (dd, t1) => (match evs C env b t1 with | some (r, t2) => some (.d dd :: r, t2) | none => none) | none => none := by rw [evs] <;> first | rfl | (intro i h; cases h) | (intro h; cases h)
@[simp] theorem x_c_or {x : M} {y : M} {b : M} : evs C env (.cons (.or x y) b) t = match ev C env (.or x y) t with | some (dd, t1) => (match evs C env b t1 with | some (r, t2) => some (.d dd :: r, t2) | none => none) | none => none := by rw [evs] <;> first | rfl | (intro i h; cases h) | (intro h; cases h)
@[simp] theorem x_c_not {x : M} {b : M} : evs C env (.cons (.not x) b) t = match ev C env (.not x) t with | some (dd, t1) => (match evs C env b t1 with | some (r, t2) => some (.d dd :: r, t2) | none => none) | none => none := by rw [evs] <;> first | rfl | (intro i h; cases h) | (intro h; cases h)
@[simp] theorem x_c_neg {x : M} {b : M} : evs C env (.cons (.neg x) b) t = match ev C env (.neg x) t with | some (dd, t1) => (match evs C env b t1 with | some (r, t2) => some (.d dd :: r, t2) | none => none) | none => none := by rw [evs] <;> first | rfl | (intro i h; cases h) | (intro h; cases h)
@[simp] theorem x_c_ite {x : M} {y : M} {z : M} {b : M} : evs C env (.cons (.ite x y z) b) t = match ev C env (.ite x y z) t with | some (dd, t1) => (match evs C env b t1 with | some (r, t2) => some (.d dd :: r, t2) | none => none) | none => none := by rw [evs] <;> first | rfl | (intro i h; cases h) | (intro h; cases h)
@[simp] theorem x_c_idx {x : M} {y : M} {b : M} : evs C env (.cons (.idx x y) b) t = match ev C env (.idx x y) t with | some (dd, t1) => (match evs C env b t1 with | some (r, t2) => some (.d dd :: r, t2) | none => none) | none => none := by rw [evs] <;> first | rfl | (intro i h; cases h) | (intro h; cases h)
@[simp] theorem x_c_slc {x : M} {y : M} {z : M} {b : M} : evs C env (.cons (.slc x y z) b) t = match ev C env (.slc x y z) t with | some (dd, t1) => (match evs C env b t1 with | some (r, t2) => some (.d dd :: r, t2) | none => none) | none => none := by rw [evs] <;> first | rfl | (intro i h; cases h) | (intro h; cases h)
@[simp] theorem x_c_part {x : M} {b : M} : evs C env (.cons (.part x) b) t = match ev C env (.part x) t with | some (dd, t1) => (match evs C env b t1 with | some (r, t2) => some (.d dd :: r, t2) | none => none) | none => none := by rw [evs] <;> first | rfl | (intro i h; cases h) | (intro h; cases h)
@[simp] theorem x_c_tup {x : M} {b : M} : evs C env (.cons (.tup x) b) t = match ev C env (.tup x) t with | some (dd, t1) => (match evs C env b t1 with | some (r, t2) => some (.d dd :: r, t2) | none => none) | none => none := by rw [evs] <;> first | rfl | (intro i h; cases h) | (intro h; cases h)
@[simp] theorem x_c_lst {x : M} {b : M} : evs C env (.cons (.lst x) b) t = match ev C env (.lst x) t with | some (dd, t1) => (match evs C env b t1 with | some (r, t2) => some (.d dd :: r, t2) | none => none) | none => none := by rw [evs] <;> first | rfl | (intro i h; cases h) | (intro h; cases h)
@[simp] theorem x_c_call {f : Nat} {x : M} {b : M} : evs C env (.cons (.call f x) b) t = match ev C env (.call f x) t with | some (dd, t1) => (match evs C env b t1 with | some (r, t2) => some (.d dd :: r, t2) | none => none) | none => none := by rw [evs] <;> first | rfl | (intro i h; cases h) | (intro h; cases h)
@[simp] theorem x_c_blt {bb : Bl} {x : M} {b : M} : evs C env (.cons (.blt bb x) b) t = match ev C env (.blt bb x) t with | some (dd, t1) => (match evs C env b t1 with | some (r, t2) => some (.d dd :: r, t2) | none => none) | none => none := by rw [evs] <;> first | rfl | (intro i h; cases h) | (intro h; cases h)
@[simp] theorem x_c_index {x : M} {y : M} {b : M} : evs C env (.cons (.index x y) b) t = match ev C env (.index x y) t with | some (dd, t1) => (match evs C env b t1 with | some (r, t2) => some (.d dd :: r, t2) | none => none) | none => none := by rw [evs] <;> first | rfl | (intro i h; cases h) | (intro h; cases h)
@[simp] theorem x_c_join {x : M} {y : M} {b : M} : evs C env (.cons (.join x y) b) t = match ev C env (.join x y) t with | some (dd, t1) => (match evs C env b t1 with | some (r, t2) => some (.d dd :: r, t2) | none => none) | none => none := by rw [evs] <;> first | rfl | (intro i h; cases h) | (intro h; cases h)
@[simp] theorem x_c_dlen {i : Nat} {b : M} : evs C env (.cons (.dlen i) b) t = match ev C env (.dlen i) t with | some (dd, t1) => (match evs C env b t1 with | some (r, t2) => some (.d dd :: r, t2) | none => none) | none => none := by rw [evs] <;> first | rfl | (intro i h; cases h) | (intro h; cases h)
@[simp] theorem x_c_din {n : Bool} {i : Nat} {x : M} {b : M} : evs C env (.cons (.din n i x) b) t = match ev C env (.din n i x) t with | some (dd, t1) => (match evs C env b t1 with | some (r, t2) => some (.d dd :: r, t2) | none => none) | none => none := by rw [evs] <;> first | rfl | (intro i h; cases h) | (intro h; cases h)
@[simp] theorem x_c_dget {i : Nat} {x : M} {b : M} : evs C env (.cons (.dget i x) b) t = match ev C env (.dget i x) t with | some (dd, t1) => (match evs C env b t1 with | some (r, t2) => some (.d dd :: r, t2) | none => none) | none => none := by rw [evs] <;> first | rfl | (intro i h; cases h) | (intro h; cases h)
@[simp] theorem x_c_lc {k : IK} {x : M} {tg : Tg} {vs : List Nat} {y : M} {z : M} {b : M} : evs C env (.cons (.lc k x tg vs y z) b) t = match ev C env (.lc k x tg vs y z) t with | some (dd, t1) => (match evs C env b t1 with | some (r, t2) => some (.d dd :: r, t2) | none => none) | none => none := by rw [evs] <;> first | rfl | (intro i h; cases h) | (intro h; cases h)
@[simp] theorem x_lrange {a : M} : ev C env (.lrange a) t = match ev C env a t with | some (.int n, t1) => if 0 ≤ n ∧ n.toNat < 1000000 then some (.list ((List.range n.toNat).map fun i => .int (i : Nat)), t1) else none | _ => none := by rw [ev] <;> rfl
@[simp] theorem x_dsorted {i : Nat} : ev C env (.dsorted i) t = match dictAt env i with | some kvs => (match intKeys kvs with | some ks => if ks.length < 64 then some (.list ((sortI ks).map .int), t) else none | none => none) | none => none := by rw [ev] <;> rfl
@[simp] theorem x_sset {a : M} : ev C env (.sset a) t = match ev C env a t with | some (.list xs, t1) => (match intsOf xs with | some ns => if ns.length < 63 then some (.list ((sortI (dedupI ns)).map .int), t1) else none | none => none) | _ => none := by rw [ev] <;> rfl
@[simp] theorem x_dlen {i : Nat} : ev C env (.dlen i) t = (dictAt env i).map fun kvs => (PyData.int kvs.length, t) := by rw [ev] <;> rfl
@[simp] theorem x_din {n : Bool} {i : Nat} {a : M} : ev C env (.din n i a) t = match ev C env a t with | some (x, t1) => (match dictAt env i, keyD x with | some kvs, some k => some (PyData.bool (if n then !(lookD kvs k).isSome else (lookD kvs k).isSome), t1) | _, _ => none) | none => none := by rw [ev] <;> rfl
@[simp] theorem x_dget {i : Nat} {a : M} : ev C env (.dget i a) t = match ev C env a t with | some (x, t1) => (match dictAt env i, keyD x with | some kvs, some k => (lookD kvs k).map (·, t1) | _, _ => none) | none => none := by rw [ev] <;> rfl
@[simp] theorem x_c_dsorted {i : Nat} {b : M} : evs C env (.cons (.dsorted i) b) t = match ev C env (.dsorted i) t with | some (dd, t1) => (match evs C env b t1 with | some (r, t2) => some (.d dd :: r, t2) | none => none) | none => none := by rw [evs] <;> first | rfl | (intro i h; cases h) | (intro h; cases h)
@[simp] theorem x_c_edict {b : M} : evs C env (.cons .edict b) t = match evs C env b t with | some (r, t2) => some (.gd [] :: r, t2) | none => none := by rw [evs] <;> rfl
@[simp] theorem x_nop : exs C W .nop env t = some (.nx env t) := by rw [exs] <;> rfl
@[simp] theorem x_seq {a b : S} : exs C W (.seq a b) env t = match exs C W a env t with | some (.nx env1 t1) => exs C W b env1 t1 | o => o := by rw [exs] <;> rfl
@[simp] theorem x_asg {tg : Tg} {e : M} : exs C W (.asg tg e) env t = match ev C env e t with | some (d, t1) => (setTg tg d env).map fun env1 => Out.nx env1 t1 | none => none := by rw [exs] <;> rfl
@[simp] theorem x_own {i : Nat} {l : M} : exs C W (.own i l) env t = match evs C env l t with | some (lvs, t1) => (match dsOf lvs with | some ds => if ds.length ≤ 1000 ∧ i < env.length then some (.nx (env.set i (some (.own ds))) t1) else none | none => none) | none => none := by rw [exs] <;> rfl
@[simp] theorem x_app {i : Nat} {e : M} : exs C W (.app i e) env t = match ev C env e t with | some (d, t1) => (match ownAt env i with | some xs => if xs.length < sizeLine then some (.nx (env.set i (some (.own (xs ++ [d])))) t1) else none | none => none) | none => none := by rw [exs] <;> rfl
@[simp] theorem x_seti {i : Nat} {ix e : M} : exs C W (.seti i ix e) env t = match ev C env e t with | some (d, t1) => (match ev C env ix t1 with | some (.int k, t2) => (match ownAt env i with | some xs => (ixN xs.length k).map fun j => Out.nx (env.set i (some (.own (xs.set j d)))) t2 | none => none) | _ => none) | none => none := by rw [exs] <;> rfl
@[simp] theorem x_pop0 {j i : Nat} : exs C W (.pop0 j i) env t = match ownAt env i with | some (x :: xs) => if i ≠ j then some (.nx ((env.set i (some (.own xs))).set j (some (.d x))) t) else none | _ => none := by rw [exs] <;> rfl
@[simp] theorem x_stape {i : Nat} {e : M} : exs C W (.tape i e) env t = match ev C env e t with | some (.int n, t1) => (match env[i]? with | some (some .tp) => some (.nx env n) | _ => none) | _ => none := by rw [exs] <;> rfl
@[simp] theorem x_frz {i : Nat} : exs C W (.frz i) env t = match ownAt env i with | some xs => some (.nx (env.set i (some (.d (.list xs)))) t) | none => none := by rw [exs] <;> rfl
@[simp] theorem x_ife {c : M} {a b : S} : exs C W (.ife c a b) env t = match ev C env c t with | some (.bool true, t1) => exs C W a env t1 | some (.bool false, t1) => exs C W b env t1 | _ => none := by rw [exs] <;> rfl
@[simp] theorem x_for {k : IK} {it : M} {tg : Tg} {b : S} : exs C W (.for k it tg b) env t = match ev C env it t with | some (x, t1) => (match itemsD k x with | some xs => forL (lp C W b) tg xs env t1 | none => none) | none => none := by rw [exs] <;> rfl
@[simp] theorem x_forG {i : Nat} {tg : Tg} {b : S} : exs C W (.forG i tg b) env t = forO (lp C W b) tg i W 0 env t := by rw [exs] <;> rfl
@[simp] theorem x_while {c : M} {b : S} : exs C W (.while c b) env t = whl (wc C c) (lp C W b) W env t := by rw [exs] <;> rfl
@[simp] theorem x_ret {e : M} : exs C W (.ret e) env t = match ev C env e t with | some (d, t1) => some (.rt d t1) | none => none := by rw [exs] <;> rfl
@[simp] theorem x_drop {e : M} : exs C W (.drop e) env t = match ev C env e t with | some (_, t1) => some (.nx env t1) | none => none := by rw [exs] <;> rfl
@[simp] theorem x_new0 {i : Nat} {b : Bool} : exs C W (.new0 i b) env t = if i < env.length then some (.nx (env.set i (some (if b then .dt [] else .dk false []))) t) else none := by rw [exs] <;> rfl
@[simp] theorem x_newK {i : Nat} {k v : M} : exs C W (.newK i k v) env t = match ev C env k t with | some (x, t1) => (match ev C env v t1 with | some (y, t2) => (match keyD x with | some key => if i < env.length ∧ (flatD y || isListD y) = true then some (.nx (env.set i (some (.dk true [(key, y)]))) t2) else none | none => none) | none => none) | none => none := by rw [exs] <;> rfl
@[simp] theorem x_newD {i j : Nat} : exs C W (.newD i j) env t = match env[j]? with | some (some (.gd kvs)) => if i < env.length then some (.nx (env.set i (some (.dk false kvs))) t) else none | _ => none := by rw [exs] <;> rfl
@[simp] theorem x_frzD {i : Nat} : exs C W (.frzD i) env t = match env[i]? with | some (some (.dk _ kvs)) => some (.nx (env.set i (some (.gd kvs))) t) | _ => none := by rw [exs] <;> rfl
@[simp] theorem x_dput {i : Nat} {k e : M} : exs C W (.dput i k e) env t = match ev C env e t with | some (y, t1) => (match ev C env k t1 with | some (x, t2) => (match env[i]? with | some (some (.dk n kvs)) => (match keyD x with | some key => if kvs.length < sizeLine ∧ (!n || flatD y) = true then some (.nx (env.set i (some (.dk n (putD kvs key y)))) t2) else none | none => none) | _ => none) | none => none) | none => none := by rw [exs] <;> rfl
@[simp] theorem x_dputN {i : Nat} {k e : M} : exs C W (.dputN i k e) env t = match ev C env e t with | some (y, t1) => (match ev C env k t1 with | some (x, t2) => (match env[i]? with | some (some (.dk n kvs)) => (match keyD x with | some key => if kvs.length < sizeLine ∧ isListD y = true then some (.nx (env.set i (some (.dk n (putD kvs key y)))) t2) else none | none => none) | _ => none) | none => none) | none => none := by rw [exs] <;> rfl
@[simp] theorem x_whileL {i : Nat} {b : S} : exs C W (.whileL i b) env t = whl (fun env t => (ownAt env i).map fun xs => (PyData.bool (!xs.isEmpty), t)) (lp C W b) W env t := by rw [exs] <;> rfl
@[simp] theorem x_tail {i f : Nat} {l : M} {qs : List M} {r : S} : exs C W (.tail i f l qs r) env t = match evs C env l t with | some (lvs, t1) => (match C f lvs t1 with | some (x, t2) => if nomutB (env.set i none) = true ∧ i < env.length ∧ new3B x = true then (match qtest C (env.set i (some (.d x))) qs t2 with | some t3 => exs C W r (env.set i none) t3 | none => none) else none | none => none) | none => none := by rw [exs] <;> rfl
@[simp] theorem x_never : exs C W .never env t = none := by rw [exs] <;> rfl
@[simp] theorem x_q0 : qtest C env [] t = some t := by rw [qtest] <;> rfl
@[simp] theorem x_q1 {c : M} {r : List M} : qtest C env (c :: r) t = match ev C env c t with | some (.bool false, t1) => qtest C env r t1 | _ => none := by rw [qtest] <;> rfl
@[simp] theorem x_run {fm : FnM} {args : List LV} : runF C W fm args t = if args.length = fm.np then (match exs C W fm.body (args.map some ++ List.replicate (fm.n - fm.np) none) t with | some (.rt d t2) => some (d, t2) | some (.nx _ t2) => some (.none, t2) | none => none) else none := by rw [runF] <;> rfl
@[simp] theorem x_lcF {vs : List Nat} {tg : Tg} {c e : M} {y : PyData} : lcF C env vs tg c e y t = match setTg tg y (wipeE env vs) with | some env2 => (match ev C env2 c t with | some (.bool true, t2) => (match ev C env2 e t2 with | some (z, t3) => some (some z, t3) | none => none) | some (.bool false, t2) => some (none, t2) | _ => none) | none => none := by rfl
theorem x_lp {b : S} : lp C W b env t = exs C W b env t := rfl
theorem x_wc {c : M} : wc C c env t = ev C env c t := rfl
@[simp] theorem x_own1 {i : Nat} : ownAt env i = match env[i]? with | some (some (.own xs)) => some xs | _ => none := rfl
end
theorem atI_ok {α : Type} {xs : List α} {i : Int} (h0 : 0 ≤ i) (h : i < xs.length) : atI xs i = some (xs[i.toNat]'(by omega)) := by
  obtain ⟨n, rfl⟩ : ∃ n : Nat, i = (n : Int) := ⟨i.toNat, by omega⟩
  have hn : n < xs.length := by omega
  simpa using atI_nat (List.getElem?_eq_getElem hn)
theorem atI_some {α : Type} {xs : List α} {i : Int} (h0 : 0 ≤ i) (h : i < xs.length) : ∃ x, atI xs i = some x ∧ x ∈ xs := ⟨_, atI_ok h0 h, List.getElem_mem _⟩
/-- a loop whose turns all go on -/
theorem forL_ok {f : Env → Int → Option Out} {tg : Tg} (I : Nat → Env → Int → Prop) : ∀ (xs : List PyData) (env : Env) (t : Int) (n : Nat), I n env t →
    (∀ i d env t, xs[i]? = some d → I (n + i) env t → ∃ env1 env2 t2, setTg tg d env = some env1 ∧ f env1 t = some (.nx env2 t2) ∧ I (n + i + 1) env2 t2) →
    ∃ env' t', forL f tg xs env t = some (.nx env' t') ∧ I (n + xs.length) env' t'
  | [], env, t, n, h, _ => ⟨env, t, rfl, h⟩
  | x :: xs, env, t, n, h, st => by
    obtain ⟨env1, env2, t2, h1, h2, h3⟩ := st 0 x env t rfl h
    obtain ⟨env', t', h4, h5⟩ := forL_ok I xs env2 t2 (n + 1) h3 fun i d env t hd hi => by
      have := st (i + 1) d env t (by simpa using hd) (by rw [show n + (i + 1) = n + 1 + i by omega]; exact hi)
      rw [show n + (i + 1) + 1 = n + 1 + i + 1 by omega] at this
      exact this
    refine ⟨env', t', ?_, by rw [List.length_cons, show n + (xs.length + 1) = n + 1 + xs.length by omega]; exact h5⟩
    unfold forL
    rw [h1]
    simp only [h2]
    exact h4
theorem forL_ok0 {f : Env → Int → Option Out} {tg : Tg} (I : Nat → Env → Int → Prop) {xs : List PyData} {env : Env} {t : Int} (h : I 0 env t)
    (st : ∀ i d env t, xs[i]? = some d → I i env t → ∃ env1 env2 t2, setTg tg d env = some env1 ∧ f env1 t = some (.nx env2 t2) ∧ I (i + 1) env2 t2) :
    ∃ env' t', forL f tg xs env t = some (.nx env' t') ∧ I xs.length env' t' := by
  obtain ⟨e, t', h1, h2⟩ := forL_ok I xs env t 0 h fun i d env t hd hi => by
    rw [Nat.zero_add] at hi
    obtain ⟨a, b, c, d, e, f⟩ := st i d env t hd hi
    exact ⟨a, b, c, d, e, by rw [Nat.zero_add]; exact f⟩
  exact ⟨e, t', h1, by rw [Nat.zero_add] at h2; exact h2⟩
/-- a comprehension that keeps every item -/
theorem lcLoop_ok {f : PyData → Int → Option (Option PyData × Int)} (I : Nat → Int → List PyData → Prop) : ∀ (xs : List PyData) (t : Int) (n : Nat) (acc : List PyData), I n t acc →
    (∀ i d t acc, xs[i]? = some d → I (n + i) t acc → ∃ y t2, f d t = some (some y, t2) ∧ I (n + i + 1) t2 (acc ++ [y])) →
    ∃ ys t', lcLoop f xs t = some (ys, t') ∧ I (n + xs.length) t' (acc ++ ys)
  | [], t, n, acc, h, _ => ⟨[], t, rfl, by simpa using h⟩
  | x :: xs, t, n, acc, h, st => by
    obtain ⟨y, t2, h1, h2⟩ := st 0 x t acc rfl h
    obtain ⟨ys, t', h4, h5⟩ := lcLoop_ok I xs t2 (n + 1) (acc ++ [y]) h2 fun i d t acc hd hi => by
      have := st (i + 1) d t acc (by simpa using hd) (by rw [show n + (i + 1) = n + 1 + i by omega]; exact hi)
      rw [show n + (i + 1) + 1 = n + 1 + i + 1 by omega] at this
      exact this
    refine ⟨y :: ys, t', ?_, by rw [List.length_cons, show n + (xs.length + 1) = n + 1 + xs.length by omega, show acc ++ y :: ys = acc ++ [y] ++ ys by simp]; exact h5⟩
    unfold lcLoop
    rw [h1]
    simp only [h4]
/-- a comprehension that draws nothing -/
theorem lcLoop_map {f : PyData → Int → Option (Option PyData × Int)} {g : PyData → PyData} : ∀ (xs : List PyData) (t : Int), (∀ d ∈ xs, f d t = some (some (g d), t)) → lcLoop f xs t = some (xs.map g, t)
  | [], t, _ => rfl
  | x :: xs, t, h => by
    unfold lcLoop
    rw [h x List.mem_cons_self]
    simp only [lcLoop_map xs t fun d hd => h d (List.mem_cons_of_mem _ hd), List.map_cons]
end Pl
namespace Pl
open PySem L2
theorem lc_range {f : PyData → Int → Option (Option PyData × Int)} {g : Nat → PyData} (n : Nat) (t : Int) (h : ∀ i, i < n → f (.int (i : Nat)) t = some (some (g i), t)) :
    lcLoop f ((List.range n).map fun i => PyData.int (i : Nat)) t = some ((List.range n).map g, t) := by
  have main : ∀ is : List Nat, (∀ i ∈ is, i < n) → lcLoop f (is.map fun i => PyData.int (i : Nat)) t = some (is.map g, t) := by
    intro is
    induction is with
    | nil => intro _; rfl
    | cons i r ih =>
      intro hi
      rw [List.map_cons, List.map_cons]
      unfold lcLoop
      rw [h i (hi i List.mem_cons_self)]
      simp only [ih fun j hj => hi j (List.mem_cons_of_mem _ hj)]
  exact main _ fun i hi => List.mem_range.mp hi
/-- the same, where the turns draw: i draws at turn i -/
theorem lc_rangeT {f : PyData → Int → Option (Option PyData × Int)} {g : Nat → PyData} (c : Int) : ∀ (n : Nat) (s : Nat) (t : Int), (∀ i, i < n → f (.int ((s + i : Nat))) (t + c * i) = some (some (g (s + i)), t + c * (i + 1))) →
    lcLoop f ((List.range' s n).map fun i => PyData.int (i : Nat)) t = some ((List.range' s n).map g, t + c * n)
  | 0, s, t, _ => by simp [lcLoop]
  | n + 1, s, t, h => by
    have h0 := h 0 (by omega)
    have ih := lc_rangeT c n (s + 1) (t + c) fun i hi => by
      have := h (i + 1) (by omega)
      rw [show s + 1 + i = s + (i + 1) by omega, show t + c + c * (i : Int) = t + c * ((i + 1 : Nat) : Int) by push_cast; rw [Int.mul_add]; omega, show t + c + c * ((i : Int) + 1) = t + c * (((i + 1 : Nat) : Int) + 1) by push_cast; rw [Int.mul_add, Int.mul_add, Int.mul_add]; omega]
      exact this
    rw [List.range'_succ, List.map_cons, List.map_cons]
    unfold lcLoop
    simp at h0
    simp only [h0]
    rw [ih]
    simp only [Option.some.injEq, Prod.mk.injEq, true_and]
    push_cast
    rw [Int.mul_add]
    omega
/-! ### marks, machines -/
def OkMark (d : PyData) : Prop := d.canLay0 = true ∧ d.depth ≤ 2
theorem okMarks_lay : ∀ {ds : List PyData}, (∀ d ∈ ds, OkMark d) → PyData.canLayAll0 ds = true ∧ PyData.depthAll ds ≤ 2
  | [], _ => by simp [PyData.canLayAll0, PyData.depthAll]
  | d :: ds, h => by
    obtain ⟨h1, h2⟩ := okMarks_lay fun e he => h e (List.mem_cons_of_mem _ he)
    obtain ⟨h3, h4⟩ := h d List.mem_cons_self
    constructor
    · simp [PyData.canLayAll0, h1, h3]
    · simp only [PyData.depthAll]
      omega
theorem okMark_shaped {d : PyData} (h : OkMark d) : SeqAt.shaped d = true := by
  unfold SeqAt.shaped
  rw [h.1, Bool.true_and]
  exact decide_eq_true (Nat.le_trans h.2 (by decide))
theorem okMarks_shaped {ds : List PyData} (h : ∀ d ∈ ds, OkMark d) : SeqAt.shaped (.list ds) = true := by
  obtain ⟨h1, h2⟩ := okMarks_lay h
  unfold SeqAt.shaped
  simp only [PyData.canLay0, PyData.depth, h1, Bool.true_and]
  exact decide_eq_true (by omega)
theorem okMarks_shapedT {ds : List PyData} (h : ∀ d ∈ ds, OkMark d) : SeqAt.shaped (.tuple ds) = true := by
  obtain ⟨h1, h2⟩ := okMarks_lay h
  unfold SeqAt.shaped
  simp only [PyData.canLay0, PyData.depth, h1, Bool.true_and]
  exact decide_eq_true (by omega)
theorem findI_mem {d : PyData} : ∀ {ds : List PyData}, d ∈ ds → d.canLay0 = true → ∃ j, findI d ds = some j ∧ j < ds.length
  | x :: r, h, hl => by
    unfold findI
    by_cases e : PyData.eqv x d = true
    · exact ⟨0, by rw [if_pos e], by simp⟩
    · rw [if_neg e]
      rcases List.mem_cons.mp h with rfl | h
      · exact absurd (SeqAt.eqv_refl _ hl) e
      · obtain ⟨j, h1, h2⟩ := findI_mem h hl
        exact ⟨j + 1, by rw [h1]; rfl, by simpa using h2⟩
theorem index_ok {d : PyData} {ds : List PyData} (h : ∀ d ∈ ds, OkMark d) (hd : d ∈ ds) : ∃ j, findI d ds = some j ∧ j < ds.length ∧ indexD (.tuple ds) d = some (.int (j : Nat)) ∧ indexD (.list ds) d = some (.int (j : Nat)) := by
  obtain ⟨j, h1, h2⟩ := findI_mem hd (h d hd).1
  exact ⟨j, h1, h2, by simp [okMarks_shaped h, okMark_shaped (h d hd), h1], by simp [okMarks_shaped h, okMark_shaped (h d hd), h1]⟩
def rowD (r : List Nat) : PyData := .list (r.map fun i => .int (i : Nat))
def stepsD (s : List (List Nat)) : PyData := .list (s.map rowD)
def goodD (g : List Bool) : PyData := .list (g.map .bool)
def mkM (ms : List PyData) (s : List (List Nat)) (g : List Bool) : PyData := .tuple [.tuple ms, stepsD s, goodD g]
structure MachOK (n : Nat) (s : List (List Nat)) (g : List Bool) : Prop where
  pos : 0 < s.length
  len : g.length = s.length
  row : ∀ r ∈ s, r.length = n
  lt : ∀ r ∈ s, ∀ i ∈ r, i < s.length
end Pl
namespace Pl
open PySem L2
section
variable {C : CallF} {W : Nat} {env : Env} {t t1 t2 : Int}
theorem items_range {n : Nat} (h : n ≤ 1000000) : itemsD .range (.int (n : Nat)) = some ((List.range n).map fun i => PyData.int (i : Nat)) := by
  have q1 : (0 : Int) ≤ (n : Int) := by omega
  have q2 : (n : Int).toNat < 1000000000 := by omega
  rw [itemsD, if_pos ⟨q1, q2⟩, Int.toNat_natCast]
theorem ev_lcR {n : Nat} {it c e : M} {tg : Tg} {vs : List Nat} {ys : List PyData} (hit : ev C env it t = some (.int (n : Nat), t1)) (hn : n ≤ 1000000) (lc : lcLoop (lcF C env vs tg c e) ((List.range n).map fun i => PyData.int (i : Nat)) t1 = some (ys, t2)) : ev C env (.lc .range it tg vs c e) t = some (.list ys, t2) := by
  have hl : ((List.range n).map fun i => PyData.int (i : Nat)).length < sizeLine := by
    rw [List.length_map, List.length_range]
    exact Nat.lt_of_le_of_lt hn (by decide)
  rw [x_lc, hit]
  simp only [items_range hn]
  rw [if_pos hl, lc]
  rfl
theorem ev_lcS {k : IK} {x : PyData} {xs : List PyData} {it c e : M} {tg : Tg} {vs : List Nat} {ys : List PyData} (hit : ev C env it t = some (x, t1)) (hx : itemsD k x = some xs) (hn : xs.length ≤ 1000000) (lc : lcLoop (lcF C env vs tg c e) xs t1 = some (ys, t2)) : ev C env (.lc k it tg vs c e) t = some (.list ys, t2) := by
  have hl : xs.length < sizeLine := Nat.lt_of_le_of_lt hn (by decide)
  rw [x_lc, hit]
  simp only [hx]
  rw [if_pos hl, lc]
  rfl
theorem ex_forR {n : Nat} {it : M} {tg : Tg} {b : S} {o : Option Out} (hit : ev C env it t = some (.int (n : Nat), t1)) (hn : n ≤ 1000000) (h : forL (lp C W b) tg ((List.range n).map fun i => PyData.int (i : Nat)) env t1 = o) : exs C W (.for .range it tg b) env t = o := by
  rw [x_for, hit]
  simp only [items_range hn]
  exact h
theorem ex_forS {k : IK} {x : PyData} {xs : List PyData} {it : M} {tg : Tg} {b : S} {o : Option Out} (hit : ev C env it t = some (x, t1)) (hx : itemsD k x = some xs) (h : forL (lp C W b) tg xs env t1 = o) : exs C W (.for k it tg b) env t = o := by
  rw [x_for, hit]
  simp only [hx]
  exact h
end
end Pl

set_option Elab.async false
set_option linter.all false
set_option maxRecDepth 100000
set_option maxHeartbeats 1000000
/-! Pl: results whose lists are new. -/
namespace Pl
open PySem PySem.Spec PyProof.Rows L2
theorem Kp.back {T : Addr} {Hf H Hf' H' : Hp} (k : Kp T Hf H Hf' H') {a : Addr} (h : H' a = none) : H a = none := by
  cases q : H a with
  | none => rfl
  | some o =>
    by_cases e : a = T
    · subst e
      exact absurd h (k.tt (by rw [q]; simp))
    · rw [k.same a o e q] at h
      cases h
theorem NwV.back {T : Addr} {Hf H Hf' H' : Hp} {v : V} (k : Kp T Hf H Hf' H') (h : NwV H' v) : NwV H v := fun r e => k.back (h r e)
section
variable (K : PySem.W.Frag) (C : CallF) (T : Addr) (H0 Hf0 : Hp)
def tEN (m : M) (P : Hp → Hp → V → Prop) : TE := fun σ H Q => ∃ Hf env t d t', Abs K T H0 Hf0 Hf env t σ H ∧ ev C env m t = some (d, t') ∧ ∀ v Hf' H', Abs K T H0 Hf0 Hf' env t' σ H' → Kp T Hf H Hf' H' → Rp Hf' v d → P H0 Hf' v → Q v H'
end
structure SemN (C : CallF) (X : Cx) (e : Expr) (m : M) (P : Hp → Hp → V → Prop) : Prop where
  run : ∀ T H0 Hf0, PE X e (tEN X.K C T H0 Hf0 m P)
def NwE (b : Bool) : Hp → Hp → V → Prop := fun H _ v => b = true → NwV H v
section
variable {C : CallF} {W : Nat} {X : Cx} {a b c e : Expr} {es : List Expr} {ma mb mc m : M} {pos : Pos} {K : PySem.W.Frag} {T : Addr} {H0 Hf0 Hf : Hp} {env : Env} {t t1 t2 : Int} {σ : L2.St} {H : Hp} {sts : List Stmt}
theorem SemE.any (h : SemE C X e m) : SemN C X e m (NwE false) := ⟨fun T H0 Hf0 => PE.imp (h.run T H0 Hf0) fun σ H Q ⟨Hf, env, t, d, t', A, e, k⟩ => ⟨Hf, env, t, d, t', A, e, fun v Hf' H' A' k' r => k v Hf' H' A' k' r fun z => by cases z⟩⟩
def rListN (K : PySem.W.Frag) : List V → Hp → VK → Prop := fun xs H Q => ∃ Hf d z, Ex Hf H ∧ Paired (Rb K Hf H) xs [d] ∧ bltD .list [d] = some z ∧ ∀ v Hf' H', Ad Hf H Hf' H' → Rp Hf' v z → NwV H v → Q v H'
theorem c_listN (hc : X.calm = true) : CallR X (.type "list") (rListN X.K) := by
  refine CallR.imp (call_list_of.or (call_list_str1 hc)) fun xs H Q h => ?_
  obtain ⟨Hf, d, z, ex, rs, g, q⟩ := h
  obtain ⟨x, rfl, r⟩ := one_of rs
  have fin : ∀ {vs : List V} {ds : List PyData}, RpAll Hf vs ds → z = .list ds → ∀ p, H p = none → Q (.ref p) (upd H p (.lst vs)) := fun rv e p hp => by
    subst e
    exact q _ _ _ (.new p _ hp) (.lst upd_same (RpAll.mono (Ex.new (ex_none ex hp)) _ _ rv)) fun r e => by
      cases e
      exact hp
  cases d with
  | list xs =>
    obtain ⟨l, vs, rfl, sq, rv⟩ := r.list ex
    exact .inl ⟨l, vs, rfl, .inl sq, fin rv (by cases g; rfl)⟩
  | tuple xs =>
    obtain ⟨l, vs, rfl, sq, rv⟩ := r.tuple ex
    exact .inl ⟨l, vs, rfl, .inr sq, fin rv (by cases g; rfl)⟩
  | str w =>
    have := r.str
    subst this
    simp only [bltD] at g
    split at g
    · cases g
      exact .inr ⟨_, rfl, by assumption, fin (rp_signs _) rfl⟩
    · cases g
  | _ => cases g
theorem se_listN {x : Str} {p : Pos} (hcm : X.calm = true) (hg : Gl X x) (hm : X.mg x = none) (hv : bootBuiltins x = some (.type "list")) (ha : SemR C X e m) (ht : ∀ i, m ≠ .tape i := by intro _ h; cases h) (ht2 : m ≠ .edict := by intro h; cases h) (hn : x ≠ "__name__" := by decide) (hdb : (x == ("__debug__" : Str)) = false := by decide)
    (he : starEach [e] X.env = (false, eval e X.env) :: starEach [] X.env := by rfl) : SemN C X (.Call (.Name x p) [e] [] pos) (.blt .list (.cons m .nil)) (NwE true) :=
  ⟨fun T H0 Hf0 => PE.imp (pe_callTy (c_listN hcm) hg hm hv (pa_cons (ha.run T H0 Hf0) pa_nil he) hn hdb he) fun σ H Q ⟨Hf, env, t, d, t', A, e, k⟩ => by
    unfold ev at e
    split at e
    · rename_i lvs t1 e1
      obtain ⟨d0, e0, rfl⟩ := evs_one ht ht2 e1
      obtain ⟨z, gz, ez⟩ := map_some (show (bltD .list [d0]).map (·, t1) = some (d, t') from e)
      cases ez
      exact ⟨Hf, env, t, d0, _, A, e0, fun v Hf1 H1 A1 k1 r1 => ⟨Hf1, d0, d, A1.ex, .cons (r1 Hf1 H1 t' A1 (Kp.refl _ _ _)) .nil, gz, fun v Hf' H' ad r n => k v Hf' H' (ad.abs A1).1 (k1.trans (ad.abs A1).2) r fun _ r e => A1.kp.back (n r e)⟩⟩
    · cases e⟩
theorem lc_readN {b : Bool} {k : IK} {it : M} {tgt : Tg} {vs : List Nat} {mc me : M} (hv : ∀ i ∈ tgIx tgt, i ∈ vs) {Q : VK} (h : tEN K C T H0 Hf0 (.lc k it tgt vs mc me) (NwL b) σ H Q) :
    tLc (tI K C T H0 Hf0 k it) (tG K T H0 Hf0 tgt) (tT K C T H0 Hf0 mc) (tEN K C T H0 Hf0 me (NwE b)) vs σ H Q := by
  obtain ⟨Hf, env, t, d, t', A, e, q⟩ := h
  obtain ⟨x, t1, xs, ys, e1, e2, hl, e3, rfl⟩ := ev_lc e
  refine ⟨Hf, env, t, x, t1, xs, A, e1, e2, fun J vL Hf1 H1 A1 k1 r1 w D hD => ?_⟩
  obtain ⟨f1, f2, f3⟩ := A1.fresh hD
  have nm := A1.notmut hD
  refine lc_it w (fun i Hc => ∃ Hfc tc accV accD rest, Abs K T H0 Hf0 Hfc env tc σ Hc ∧ Kp T Hf1 H1 Hfc Hc ∧ Hfc D = none ∧ Hc D = some (.lst accV) ∧ RpAll Hfc accV accD ∧ lcLoop (lcF C env vs tgt mc me) (xs.drop i) tc = some (rest, t') ∧ accD ++ rest = ys ∧ accV.length ≤ i ∧ (b = true → ∀ x ∈ accV, NwV H0 x)) ?_ ?_ ?_ ?_
  · exact ⟨Hf1, t1, [], [], ys, A1.other f3 f1 f2 nm, (Kp.refl _ _ _).grow f3 hD, f1, upd_same, .nil, e3, rfl, Nat.le_refl _, fun _ x hx => by cases hx⟩
  · rintro i Hc _ ⟨Hfc, tc, accV, accD, rest, Ac, kc, _⟩
    exact kc.ex.trans Ac.ex
  · rintro i xv Hc H' hi ⟨Hfc, tc, accV, accD, rest, Ac, kc, hfD, hcD, ra, hloop, hys, hlen, hnw⟩ ⟨rfl, hxv⟩
    have hi2 : i < xs.length := by
      rw [← r1.len]
      exact hi
    obtain ⟨dx, hdx, rx⟩ := r1.getV hxv
    have hdrop : xs.drop i = dx :: xs.drop (i + 1) := by
      rw [List.drop_eq_getElem_cons hi2]
      congr 1
      exact (List.getElem?_eq_some_iff.mp hdx).2
    rw [hdrop] at hloop
    unfold lcLoop at hloop
    split at hloop
    · cases hloop
    · rename_i o tn hf
      unfold lcF at hf
      split at hf
      · rename_i env2 hset
        refine ⟨Hfc, wipeE env vs, tc, dx, env2, Ac.wipe vs, Rp.mono kc.ex _ _ rx, hset, fun σ2 A2 hw => ⟨?_, ?_⟩⟩
        · rw [hw vs hv]
          apply List.ext_getElem?
          intro j
          rw [wipe_get, wipe_length, wipe_get]
          split <;> rfl
        · split at hf
          · rename_i t2 hc
            split at hf
            · rename_i z t3 he
              cases hf
              refine ⟨Hfc, env2, tc, true, t2, A2, hc, fun Hf3 H3 A3 k3 => ?_⟩
              refine iteT ⟨Hf3, env2, t2, z, _, A3, he, fun v Hf4 H4 A4 k4 r4 n4 => ?_⟩
              have k34 := k3.trans k4
              have B : Abs K T H0 Hf0 Hf4 env tn σ H4 := Ac.kept k34 A4.ex A4.th
              have hD4 : H4 D = some (.lst accV) := k34.same D _ f3 hcD
              have hf4 : Hf4 D = none := k34.away D _ hcD hfD
              split at hloop
              · cases hloop
              · rename_i ys2 t4 hl2
                cases hloop
                refine ⟨accV, hD4, by omega, ⟨Hf4, tn, accV ++ [v], accD ++ [z], ys2, B.other f3 hf4 f2 nm, (kc.trans k34).grow f3 hD, hf4, upd_same, (RpAll.mono k34.ex _ _ ra).append (.cons r4 .nil), hl2, ?_, ?_, fun hb x hx => ?_⟩⟩
                · rw [List.append_assoc]
                  exact hys
                · rw [List.length_append]
                  simp
                  omega
                · rcases List.mem_append.mp hx with hx | hx
                  · exact hnw hb x hx
                  · rw [List.mem_singleton.mp hx]
                    exact n4 hb
            · cases hf
          · rename_i t2 hc
            cases hf
            refine ⟨Hfc, env2, tc, false, _, A2, hc, fun Hf3 H3 A3 k3 => ?_⟩
            refine iteF ?_
            have B : Abs K T H0 Hf0 Hf3 env tn σ H3 := Ac.kept k3 A3.ex A3.th
            split at hloop
            · cases hloop
            · rename_i ys2 t4 hl2
              cases hloop
              exact ⟨Hf3, tn, accV, accD, _, B, kc.trans k3, k3.away D _ hcD hfD, k3.same D _ f3 hcD, RpAll.mono k3.ex _ _ ra, hl2, hys, by omega, hnw⟩
          · cases hf
      · cases hf
  · rintro Hc ⟨Hfc, tc, accV, accD, rest, Ac, kc, hfD, hcD, ra, hloop, hys, hlen, hnw⟩
    rw [r1.len, List.drop_length] at hloop
    unfold lcLoop at hloop
    cases hloop
    rw [List.append_nil] at hys
    subst hys
    have ex2 : Ex Hfc (upd Hfc D (.lst accV)) := Ex.new hfD
    have kk : Kp T Hf1 H1 (upd Hfc D (.lst accV)) Hc := ⟨kc.ex.trans ex2, kc.same, fun b o h1 h2 => by rw [upd_ne (ne_of_none h1 hD)]; exact kc.away b o h1 h2, kc.tt⟩
    have exh : Ex (upd Hfc D (.lst accV)) Hc := fun a u e => by
      by_cases hp : a = D
      · subst hp
        rw [upd_same] at e
        cases e
        exact hcD
      · rw [upd_ne hp] at e
        exact Ac.ex a u e
    exact q (.ref D) _ Hc (A1.kept kk exh Ac.th) (k1.trans kk) (.lst upd_same (RpAll.mono ex2 _ _ ra)) fun g vs e1 e2 => by
      cases e1
      rw [upd_same] at e2
      cases e2
      exact ⟨f2, hnw⟩
theorem se_lcN {bb : Bool} {elt iter tg : Expr} {ifs : List Expr} {scope : Scope} {own : List (Str × Nat)} {k : IK} {it mc me : M} {tgt : Tg} (hc : X.calm = true) (hN : X.N.Nodup) (hi : SemI C X tg iter k it) (ok : BlkOk X.N X.env.scope scope own) (hv : ∀ i ∈ tgIx tgt, i ∈ own.map (·.2))
    (hg : ∀ (s : Shared) (H : Hp) (L : Addr) (cl : List (Str × Addr)) (fp : List Addr), SemG (X.blk s H scope (compEnvC scope cl L X.env) fp) tg tgt)
    (ht : ∀ (s : Shared) (H : Hp) (L : Addr) (cl : List (Str × Addr)) (fp : List Addr) T H0 Hf0, PTs (X.blk s H scope (compEnvC scope cl L X.env) fp) ifs (tT X.K C T H0 Hf0 mc))
    (he : ∀ (s : Shared) (H : Hp) (L : Addr) (cl : List (Str × Addr)) (fp : List Addr), SemN C (X.blk s H scope (compEnvC scope cl L X.env) fp) elt me (NwE bb)) (hs : ∀ x, foldedSetIterable iter X.env x = pure x := by intro _; rfl) :
    SemN C X (.ListComp elt [⟨tg, iter, ifs, 0⟩] scope pos) (.lc k it tgt (own.map (·.2)) mc me) (NwL bb) :=
  ⟨fun T H0 Hf0 => PE.imp (pe_lc hc hN (hi.run T H0 Hf0) ok (fun s H L cl fp => (hg s H L cl fp).run T H0 Hf0) (fun s H L cl fp => ht s H L cl fp T H0 Hf0) (fun s H L cl fp => (he s H L cl fp).run T H0 Hf0) hs) fun σ H Q h => lc_readN hv h⟩
theorem NwL.later {b : Bool} {Hf Hf2 H1 : Hp} {v : V} {d : PyData} (r : Rp Hf v d) (e : Ex Hf Hf2) (h : NwL b H1 Hf v) : NwL b H1 Hf2 v := fun g vs e1 e2 => by
  subst e1
  cases r with
  | lst h0 hs =>
    have := e _ _ h0
    rw [e2] at this
    cases this
    exact h _ _ rfl h0
  | tup h0 hd hs =>
    have := e _ _ h0
    rw [e2] at this
    cases this
/-- three parts, the second and third of them new -/
theorem se_tup3N {x1} {e0 e1 e2 : Expr} {m0 m1 m2 : M} (h0 : SemE C X e0 m0) (h1 : SemN C X e1 m1 (NwL true)) (h2 : SemN C X e2 m2 (NwL false)) (n0 : ∀ i, m0 ≠ .tape i := by intro _ h; cases h) (n1 : ∀ i, m1 ≠ .tape i := by intro _ h; cases h) (n2 : ∀ i, m2 ≠ .tape i := by intro _ h; cases h) (z0 : m0 ≠ .edict := by intro h; cases h) (z1 : m1 ≠ .edict := by intro h; cases h) (z2 : m2 ≠ .edict := by intro h; cases h)
    (s0 : starEach [e0, e1, e2] X.env = (false, eval e0 X.env) :: starEach [e1, e2] X.env := by rfl) (s1 : starEach [e1, e2] X.env = (false, eval e1 X.env) :: starEach [e2] X.env := by rfl) (s2 : starEach [e2] X.env = (false, eval e2 X.env) :: starEach [] X.env := by rfl) :
    SemN C X (.Tuple [e0, e1, e2] x1 pos) (.tup (.cons m0 (.cons m1 (.cons m2 .nil)))) Nw3 :=
  ⟨fun T H0 Hf0 => PE.imp (pe_tupS (pa_cons (h0.run T H0 Hf0) (pa_cons (h1.run T H0 Hf0) (pa_cons (h2.run T H0 Hf0) pa_nil s2) s1) s0)) fun σ H Q ⟨Hf, env, t, d, t', A, e, k⟩ => by
    unfold ev at e
    split at e
    · rename_i lvs tt el
      obtain ⟨d0, t1, r0, a1, el1, rfl⟩ := evs_cons n0 z0 el
      obtain ⟨d1, t2, r1, a2, el2, rfl⟩ := evs_cons n1 z1 el1
      obtain ⟨d2, t3, r2, a3, el3, rfl⟩ := evs_cons n2 z2 el2
      unfold evs at el3
      cases el3
      cases e
      refine ⟨Hf, env, t, d0, t1, A, a1, fun v0 Hf1 H1 A1 k1 q0 => ⟨Hf1, env, t1, d1, t2, A1, a2, fun v1 Hf2 H2 A2 k2 q1 w1 => ⟨Hf2, env, t2, d2, _, A2, a3, fun v2 Hf3 H3 A3 k3 q2 w2 => ⟨by show 3 ≤ sizeLine; decide, fun p o hp hd => ?_⟩⟩⟩⟩
      have ad : Ad Hf3 H3 (upd Hf3 p (.frz o (.tup [v0, v1, v2]))) (upd H3 p (.frz o (.tup [v0, v1, v2]))) := .new p _ hp
      have en : Ex Hf3 (upd Hf3 p (.frz o (.tup [v0, v1, v2]))) := Ex.new (ex_none A3.ex hp)
      refine k (.ref p) _ _ (ad.abs A3).1 (k1.trans (k2.trans (k3.trans (ad.abs A3).2))) (.tup upd_same hd (.cons (Rp.mono (k2.ex.trans (k3.ex.trans en)) _ _ q0) (.cons (Rp.mono (k3.ex.trans en) _ _ q1) (.cons (Rp.mono en _ _ q2) .nil)))) fun p' o' vm vs vg e1 e2 => ?_
      cases e1
      rw [upd_same] at e2
      cases e2
      exact ⟨w1.later q1 (k3.ex.trans en), w2.later q2 en⟩
    · cases e⟩
def tSN (K : PySem.W.Frag) (C : CallF) (W : Nat) (T : Addr) (H0 Hf0 : Hp) (s : S) : TS := fun D σ H => ∃ Hf env t d t', Abs K T H0 Hf0 Hf env t σ H ∧ exs C W s env t = some (.rt d t') ∧ ∀ v Hf' H', Fin T H0 Hf0 Hf' t' H' → Ex Hf Hf' → Rp Hf' v d → Nw3 H0 Hf' v → D.rt v H'
structure SemBN (C : CallF) (W : Nat) (X : Cx) (sts : List Stmt) (s : S) : Prop where
  run : ∀ T H0 Hf0, PSs X sts (tSN X.K C W T H0 Hf0 s)
theorem sbn_ret (h : SemN C X e m Nw3) : SemBN C W X [.Return (some e) pos] (.ret m) :=
  ⟨fun T H0 Hf0 => PSs.imp (pss_one (ps_ret (h.run T H0 Hf0))) fun D σ H ⟨Hf, env, t, d, t', A, e, k⟩ => by
    unfold exs at e
    split at e
    · rename_i d1 t1 e1
      cases e
      exact ⟨Hf, env, t, d, _, A, e1, fun v Hf1 H1 A1 k1 r1 n1 => k _ _ _ A1.fin k1.ex r1 n1⟩
    · cases e⟩
theorem sbn_cons {st : Stmt} {s1 s2 : S} (h1 : SemS C W X st s1) (hn : ∀ (env : Env) (t : Int) (d : PyData) (t' : Int), exs C W s1 env t ≠ some (.rt d t')) (h2 : SemBN C W X sts s2) : SemBN C W X (st :: sts) (.seq s1 s2) := ⟨fun T H0 Hf0 => PSs.imp (pss_cons (h1.run T H0 Hf0) (h2.run T H0 Hf0)) fun D σ H ⟨Hf, env, t, d, t', A, e, k⟩ => by
  unfold exs at e
  cases e1 : exs C W s1 env t with
  | none =>
    rw [e1] at e
    cases e
  | some o1 =>
    rw [e1] at e
    cases o1 with
    | nx env1 t1 => exact ⟨Hf, env, t, _, A, e1, fun σ1 Hf1 H1 A1 ex1 => ⟨Hf1, env1, t1, d, t', A1, e, fun v Hf' H' f ex r n => k v Hf' H' f (ex1.trans ex) r n⟩⟩
    | rt d t1 => exact absurd e1 (hn _ _ _ _)⟩
theorem asg_nort {env : Env} {t t' : Int} {d : PyData} {tg : Tg} {m : M} : exs C W (.asg tg m) env t ≠ some (.rt d t') := fun h => by
  unfold exs at h
  split at h
  · obtain ⟨z, _, e⟩ := map_some h
    cases e
  · cases h
theorem fn_semN {P : Program} {w : World} {mg : Str → Option Value} {base : Heap} {x qual : Str} {st : Stmt} {fa : Addr} {fd : FuncData} {N ps : List Str} {k f : Nat} {C' : CallF} {fm : FnM} (F : Fun K x qual st fa fd) (S : FnScope N ps (defScope st)) (hnp : ps.length = fm.np) (hn : N.length = fm.n)
    (hC : ∀ args t, C' f args t = runF C W fm args t)
    (hb : ∀ (cdv : Value) (A : Around) (outer : List PySem.Env) (s : Shared) (H : Hp) (E : XK), Room k (A.deeper (envOfC qual (defScope st) s.heap.objs.size fa cdv)) → SemBN C W (cxOf CX0 P w K mg base N qual (defScope st) fa cdv A outer s H E).nox (defBody st) fm.body) :
    FnOk P w K mg base CX0 (k + 1) fa fd ps (spN K C' fm.np f) := by
  refine F.ok S (fun vs H Q E h => by rw [hnp]; exact h.1) fun cdv A outer s H vs Q E hr h => ?_
  obtain ⟨hl, T, Hf, lvs, t, r, t', hc, hb3, ex, tf, th, ra, q⟩ := h
  refine ⟨_, (hb cdv A outer s H E hr).run T H Hf, ?_⟩
  rw [hC] at hc
  unfold runF at hc
  split at hc
  · have A0 := abs_start (N := N) (n := fm.n - fm.np) ex tf th ra (by rw [hn, hl])
    split at hc
    · rename_i d t1 he
      cases hc
      exact ⟨Hf, _, t, _, _, A0, he, fun v Hf' H' fi e' rv n => q v Hf' H' fi.ex fi.kp fi.th rv (new3_of hb3 rv n)⟩
    · rename_i e1 t1 he
      cases hc
      cases hb3
    · cases hc
  · cases hc
end
end Pl

set_option Elab.async false
set_option linter.all false
set_option maxRecDepth 100000
set_option maxHeartbeats 1000000
/-! Pl: dicts of one's own. -/
namespace Pl
open PySem PySem.Spec PyProof.Rows L2
section
variable {κ : Type} [DecidableEq κ] {Hf : Hp}
theorem KvAll.look : ∀ {vs : List (κ × V)} {ds : List (κ × PyData)} (k : κ), KvAll Hf vs ds → (valV vs k = none ∧ lookD ds k = none) ∨ ∃ v d, valV vs k = some v ∧ lookD ds k = some d ∧ Rp Hf v d ∧ ∃ p ∈ vs, p.2 = v
  | _, _, k, .nil => .inl ⟨rfl, rfl⟩
  | (j, v) :: vs, (_, d) :: ds, k, .cons h hs => by
    by_cases e : j = k
    · exact .inr ⟨v, d, by rw [valV_pos (p := (j, v)) e], by simp [lookD, List.find?_cons, e], h, (j, v), List.mem_cons_self, rfl⟩
    · have e2 : lookD ((j, d) :: ds) k = lookD ds k := by simp [lookD, List.find?_cons, e]
      rw [valV_neg (p := (j, v)) e, e2]
      rcases KvAll.look k hs with ⟨h1, h2⟩ | ⟨w, x, h1, h2, h3, p, hp, ep⟩
      · exact .inl ⟨h1, h2⟩
      · exact .inr ⟨w, x, h1, h2, h3, p, List.mem_cons_of_mem _ hp, ep⟩
theorem KvAll.any : ∀ {vs : List (κ × V)} {ds : List (κ × PyData)} (k : κ), KvAll Hf vs ds → (vs.any fun kv => decide (kv.1 = k)) = (ds.any fun kv => decide (kv.1 = k))
  | _, _, _, .nil => rfl
  | _, _, k, .cons h hs => by
    rw [List.any_cons, List.any_cons, KvAll.any k hs]
theorem KvAll.app : ∀ {vs ws : List (κ × V)} {ds es : List (κ × PyData)}, KvAll Hf vs ds → KvAll Hf ws es → KvAll Hf (vs ++ ws) (ds ++ es)
  | _, _, _, _, .nil, h => h
  | _, _, _, _, .cons h hs, k => .cons h (hs.app k)
theorem KvAll.maps {k : κ} {v : V} {d : PyData} (r : Rp Hf v d) : ∀ {vs : List (κ × V)} {ds : List (κ × PyData)}, KvAll Hf vs ds → KvAll Hf (vs.map fun kv => if kv.1 = k then (kv.1, v) else kv) (ds.map fun kv => if kv.1 = k then (kv.1, d) else kv)
  | _, _, .nil => .nil
  | (j, w) :: vs, (_, e) :: ds, .cons h hs => by
    rw [List.map_cons, List.map_cons]
    by_cases z : j = k
    · simp only [z, if_true]
      exact .cons r (hs.maps r)
    · simp only [z, if_false]
      exact .cons h (hs.maps r)
theorem KvAll.put {vs : List (κ × V)} {ds : List (κ × PyData)} {k : κ} {v : V} {d : PyData} (h : KvAll Hf vs ds) (r : Rp Hf v d) : KvAll Hf (putK vs k v) (putD ds k d) := by
  unfold putK putD
  rw [h.any k]
  split
  · exact h.maps r
  · exact h.app (.cons r .nil)
theorem put_new {H0 : Hp} {vs : List (κ × V)} {k : κ} {v : V} (h : ∀ p ∈ vs, NwV H0 p.2) (hv : NwV H0 v) : ∀ p ∈ putK vs k v, NwV H0 p.2 := by
  intro p hp
  unfold putK at hp
  split at hp
  · obtain ⟨q, hq, rfl⟩ := List.mem_map.mp hp
    split
    · exact hv
    · exact h q hq
  · rcases List.mem_append.mp hp with hp | hp
    · exact h p hp
    · rw [List.mem_singleton.mp hp]
      exact hv
theorem KvAll.len {Hf : Hp} : ∀ {vs : List (κ × V)} {ds : List (κ × PyData)}, KvAll Hf vs ds → vs.length = ds.length
  | _, _, .nil => rfl
  | _, _, .cons _ h => by rw [List.length_cons, List.length_cons, h.len]
end
theorem key_of {Hf : Hp} {v : V} {d : PyData} {k : L2.Key} (r : Rp Hf v d) (h : keyD d = some k) : v = kV k := by
  cases r <;> cases h <;> rfl
theorem flat_new {Hf H0 : Hp} {v : V} {d : PyData} (r : Rp Hf v d) (h : flatD d = true) : NwV H0 v := by
  intro a e
  subst e
  cases r <;> cases h
theorem list_new {Hf H0 : Hp} {v : V} {d : PyData} {b : Bool} (r : Rp Hf v d) (h : isListD d = true) (n : NwL b H0 Hf v) : NwV H0 v := by
  intro a e
  subst e
  cases r with
  | lst h1 h2 => exact (n _ _ rfl h1).1
  | tup => cases h
section
variable {K : PySem.W.Frag} {T : Addr} {H0 Hf0 Hf Hf' : Hp} {env : Env} {t t' : Int} {σ : L2.St} {H H' : Hp}
theorem Abs.dict (A : Abs K T H0 Hf0 Hf env t σ H) {i : Nat} {kvs : List (L2.Key × PyData)} (h : dictAt env i = some kvs) : ∃ l vs, σ[i]? = some (some (.ref l)) ∧ H l = some (.dK vs) ∧ KvAll Hf vs kvs ∧ (∀ n, env[i]? = some (some (.dk n kvs)) → n = true → ∀ p ∈ vs, NwV H0 p.2) := by
  unfold dictAt at h
  split at h
  · rename_i n kvs' e
    cases h
    obtain ⟨v, hs, l, vs, rfl, f1, f2, f3, f4⟩ := A.loc i _ e
    exact ⟨l, vs, hs, f2, f3, fun m e2 hm => by
      rw [e] at e2
      cases e2
      exact f4 hm⟩
  · rename_i kvs' e
    cases h
    obtain ⟨v, hs, l, vs, rfl, f1, f2⟩ := A.loc i _ e
    exact ⟨l, vs, hs, A.ex _ _ f1, f2, fun m e2 => by
      rw [e] at e2
      cases e2⟩
  · cases h
/-- a slot takes a thing of one's own that stands already -/
theorem Abs.setP (A : Abs K T H0 Hf0 Hf env t σ H) {i : Nat} {p : Addr} {lv : LV} (h0 : H0 p = none) (hm : lv.mut = true) (ok : LvOK K T H0 Hf H (.ref p) lv) (nm : ∀ (j : Nat) (l : LV), env[j]? = some (some l) → l.mut = true → σ[j]? ≠ some (some (.ref p))) :
    Abs K T H0 Hf0 Hf (env.set i (some lv)) t (σ.set i (some (.ref p))) H := by
  refine ⟨A.ex, A.kp, by rw [List.length_set, List.length_set]; exact A.len, fun j l h => ?_, fun j l a h hm' hs => ?_, fun j k l l' a n hj mj hk mk sj sk => ?_, A.tf, A.th, A.t0⟩
  · by_cases e : i = j
    · subst e
      have hi : i < env.length := by
        have := (List.getElem?_eq_some_iff.mp h).1
        rw [List.length_set] at this
        exact this
      rw [List.getElem?_set_self hi] at h
      cases h
      exact ⟨_, List.getElem?_set_self (by rw [A.len]; exact hi), ok⟩
    · rw [List.getElem?_set_ne e] at h
      rw [List.getElem?_set_ne e]
      exact A.loc j l h
  · by_cases e : i = j
    · subst e
      have hi : i < σ.length := by
        have := (List.getElem?_eq_some_iff.mp hs).1
        rw [List.length_set] at this
        exact this
      rw [List.getElem?_set_self hi] at hs
      cases hs
      exact h0
    · rw [List.getElem?_set_ne e] at h hs
      exact A.new j l a h hm' hs
  · have q : ∀ {m : Nat} {b : Addr}, i = m → (σ.set i (some (V.ref p)))[m]? = some (some (.ref b)) → b = p := fun {m b} e hs => by
      subst e
      have hi : i < σ.length := by
        have := (List.getElem?_eq_some_iff.mp hs).1
        rw [List.length_set] at this
        exact this
      rw [List.getElem?_set_self hi] at hs
      cases hs
      rfl
    by_cases ej : i = j
    · have ea := q ej sj
      subst ea
      have ek : i ≠ k := fun z => n (ej.symm.trans z)
      rw [List.getElem?_set_ne ek] at hk sk
      exact nm k l' hk mk sk
    · by_cases ek : i = k
      · have ea := q ek sk
        subst ea
        rw [List.getElem?_set_ne ej] at hj sj
        exact nm j l hj mj sj
      · rw [List.getElem?_set_ne ej] at hj sj
        rw [List.getElem?_set_ne ek] at hk sk
        exact A.sep j k l l' a n hj mj hk mk sj sk
end
section
variable {C : CallF} {W : Nat} {X : Cx} {a b c e : Expr} {es : List Expr} {ma mb mc m : M} {pos : Pos} {K : PySem.W.Frag} {T : Addr} {H0 Hf0 Hf : Hp} {env : Env} {t t1 t2 : Int} {σ : L2.St} {H : Hp} {st : Stmt} {sts : List Stmt} {s1 s2 : S}
/-! ### read -/
theorem ev_dict {f : PyData → List (L2.Key × PyData) → L2.Key → Option (PyData × Int)} {i : Nat} {x : PyData} {r : PyData × Int} (h : (match dictAt env i, keyD x with | some kvs, some k => f x kvs k | _, _ => none) = some r) : ∃ kvs k, dictAt env i = some kvs ∧ keyD x = some k ∧ f x kvs k = some r := by
  split at h
  · rename_i kvs k e1 e2
    exact ⟨kvs, k, e1, e2, h⟩
  · cases h
theorem sc_din (i : Nat) {x : Str} {p1 : Pos} (hu : X.A.units + 1 < cLine) (ha : SemE C X a ma) (hN : X.N[i]? = some x := by rfl) (hv : Vis X.env.scope x := by first | exact Or.inl rfl | exact Or.inr (Or.inl rfl) | exact Or.inr (Or.inr rfl)) (hd : (x == ("__debug__" : Str)) = false := by decide) (hcd : (x == ("__classdict__" : Str)) = false := by decide) :
    SemC C X (.Compare a [.In] [.Name x p1] pos) (.din false i ma) := by
  have rd : ∀ (T : Addr) (H0 Hf0 : Hp) (d : PyData) (t' : Int) (Hf : Hp) (env : Env) (t : Int) (σ : L2.St) (H : Hp) (Q : VK), Abs X.K T H0 Hf0 Hf env t σ H → ev C env (.din false i ma) t = some (d, t') → (∀ b Hf' H', d = .bool b → Abs X.K T H0 Hf0 Hf' env t' σ H' → Kp T Hf H Hf' H' → Q (.bl b) H') → tDIn (tE X.K C T H0 Hf0 ma) (tVar i) σ H Q := by
    intro T H0 Hf0 d t' Hf env t σ H Q A e k
    unfold ev at e
    split at e
    · rename_i x t1 e1
      obtain ⟨kvs, key, hk, hx, ez⟩ := ev_dict (f := fun x kvs k => some (PyData.bool (if false = true then !(lookD kvs k).isSome else (lookD kvs k).isSome), t1)) e
      cases ez
      refine ⟨Hf, env, t, x, _, A, e1, fun v Hf1 H1 A1 k1 r1 => ?_⟩
      obtain ⟨l, vs, hs, hl, hr, _⟩ := A1.dict hk
      refine ⟨_, hs, l, _, rfl, by rw [key_of r1 hx]; exact DGet.k hl, k _ _ _ ?_ A1 k1⟩
      rcases hr.look key with ⟨h1, h2⟩ | ⟨w, z, h1, h2, _⟩ <;> rw [h1, h2] <;> rfl
    · cases e
  refine ⟨⟨fun T H0 Hf0 => PE.imp (pe_cmp (pc_din hu (ha.run T H0 Hf0) (pe_var hN hv hd hcd))) fun σ H Q ⟨Hf, env, t, d, t', A, e, k⟩ => rd T H0 Hf0 d t' Hf env t σ H Q A e fun b Hf' H' ed A' k' => k _ _ _ A' k' (by rw [ed]; exact .bl b)⟩, ⟨fun T H0 Hf0 => PT.imp (pt_cmp (pc_din hu (ha.run T H0 Hf0) (pe_var hN hv hd hcd))) fun σ H Q ⟨Hf, env, t, d, t', A, e, k⟩ => rd T H0 Hf0 _ t' Hf env t σ H _ A e fun b Hf' H' ed A' k' => ?_⟩⟩
  cases ed
  exact ⟨_, rfl, k _ _ A' k'⟩
theorem sc_dnotin (i : Nat) {x : Str} {p1 : Pos} (hu : X.A.units + 1 < cLine) (ha : SemE C X a ma) (hN : X.N[i]? = some x := by rfl) (hv : Vis X.env.scope x := by first | exact Or.inl rfl | exact Or.inr (Or.inl rfl) | exact Or.inr (Or.inr rfl)) (hd : (x == ("__debug__" : Str)) = false := by decide) (hcd : (x == ("__classdict__" : Str)) = false := by decide) :
    SemC C X (.Compare a [.NotIn] [.Name x p1] pos) (.din true i ma) := by
  have rd : ∀ (T : Addr) (H0 Hf0 : Hp) (d : PyData) (t' : Int) (Hf : Hp) (env : Env) (t : Int) (σ : L2.St) (H : Hp) (Q : VK), Abs X.K T H0 Hf0 Hf env t σ H → ev C env (.din true i ma) t = some (d, t') → (∀ b Hf' H', d = .bool b → Abs X.K T H0 Hf0 Hf' env t' σ H' → Kp T Hf H Hf' H' → Q (.bl b) H') → tDNotIn (tE X.K C T H0 Hf0 ma) (tVar i) σ H Q := by
    intro T H0 Hf0 d t' Hf env t σ H Q A e k
    unfold ev at e
    split at e
    · rename_i x t1 e1
      obtain ⟨kvs, key, hk, hx, ez⟩ := ev_dict (f := fun x kvs k => some (PyData.bool (if true = true then !(lookD kvs k).isSome else (lookD kvs k).isSome), t1)) e
      cases ez
      refine ⟨Hf, env, t, x, _, A, e1, fun v Hf1 H1 A1 k1 r1 => ?_⟩
      obtain ⟨l, vs, hs, hl, hr, _⟩ := A1.dict hk
      refine ⟨_, hs, l, _, rfl, by rw [key_of r1 hx]; exact DGet.k hl, k _ _ _ ?_ A1 k1⟩
      rcases hr.look key with ⟨h1, h2⟩ | ⟨w, z, h1, h2, _⟩ <;> rw [h1, h2] <;> rfl
    · cases e
  refine ⟨⟨fun T H0 Hf0 => PE.imp (pe_cmp (pc_dnotin hu (ha.run T H0 Hf0) (pe_var hN hv hd hcd))) fun σ H Q ⟨Hf, env, t, d, t', A, e, k⟩ => rd T H0 Hf0 d t' Hf env t σ H Q A e fun b Hf' H' ed A' k' => k _ _ _ A' k' (by rw [ed]; exact .bl b)⟩, ⟨fun T H0 Hf0 => PT.imp (pt_cmp (pc_dnotin hu (ha.run T H0 Hf0) (pe_var hN hv hd hcd))) fun σ H Q ⟨Hf, env, t, d, t', A, e, k⟩ => rd T H0 Hf0 _ t' Hf env t σ H _ A e fun b Hf' H' ed A' k' => ?_⟩⟩
  cases ed
  exact ⟨_, rfl, k _ _ A' k'⟩
theorem dget_rd {i : Nat} {T : Addr} {H0 Hf0 : Hp} {d : PyData} {t' : Int} {Q : VK} (A : Abs K T H0 Hf0 Hf env t σ H) (e : ev C env (.dget i ma) t = some (d, t')) (k : ∀ v Hf' H', Abs K T H0 Hf0 Hf' env t' σ H' → Kp T Hf H Hf' H' → Rp Hf' v d → (∀ kvs, env[i]? = some (some (.dk true kvs)) → NwV H0 v) → Q v H') : tDGet (tVar i) (tE K C T H0 Hf0 ma) σ H Q := by
  unfold ev at e
  split at e
  · rename_i x t1 e1
    obtain ⟨kvs, key, hk, hx, ez⟩ := ev_dict (f := fun x kvs k => (lookD kvs k).map (·, t1)) e
    obtain ⟨z, gz, ez⟩ := map_some ez
    cases ez
    obtain ⟨l, vs, hs, hl, hr, hn⟩ := A.dict hk
    refine ⟨_, hs, Hf, env, t, x, _, A, e1, fun v Hf1 H1 A1 k1 r1 => ?_⟩
    obtain ⟨l', vs', hs', hl', hr', hn'⟩ := A1.dict hk
    rw [hs] at hs'
    cases hs'
    rcases hr'.look key with ⟨h1, h2⟩ | ⟨w, z', h1, h2, h3, p, hp, ep⟩
    · rw [h2] at gz
      cases gz
    · rw [h2] at gz
      cases gz
      refine ⟨l, w, rfl, by rw [key_of r1 hx, ← h1]; exact DGet.k hl', k _ _ _ A1 k1 h3 fun kvs2 e2 => ?_⟩
      have : kvs2 = kvs := by
        simp only [dictAt, e2] at hk
        exact Option.some.inj hk
      subst this
      rw [← ep]
      exact hn' _ e2 rfl p hp
  · cases e
theorem se_dget (i : Nat) {x : Str} {p1 : Pos} (hu : X.A.units + 1 < cLine) (ha : SemE C X a ma) (hs : NoSl a := by intro _ _; rfl) (hN : X.N[i]? = some x := by rfl) (hv : Vis X.env.scope x := by first | exact Or.inl rfl | exact Or.inr (Or.inl rfl) | exact Or.inr (Or.inr rfl)) (hd : (x == ("__debug__" : Str)) = false := by decide) (hcd : (x == ("__classdict__" : Str)) = false := by decide) :
    SemE C X (.Subscript (.Name x p1) a pos) (.dget i ma) :=
  ⟨fun T H0 Hf0 => PE.imp (pe_dget hu (pe_var hN hv hd hcd) (ha.run T H0 Hf0) hs) fun σ H Q ⟨Hf, env, t, d, t', A, e, k⟩ => dget_rd A e fun v Hf' H' A' k' r _ => k v Hf' H' A' k' r⟩
theorem se_dlen (i : Nat) {x y : Str} {p1 p2 : Pos} (hg : Gl X y) (hm : X.mg y = none) (hb : bootBuiltins y = some (.builtin "len")) (hN : X.N[i]? = some x := by rfl) (hv : Vis X.env.scope x := by first | exact Or.inl rfl | exact Or.inr (Or.inl rfl) | exact Or.inr (Or.inr rfl)) (hd : (x == ("__debug__" : Str)) = false := by decide) (hcd : (x == ("__classdict__" : Str)) = false := by decide) (hn : y ≠ "__name__" := by decide) (hdb : (y == ("__debug__" : Str)) = false := by decide)
    (he : starEach [.Name x p1] X.env = (false, eval (.Name x p1) X.env) :: starEach [] X.env := by rfl) : SemE C X (.Call (.Name y p2) [.Name x p1] [] pos) (.dlen i) :=
  ⟨fun T H0 Hf0 => PE.imp (pe_callB call_lenD hg hm hb (pa_cons (pe_var hN hv hd hcd) pa_nil he) hn hdb he) fun σ H Q ⟨Hf, env, t, d, t', A, e, k⟩ => by
    unfold ev at e
    obtain ⟨kvs, hk, ez⟩ := map_some e
    cases ez
    obtain ⟨l, vs, hs, hl, hr, _⟩ := A.dict hk
    exact ⟨_, hs, l, vs, rfl, hl, k _ _ _ A (Kp.refl _ _ _) (by rw [hr.len]; exact .int _)⟩⟩
theorem intKeys_map : ∀ {kvs : List (L2.Key × PyData)} {ks : List Int} {vs : List (L2.Key × V)} {Hf : Hp}, intKeys kvs = some ks → KvAll Hf vs kvs → vs.map (·.1) = ks.map Sum.inl
  | _, _, _, _, e, .nil => by
    cases e
    rfl
  | (.inl i, _) :: r, ks, _, _, e, .cons h hs => by
    unfold intKeys at e
    obtain ⟨q, e1, e2⟩ := map_some e
    subst e2
    rw [List.map_cons, List.map_cons, intKeys_map e1 hs]
theorem se_dsortedN (i : Nat) {x y : Str} {p1 p2 : Pos} (hc : X.calm = true) (hg : Gl X y) (hm : X.mg y = none) (hb : bootBuiltins y = some (.builtin "sorted")) (hN : X.N[i]? = some x := by rfl) (hv : Vis X.env.scope x := by first | exact Or.inl rfl | exact Or.inr (Or.inl rfl) | exact Or.inr (Or.inr rfl)) (hd : (x == ("__debug__" : Str)) = false := by decide) (hcd : (x == ("__classdict__" : Str)) = false := by decide) (hn : y ≠ "__name__" := by decide) (hdb : (y == ("__debug__" : Str)) = false := by decide)
    (he : starEach [.Name x p1] X.env = (false, eval (.Name x p1) X.env) :: starEach [] X.env := by rfl) : SemN C X (.Call (.Name y p2) [.Name x p1] [] pos) (.dsorted i) (NwL false) :=
  ⟨fun T H0 Hf0 => PE.imp (pe_callB (call_sortedDI hc) hg hm hb (pa_cons (pe_var hN hv hd hcd) pa_nil he) hn hdb he) fun σ H Q ⟨Hf, env, t, d, t', A, e, k⟩ => by
    unfold ev at e
    split at e
    · rename_i kvs hk
      split at e
      · rename_i ks hks
        split at e
        · rename_i h64
          cases e
          obtain ⟨l, vs, hs, hl, hr, _⟩ := A.dict hk
          refine ⟨_, hs, l, vs, ks, rfl, .inl hl, intKeys_map hks hr, h64, fun ys p hp hs hn => ?_⟩
          rw [sortI_uniq hp hs]
          have ad : Ad Hf H (upd Hf p (.lst ((sortI ks).map V.int))) (upd H p (.lst ((sortI ks).map V.int))) := .new p _ hn
          exact k (.ref p) _ _ (ad.abs A).1 (ad.abs A).2 (.lst upd_same (rp_ints _)) fun g ws e1 e2 => by
            cases e1
            exact ⟨(A.fresh hn).2.1, fun z => by cases z⟩
        · cases e
      · cases e
    · cases e⟩
theorem SemN.sem {P : Hp → Hp → V → Prop} (h : SemN C X e m P) : SemE C X e m := ⟨fun T H0 Hf0 => PE.imp (h.run T H0 Hf0) fun σ H Q ⟨Hf, env, t, d, t', A, e, k⟩ => ⟨Hf, env, t, d, t', A, e, fun v Hf' H' A' k' r _ => k v Hf' H' A' k' r⟩⟩
/-! ### new lists -/
theorem lst_newL {b : Bool} {p : Addr} {vs : List V} {Hx : Hp} (h : H0 p = none) (hb : b = true → ∀ x ∈ vs, NwV H0 x) (e : Hx p = some (.lst vs)) : NwL b H0 Hx (.ref p) := fun g ws e1 e2 => by
  cases e1
  rw [e] at e2
  cases e2
  exact ⟨h, hb⟩
theorem se_lstN (h : SemA C X es m) : SemN C X (.List es pos) (.lst m) (NwL false) :=
  ⟨fun T H0 Hf0 => PE.imp (pe_lst (h.run T H0 Hf0)) fun σ H Q ⟨Hf, env, t, d, t', A, e, k⟩ => by
    unfold ev at e
    split at e
    · rename_i lvs t1 e1
      split at e
      · rename_i ds e2
        split at e
        · rename_i hl
          cases e
          refine ⟨Hf, env, t, lvs, _, A, e1, fun vs Hf1 H1 A1 k1 r1 => ?_⟩
          have rr := args_data r1 e2
          refine ⟨by rw [rr.len]; exact le1000 hl, fun p hp => ?_⟩
          have ad : Ad Hf1 H1 (upd Hf1 p (.lst vs)) (upd H1 p (.lst vs)) := .new p _ hp
          exact k _ _ _ (ad.abs A1).1 (k1.trans (ad.abs A1).2) (.lst upd_same (RpAll.mono (Ex.new (ex_none A1.ex hp)) _ _ rr)) (lst_newL (A1.fresh hp).2.1 (fun z => by cases z) upd_same)
        · cases e
      · cases e
    · cases e⟩
theorem op_addN : OpR X (binaryOp .Add) (fun x y H Q => ∃ Hf d e z, Ex Hf H ∧ Rp Hf x d ∧ Rp Hf y e ∧ addD d e = some z ∧ ∀ v Hf' H', Ad Hf H Hf' H' → Rp Hf' v z → (∀ g vs, v = .ref g → Hf' g = some (.lst vs) → H g = none) → Q v H') := by
  refine OpR.imp ((((op_add.or op_add_str).or op_cat).or op_catA).or op_catS) fun x y H Q h => ?_
  obtain ⟨Hf, d, e, z, ex, rx, ry, g, q⟩ := h
  cases rx with
  | int i =>
    cases ry with
    | int j =>
      cases g
      exact .inl (.inl (.inl (.inl ⟨i, j, rfl, rfl, q _ _ _ .refl (.int _) fun g vs e => by cases e⟩)))
    | _ => cases g
  | str i =>
    cases ry with
    | str j =>
      simp only [addD] at g
      split at g
      · cases g
        exact .inl (.inl (.inl (.inr ⟨i, j, rfl, rfl, by assumption, q _ _ _ .refl (.str _) fun g vs e => by cases e⟩)))
      · cases g
    | _ => cases g
  | lst h hs =>
    cases ry with
    | lst k ks =>
      simp only [addD] at g
      split at g
      · cases g
        refine .inl (.inl (.inr ⟨_, _, _, _, rfl, rfl, ex _ _ h, ex _ _ k, by rw [hs.len, ks.len]; assumption, fun p hp => ?_⟩))
        exact q _ _ _ (.new p _ hp) (.lst upd_same (RpAll.mono (Ex.new (ex_none ex hp)) _ _ (hs.append ks))) fun g vs e _ => by
          cases e
          exact hp
      · cases g
    | _ => cases g
  | tup h hd hs =>
    cases ry with
    | tup k kd ks =>
      simp only [addD] at g
      split at g
      · cases g
        rename_i xs ds _ _ ys es hz
        by_cases e1 : xs = []
        · subst e1
          cases hs
          refine .inl (.inr ⟨_, _, _, _, rfl, rfl, .inl (.inr ⟨_, ex _ _ h⟩), .inl (.inr ⟨_, ex _ _ k⟩), by rw [ks.len]; simpa using hz, fun _ => ?_, fun z => absurd rfl z, fun z => absurd rfl z⟩)
          refine q _ _ _ .refl (.tup k kd ks) fun g vs e1 e2 => ?_
          cases e1
          rw [k] at e2
          cases e2
        · by_cases e2 : ys = []
          · subst e2
            cases ks
            refine .inl (.inr ⟨_, _, _, _, rfl, rfl, .inl (.inr ⟨_, ex _ _ h⟩), .inl (.inr ⟨_, ex _ _ k⟩), by rw [hs.len]; simpa using hz, fun z => absurd z e1, fun _ _ => ?_, fun _ z => absurd rfl z⟩)
            simp only [List.append_nil] at q
            refine q _ _ _ .refl (.tup h hd (by simpa using hs)) fun g vs e1 e2 => ?_
            cases e1
            rw [h] at e2
            cases e2
          · refine .inr ⟨_, _, _, _, rfl, rfl, .inl (.inr ⟨_, ex _ _ h⟩), .inl (.inr ⟨_, ex _ _ k⟩), e1, e2, by rw [hs.len, ks.len]; exact hz, fun p o hp ho => ?_⟩
            refine q _ _ _ (.new p _ hp) (.tup upd_same ho (RpAll.mono (Ex.new (ex_none ex hp)) _ _ (hs.append ks))) fun g vs e1 e2 => ?_
            cases e1
            rw [upd_same] at e2
            cases e2
      · cases g
    | _ => cases g
  | _ => cases g
theorem se_addN (ha : SemE C X a ma) (hb : SemE C X b mb) : SemN C X (.BinOp a .Add b pos) (.bin .add ma mb) (NwL false) :=
  ⟨fun T H0 Hf0 => PE.imp (pe_op op_addN (ha.run T H0 Hf0) (hb.run T H0 Hf0)) fun σ H Q ⟨Hf, env, t, d, t', A, e, k⟩ => by
    unfold ev at e
    obtain ⟨d1, t1, d2, t2, e1, e2, g⟩ := ev2 (f := fun x y t2 => (binD .add x y).map (·, t2)) e
    obtain ⟨z, gz, ez⟩ := map_some g
    cases ez
    exact two A e1 e2 fun v1 v2 Hf2 H2 A2 k2 r1 r2 => ⟨Hf2, d1, d2, d, A2.ex, r1, r2, gz, fun v Hf' H' ad r n => k v Hf' H' (ad.abs A2).1 (k2.trans (ad.abs A2).2) r fun g vs e1 e2 => ⟨A2.kp.back (n g vs e1 e2), fun z => by cases z⟩⟩⟩
theorem se_dgetN (i : Nat) {x : Str} {p1 : Pos} (hu : X.A.units + 1 < cLine) (ha : SemE C X a ma) (hs : NoSl a := by intro _ _; rfl) (hN : X.N[i]? = some x := by rfl) (hv : Vis X.env.scope x := by first | exact Or.inl rfl | exact Or.inr (Or.inl rfl) | exact Or.inr (Or.inr rfl)) (hd : (x == ("__debug__" : Str)) = false := by decide) (hcd : (x == ("__classdict__" : Str)) = false := by decide) :
    SemN C X (.Subscript (.Name x p1) a pos) (.dget i ma) (fun H0 Hx v => True) :=
  ⟨fun T H0 Hf0 => PE.imp (pe_dget hu (pe_var hN hv hd hcd) (ha.run T H0 Hf0) hs) fun σ H Q ⟨Hf, env, t, d, t', A, e, k⟩ => dget_rd A e fun v Hf' H' A' k' r _ => k v Hf' H' A' k' r True.intro⟩
/-! ### written -/
theorem ss_new0 (i : Nat) {x : Str} {pos' p2 : Pos} (hN : X.N.Nodup) (hi : X.N[i]? = some x := by rfl) (hx : Loc X.env.scope x := by first | exact Or.inl rfl | exact Or.inr rfl) (hf : X.fn x = true ∨ X.env.scope.names.lookup x = some .local := by first | exact Or.inl rfl | exact Or.inr rfl)
    (hs : swapsWith (.Dict [] [] p2) (some (.Name x pos')) pos.line X.env = pure false := by rfl) : SemS C W X (.Assign [.Name x pos'] (.Dict [] [] p2) pos) (.new0 i false) :=
  ⟨fun T H0 Hf0 => PS.imp (ps_set hN hi hx pe_dnewK hs hf) fun D σ H ⟨Hf, env, t, o, A, e, k⟩ => by
    unfold exs at e
    split at e
    · cases e
      exact fun p hp => k _ _ _ (A.setM hp rfl ⟨p, [], rfl, (A.fresh hp).1, upd_same, .nil, fun _ q hq => by cases hq⟩) (Ex.refl _)
    · cases e⟩
/-- {k: v} -/
theorem ss_newK (i : Nat) {b : Bool} {x : Str} {ek ev' : Expr} {mk mv : M} {pos' p2 : Pos} (hN : X.N.Nodup) (hk : SemE C X ek mk) (hv : SemN C X ev' mv (NwL b)) (hi : X.N[i]? = some x := by rfl) (hx : Loc X.env.scope x := by first | exact Or.inl rfl | exact Or.inr rfl) (hf : X.fn x = true ∨ X.env.scope.names.lookup x = some .local := by first | exact Or.inl rfl | exact Or.inr rfl)
    (hs : swapsWith (.Dict [some ek] [ev'] p2) (some (.Name x pos')) pos.line X.env = pure false := by rfl) : SemS C W X (.Assign [.Name x pos'] (.Dict [some ek] [ev'] p2) pos) (.newK i mk mv) :=
  ⟨fun T H0 Hf0 => PS.imp (ps_set hN hi hx (pe_disp (pps_cons (hk.run T H0 Hf0) (hv.run T H0 Hf0) pps_nil) rfl rfl (by simp) (by simp)) hs hf) fun D σ H ⟨Hf, env, t, o, A, e, k⟩ => by
    unfold exs at e
    split at e
    · rename_i x1 t1 e1
      split at e
      · rename_i y t2 e2
        split at e
        · rename_i key ek
          split at e
          · rename_i hc
            cases e
            intro p hp
            obtain ⟨f1, f2, f3⟩ := A.fresh hp
            have nm := A.notmut hp
            refine ⟨Hf, env, t, x1, t1, A.other f3 f1 f2 nm, e1, fun v1 Hf1 H1 A1 k1 r1 => ⟨Hf1, env, t1, y, _, A1, e2, fun v2 Hf2 H2 A2 k2 r2 n2 => ?_⟩⟩
            have kk := k1.trans k2
            have hpD : H2 p = some (.dK []) := kk.same p _ f3 upd_same
            have hpF : Hf2 p = none := kk.away p _ upd_same f1
            have hw : NwV H0 v2 := by
              rcases Bool.or_eq_true_iff.mp hc.2 with h | h
              · exact flat_new r2 h
              · exact list_new r2 h n2
            refine ⟨hpD, [(key, v2)], by rw [key_of r1 ek]; rfl, by simp, ?_⟩
            have B := A2.other (o := .dK (mergeK [] [(key, v2)])) f3 hpF f2 nm
            refine k _ _ _ (B.setP f2 rfl ⟨p, _, rfl, hpF, upd_same, ?_, fun _ q hq => ?_⟩ nm) kk.ex
            · exact .cons r2 .nil
            · have hq : q ∈ [(key, v2)] := hq
              rw [List.mem_singleton.mp hq]
              exact hw
          · cases e
        · cases e
      · cases e
    · cases e⟩
/-- dict(d) -/
theorem ss_newD (i j : Nat) {x y z : Str} {pos' p1 p2 p3 : Pos} (hN : X.N.Nodup) (hg : Gl X z) (hm : X.mg z = none) (hb : bootBuiltins z = some (.type "dict")) (hi : X.N[i]? = some x := by rfl) (hx : Loc X.env.scope x := by first | exact Or.inl rfl | exact Or.inr rfl) (hf : X.fn x = true ∨ X.env.scope.names.lookup x = some .local := by first | exact Or.inl rfl | exact Or.inr rfl)
    (hj : X.N[j]? = some y := by rfl) (hv : Vis X.env.scope y := by first | exact Or.inl rfl | exact Or.inr (Or.inl rfl) | exact Or.inr (Or.inr rfl)) (hd : (y == ("__debug__" : Str)) = false := by decide) (hcd : (y == ("__classdict__" : Str)) = false := by decide) (hn : z ≠ "__name__" := by decide) (hdb : (z == ("__debug__" : Str)) = false := by decide)
    (he : starEach [.Name y p1] X.env = (false, eval (.Name y p1) X.env) :: starEach [] X.env := by rfl) (hs : swapsWith (.Call (.Name z p2) [.Name y p1] [] p3) (some (.Name x pos')) pos.line X.env = pure false := by rfl) : SemS C W X (.Assign [.Name x pos'] (.Call (.Name z p2) [.Name y p1] [] p3) pos) (.newD i j) :=
  ⟨fun T H0 Hf0 => PS.imp (ps_set hN hi hx (pe_callTy call_dictD hg hm hb (pa_cons (pe_var hj hv hd hcd) pa_nil he) hn hdb he) hs hf) fun D σ H ⟨Hf, env, t, o, A, e, k⟩ => by
    unfold exs at e
    split at e
    · rename_i kvs hx
      split at e
      · cases e
        obtain ⟨v, hs, l, vs, rfl, f1, f2⟩ := A.loc j _ hx
        exact ⟨_, hs, l, vs, rfl, .inl (A.ex _ _ f1), fun p hp => k _ _ _ (A.setM hp rfl ⟨p, vs, rfl, (A.fresh hp).1, upd_same, f2, fun z => by cases z⟩) (Ex.refl _)⟩
      · cases e
    · cases e⟩
theorem sb_frzD (i : Nat) (h2 : SemB C W X sts s2) : SemB C W X sts (.seq (.frzD i) s2) := ⟨fun T H0 Hf0 => PSs.imp (h2.run T H0 Hf0) fun D σ H ⟨Hf, env, t, o, A, e, k⟩ => by
  rw [x_seq, x_frzD] at e
  split at e
  · rename_i env1 t1 e0
    split at e0
    · rename_i n kvs hx
      cases e0
      obtain ⟨Hf', ex, A'⟩ := A.freezeD hx
      exact ⟨Hf', _, t, o, A', e, k.mono ex⟩
    · cases e0
  · rename_i h
    split at e
    · rename_i n kvs hx
      exact (h _ _ (by rw [hx])).elim
    · cases e⟩
theorem dput_rd {i : Nat} {n : Bool} {kvs : List (L2.Key × PyData)} {vs : List (L2.Key × V)} {l : Addr} {v : V} {x y : PyData} {key : L2.Key} {w : V} (A : Abs K T H0 Hf0 Hf env t σ H) (hx : env[i]? = some (some (.dk n kvs))) (hs : σ[i]? = some (some (.ref l))) (hl : H l = some (.dK vs)) (hr : KvAll Hf vs kvs) (hf : Hf l = none) (hw : n = true → ∀ p ∈ vs, NwV H0 p.2) (rv : Rp Hf v y) (hv : n = true → NwV H0 v) :
    Abs K T H0 Hf0 Hf (env.set i (some (.dk n (putD kvs key y)))) t σ (upd H l (.dK (putK vs key v))) :=
  A.write hx rfl hs hf rfl ⟨l, _, rfl, hf, upd_same, hr.put rv, fun hn => put_new (hw hn) (hv hn)⟩
theorem ss_dput (i : Nat) {x : Str} {ek ev' : Expr} {mk mv : M} {pos' p1 : Pos} (hu : X.A.units + 1 < cLine) (hk : SemE C X ek mk) (hv : SemE C X ev' mv) (hN : X.N[i]? = some x := by rfl) (hvi : Vis X.env.scope x := by first | exact Or.inl rfl | exact Or.inr (Or.inl rfl) | exact Or.inr (Or.inr rfl)) (hd : (x == ("__debug__" : Str)) = false := by decide) (hcd : (x == ("__classdict__" : Str)) = false := by decide)
    (hs : swapsWith ev' (some (.Subscript (.Name x p1) ek pos')) pos.line X.env = pure false := by rfl) : SemS C W X (.Assign [.Subscript (.Name x p1) ek pos'] ev' pos) (.dput i mk mv) :=
  ⟨fun T H0 Hf0 => PS.imp (ps_dput hu (pe_var hN hvi hd hcd) (hk.run T H0 Hf0) (hv.run T H0 Hf0) hs) fun D σ H ⟨Hf, env, t, o, A, e, q⟩ => by
    unfold exs at e
    split at e
    · rename_i y t1 e1
      split at e
      · rename_i x1 t2 e2
        split at e
        · rename_i n kvs hx
          split at e
          · rename_i key ek
            split at e
            · rename_i hc
              cases e
              obtain ⟨v0, hs0, l, vs0, rfl, _⟩ := A.loc i _ hx
              refine ⟨Hf, env, t, y, t1, A, e1, fun v1 Hf1 H1 A1 k1 r1 => ⟨_, hs0, Hf1, env, t1, x1, _, A1, e2, fun v2 Hf2 H2 A2 k2 r2 => ?_⟩⟩
              obtain ⟨v', hs', l', vs, e', f1, f2, f3, f4⟩ := A2.loc i _ hx
              rw [hs0] at hs'
              cases hs'
              cases e'
              refine ⟨l, _, rfl, by rw [key_of r2 ek]; exact DPut.k f2 (by rw [f3.len]; exact hc.1), q _ _ _ (dput_rd (x := x1) (w := v2) A2 hx hs0 f2 f3 f1 f4 (Rp.mono k2.ex _ _ r1) fun hn => ?_) (k1.trans k2).ex⟩
              subst hn
              exact flat_new r1 (by simpa using hc.2)
            · cases e
          · cases e
        · cases e
      · cases e
    · cases e⟩
theorem ss_dputN (i : Nat) {b : Bool} {x : Str} {ek ev' : Expr} {mk mv : M} {pos' p1 : Pos} (hu : X.A.units + 1 < cLine) (hk : SemE C X ek mk) (hv : SemN C X ev' mv (NwL b)) (hN : X.N[i]? = some x := by rfl) (hvi : Vis X.env.scope x := by first | exact Or.inl rfl | exact Or.inr (Or.inl rfl) | exact Or.inr (Or.inr rfl)) (hd : (x == ("__debug__" : Str)) = false := by decide) (hcd : (x == ("__classdict__" : Str)) = false := by decide)
    (hs : swapsWith ev' (some (.Subscript (.Name x p1) ek pos')) pos.line X.env = pure false := by rfl) : SemS C W X (.Assign [.Subscript (.Name x p1) ek pos'] ev' pos) (.dputN i mk mv) :=
  ⟨fun T H0 Hf0 => PS.imp (ps_dput hu (pe_var hN hvi hd hcd) (hk.run T H0 Hf0) (hv.run T H0 Hf0) hs) fun D σ H ⟨Hf, env, t, o, A, e, q⟩ => by
    unfold exs at e
    split at e
    · rename_i y t1 e1
      split at e
      · rename_i x1 t2 e2
        split at e
        · rename_i n kvs hx
          split at e
          · rename_i key ek
            split at e
            · rename_i hc
              cases e
              obtain ⟨v0, hs0, l, vs0, rfl, _⟩ := A.loc i _ hx
              refine ⟨Hf, env, t, y, t1, A, e1, fun v1 Hf1 H1 A1 k1 r1 n1 => ⟨_, hs0, Hf1, env, t1, x1, _, A1, e2, fun v2 Hf2 H2 A2 k2 r2 => ?_⟩⟩
              obtain ⟨v', hs', l', vs, e', f1, f2, f3, f4⟩ := A2.loc i _ hx
              rw [hs0] at hs'
              cases hs'
              cases e'
              exact ⟨l, _, rfl, by rw [key_of r2 ek]; exact DPut.k f2 (by rw [f3.len]; exact hc.1), q _ _ _ (dput_rd (x := x1) (w := v2) A2 hx hs0 f2 f3 f1 f4 (Rp.mono k2.ex _ _ r1) fun hn => list_new r1 hc.2 n1) (k1.trans k2).ex⟩
            · cases e
          · cases e
        · cases e
      · cases e
    · cases e⟩
theorem se_lrange {p p2 pos2 : Pos} (hc : X.calm = true) (hg : Gl X "list") (hm : X.mg "list" = none) (hg2 : Gl X "range") (hm2 : X.mg "range" = none) (h : SemE C X e m) (hs : starEach [e] X.env = (false, eval e X.env) :: starEach [] X.env := by rfl)
    (hs2 : starEach [.Call (.Name "range" p2) [e] [] pos2] X.env = (false, eval (.Call (.Name "range" p2) [e] [] pos2) X.env) :: starEach [] X.env := by rfl) : SemE C X (.Call (.Name "list" p) [.Call (.Name "range" p2) [e] [] pos2] [] pos) (.lrange m) :=
  ⟨fun T H0 Hf0 => PE.imp (pe_listRg hc hg hm (prg_1 hg2 hm2 (h.run T H0 Hf0) hs) hs2) fun σ H Q ⟨Hf, env, t, d, t', A, e, k⟩ => by
    unfold ev at e
    split at e
    · rename_i n t1 e1
      split at e
      · rename_i hn
        cases e
        refine ⟨Hf, env, t, _, _, A, e1, fun v Hf1 H1 A1 k1 r1 => ?_⟩
        cases r1
        refine ⟨n, rfl, RgOk.of_le (by omega) (by omega) (by omega) (by omega), fun q hq => ?_⟩
        have e2 : rgV 0 n = (List.range n.toNat).map fun (i : Nat) => V.int (i : Int) := by
          unfold rgV
          rw [Int.sub_zero]
          exact List.map_congr_left fun i _ => by rw [Int.zero_add]
        have ad : Ad Hf1 H1 (upd Hf1 q (.lst (rgV 0 n))) (upd H1 q (.lst (rgV 0 n))) := .new q _ hq
        exact k _ _ _ (ad.abs A1).1 (k1.trans (ad.abs A1).2) (.lst upd_same (by rw [e2]; exact rp_intf (fun i => (i : Int)) _))
      · cases e
    · cases e⟩
theorem se_intN {i : Int} {j} : SemN C X (.Constant (.int i) j pos) (.lit (.int i)) (NwL false) := ⟨fun T H0 Hf0 => PE.imp pe_int fun σ H Q ⟨Hf, env, t, d, t', A, e, k⟩ => by
  unfold ev at e
  cases e
  exact k _ _ _ A (Kp.refl _ _ _) (.int i) fun g vs e1 => by cases e1⟩
/-! ### the links in short words -/
theorem ywhileL (i : Nat) {x : Str} {p1 : Pos} {body : List Stmt} (hb : SemB C W X body s1) (hp : PassesOwn (model X.prog X.w) X.A X.env X.xe := by exact PassesOwn.never) (hN : X.N[i]? = some x := by rfl) (hv : Vis X.env.scope x := by first | exact Or.inl rfl | exact Or.inr (Or.inl rfl) | exact Or.inr (Or.inr rfl)) (hd : (x == ("__debug__" : Str)) = false := by decide) (hcd : (x == ("__classdict__" : Str)) = false := by decide)
    (he : ∀ whole, isTrue (.Name x p1) X.env whole = (do let v ← whole; standAt (Expr.Name x p1).pos; holding [v] (truthy v)) := by intro _; rfl) : SemS C W X (.While (.Name x p1) body [] pos) (.whileL i s1) := ss_whileL i hp hN hv hb hd hcd he
end
end Pl

set_option Elab.async false
set_option linter.all false
set_option maxRecDepth 100000
set_option maxHeartbeats 4000000
namespace Lw
open PySem PySem.Spec PyProof.Rows L2 Pl
/-! ### the text, by places -/
def topS (i : Nat) : Stmt := PySem.Challenge.pw_placesay_k09_true_by_trying.main.body.getD i (.Pass ⟨0, 0, 0, 0⟩)
abbrev ssubsets : Stmt := topS 1
abbrev nsubsets : List Str := ["size", "found", "place", "chosen"]
abbrev psubsets : List Str := ["size"]
theorem scsubsets : FnScope nsubsets psubsets (defScope ssubsets) := ⟨rfl, rfl, rfl, by decide +kernel, rfl, by decide +kernel, by decide +kernel⟩
abbrev splainly : Stmt := topS 2
abbrev nplainly : List Str := ["saying", "word", "given", "one", "other"]
abbrev pplainly : List Str := ["saying", "word", "given"]
theorem scplainly : FnScope nplainly pplainly (defScope splainly) := ⟨rfl, rfl, rfl, by decide +kernel, rfl, by decide +kernel, by decide +kernel⟩
abbrev strue_within : Stmt := topS 3
abbrev ntrue_within : List Str := ["saying", "word", "given", "some", "thing", "inner"]
abbrev ptrue_within : List Str := ["saying", "word", "given"]
theorem sctrue_within : FnScope ntrue_within ptrue_within (defScope strue_within) := ⟨rfl, rfl, rfl, by decide +kernel, rfl, by decide +kernel, by decide +kernel⟩
abbrev strue_of : Stmt := topS 4
abbrev ntrue_of : List Str := ["saying", "word"]
abbrev ptrue_of : List Str := ["saying", "word"]
theorem sctrue_of : FnScope ntrue_of ptrue_of (defScope strue_of) := ⟨rfl, rfl, rfl, by decide +kernel, rfl, by decide +kernel, by decide +kernel⟩
abbrev slaw_draw : Stmt := topS 6
abbrev nlaw_draw : List Str := ["_law_script", "_law_tape", "_law_many", "_law_seed", "_law_cell"]
abbrev plaw_draw : List Str := ["_law_script", "_law_tape", "_law_many"]
theorem sclaw_draw : FnScope nlaw_draw plaw_draw (defScope slaw_draw) := ⟨rfl, rfl, rfl, by decide +kernel, rfl, by decide +kernel, by decide +kernel⟩
abbrev slaw_marks : Stmt := topS 7
abbrev nlaw_marks : List Str := ["_law_script", "_law_tape", "_law_many", "_law_signs", "_law_at", "_law_step", "_law_k"]
abbrev plaw_marks : List Str := ["_law_script", "_law_tape", "_law_many"]
theorem sclaw_marks : FnScope nlaw_marks plaw_marks (defScope slaw_marks) := ⟨rfl, rfl, rfl, by decide +kernel, rfl, by decide +kernel, by decide +kernel⟩
abbrev slaw_world : Stmt := topS 8
abbrev nlaw_world : List Str := ["_law_script", "_law_tape", "_law_many", "_law_signs", "_law_begin", "_law_names", "_law_way", "_law_name", "_law_k"]
abbrev plaw_world : List Str := ["_law_script", "_law_tape"]
theorem sclaw_world : FnScope nlaw_world plaw_world (defScope slaw_world) := ⟨rfl, rfl, rfl, by decide +kernel, rfl, by decide +kernel, by decide +kernel⟩
abbrev slaw_near : Stmt := topS 9
abbrev nlaw_near : List Str := ["_law_scope", "_law_sort", "_law_seen", "_law_found", "_law_name", "_law_kind"]
abbrev plaw_near : List Str := ["_law_scope", "_law_sort"]
theorem sclaw_near : FnScope nlaw_near plaw_near (defScope slaw_near) := ⟨rfl, rfl, rfl, by decide +kernel, rfl, by decide +kernel, by decide +kernel⟩
abbrev slaw_plain : Stmt := topS 10
abbrev nlaw_plain : List Str := ["_law_script", "_law_tape", "_law_letters", "_law_scope", "_law_places", "_law_sets_here", "_law_one", "_law_other", "_law_way"]
abbrev plaw_plain : List Str := ["_law_script", "_law_tape", "_law_letters", "_law_scope"]
theorem sclaw_plain : FnScope nlaw_plain plaw_plain (defScope slaw_plain) := ⟨rfl, rfl, rfl, by decide +kernel, rfl, by decide +kernel, by decide +kernel⟩
abbrev slaw_saying : Stmt := topS 11
abbrev nlaw_saying : List Str := ["_law_script", "_law_tape", "_law_world_here", "_law_scope", "_law_deep", "_law_way", "_law_name", "_law_sort", "_law_letters", "_law_names", "_law_one"]
abbrev plaw_saying : List Str := ["_law_script", "_law_tape", "_law_world_here", "_law_scope", "_law_deep"]
theorem sclaw_saying : FnScope nlaw_saying plaw_saying (defScope slaw_saying) := ⟨rfl, rfl, rfl, by decide +kernel, rfl, by decide +kernel, by decide +kernel⟩
abbrev slaw_sets : Stmt := topS 12
abbrev nlaw_sets : List Str := ["_law_size", "_law_found", "_law_place", "_law_chosen"]
abbrev plaw_sets : List Str := ["_law_size"]
theorem sclaw_sets : FnScope nlaw_sets plaw_sets (defScope slaw_sets) := ⟨rfl, rfl, rfl, by decide +kernel, rfl, by decide +kernel, by decide +kernel⟩
abbrev slaw_true : Stmt := topS 13
abbrev nlaw_true : List Str := ["_law_saying_here", "_law_word", "_law_given", "_law_one", "_law_other", "_law_k", "_law_some", "_law_name", "_law_thing"]
abbrev plaw_true : List Str := ["_law_saying_here", "_law_word", "_law_given"]
theorem sclaw_true : FnScope nlaw_true plaw_true (defScope slaw_true) := ⟨rfl, rfl, rfl, by decide +kernel, rfl, by decide +kernel, by decide +kernel⟩
abbrev slaw_sets_around : Stmt := topS 14
abbrev nlaw_sets_around : List Str := ["_law_saying_here", "_law_part"]
abbrev plaw_sets_around : List Str := ["_law_saying_here"]
theorem sclaw_sets_around : FnScope nlaw_sets_around plaw_sets_around (defScope slaw_sets_around) := ⟨rfl, rfl, rfl, by decide +kernel, rfl, by decide +kernel, by decide +kernel⟩
abbrev slaw : Stmt := topS 15
def sigA : Str := Str.ofString "0123456789abcdefghijklmnopqrstuvwxyzABCDEFGHIJKLMNOPQRSTUVWXYZ"
def sigB : Str := Str.ofString "#$&'()*+,-./:;<=>?\x40[]^_{|}~! \"\\`"
def fsubsets : FnM := ⟨1, 4, (.seq (.asg (.nm 1) (.lst (.cons (.lst .nil) .nil))) (.seq (.for .range (.var 0) (.nm 2) (.asg (.nm 1) (.bin .add (.var 1) (.lc .seq (.var 1) (.nm 3) [3] (.lit (.bool true)) (.bin .add (.var 3) (.lst (.cons (.var 2) .nil))))))) (.ret (.var 1))))⟩
def fplainly : FnM := ⟨3, 5, (.seq (.asg (.nm 3) (.dget 2 (.idx (.var 0) (.lit (.int 1))))) (.seq (.ife (.cmp .eq (.idx (.var 0) (.lit (.int 0))) (.lit (.str (Str.ofString "letter")))) (.ret (.cmp .eq (.idx (.var 1) (.var 3)) (.idx (.var 0) (.lit (.int 2))))) .nop) (.seq (.asg (.nm 4) (.dget 2 (.idx (.var 0) (.lit (.int 2))))) (.seq (.ife (.cmp .eq (.idx (.var 0) (.lit (.int 0))) (.lit (.str (Str.ofString "ahead")))) (.ret (.cmp .lt (.var 3) (.var 4))) .nop) (.seq (.ife (.cmp .eq (.idx (.var 0) (.lit (.int 0))) (.lit (.str (Str.ofString "same")))) (.ret (.cmp .eq (.var 3) (.var 4))) .nop) (.ret (.cmp .isin (.var 3) (.var 4))))))))⟩
def ftrue_within : FnM := ⟨3, 6, (.seq (.ife (.cmp .eq (.idx (.var 0) (.lit (.int 0))) (.lit (.str (Str.ofString "not")))) (.ret (.not (.call 2 (.cons (.idx (.var 0) (.lit (.int 1))) (.cons (.var 1) (.cons (.tape 2) .nil)))))) .nop) (.seq (.ife (.cmp .eq (.idx (.var 0) (.lit (.int 0))) (.lit (.str (Str.ofString "and")))) (.ret (.and (.call 2 (.cons (.idx (.var 0) (.lit (.int 1))) (.cons (.var 1) (.cons (.tape 2) .nil)))) (.call 2 (.cons (.idx (.var 0) (.lit (.int 2))) (.cons (.var 1) (.cons (.tape 2) .nil)))))) .nop) (.seq (.ife (.cmp .eq (.idx (.var 0) (.lit (.int 0))) (.lit (.str (Str.ofString "or")))) (.ret (.or (.call 2 (.cons (.idx (.var 0) (.lit (.int 1))) (.cons (.var 1) (.cons (.tape 2) .nil)))) (.call 2 (.cons (.idx (.var 0) (.lit (.int 2))) (.cons (.var 1) (.cons (.tape 2) .nil)))))) .nop) (.seq (.ife (.and (.cmp .ne (.idx (.var 0) (.lit (.int 0))) (.lit (.str (Str.ofString "place")))) (.cmp .ne (.idx (.var 0) (.lit (.int 0))) (.lit (.str (Str.ofString "set"))))) (.ret (.call 1 (.cons (.var 0) (.cons (.var 1) (.cons (.tape 2) .nil))))) .nop) (.seq (.asg (.nm 3) (.lrange (.blt .len (.cons (.var 1) .nil)))) (.seq (.ife (.cmp .eq (.idx (.var 0) (.lit (.int 0))) (.lit (.str (Str.ofString "set")))) (.asg (.nm 3) (.call 0 (.cons (.blt .len (.cons (.var 1) .nil)) .nil))) .nop) (.seq (.for .seq (.var 3) (.nm 4) (.seq (.newD 5 2) (.seq (.dput 5 (.idx (.var 0) (.lit (.int 1))) (.var 4)) (.seq (.frzD 5) (.ife (.call 2 (.cons (.idx (.var 0) (.lit (.int 2))) (.cons (.var 1) (.cons (.tape 5) .nil)))) (.ret (.lit (.bool true))) .nop))))) (.ret (.lit (.bool false))))))))))⟩
def ftrue_of : FnM := ⟨2, 2, (.ret (.call 2 (.cons (.var 0) (.cons (.var 1) (.cons .edict .nil)))))⟩
def flaw_draw : FnM := ⟨3, 5, (.seq (.tape 1 (.bin .add (.tape 1) (.lit (.int 1)))) (.seq (.ife (.cmp .le (.tape 1) (.blt .len (.cons (.bor 0) .nil))) (.ret (.bin .mod (.idx (.bor 0) (.bin .sub (.tape 1) (.lit (.int 1)))) (.var 2))) .nop) (.seq (.asg (.nm 3) (.blt .len (.cons (.bor 0) .nil))) (.seq (.for .seq (.slc (.bor 0) (.lit .none) (.part (.lit (.int 4)))) (.nm 4) (.asg (.nm 3) (.bin .mod (.bin .add (.bin .mul (.var 3) (.lit (.int 131))) (.var 4)) (.lit (.int 1000003))))) (.ret (.bin .mod (.bin .mod (.bin .mul (.bin .add (.var 3) (.lit (.int 7))) (.bin .add (.bin .mul (.tape 1) (.tape 1)) (.lit (.int 48271)))) (.lit (.int 1000003))) (.var 2)))))))⟩
def flaw_marks : FnM := ⟨3, 7, (.seq (.asg (.nm 3) (.lit (.str sigA))) (.seq (.asg (.nm 3) (.bin .add (.var 3) (.lit (.str sigB)))) (.seq (.asg (.nm 4) (.call 4 (.cons (.tape 0) (.cons (.tape 1) (.cons (.lit (.int 94)) .nil))))) (.seq (.asg (.nm 5) (.bin .add (.lit (.int 1)) (.call 4 (.cons (.tape 0) (.cons (.tape 1) (.cons (.lit (.int 23)) .nil)))))) (.ret (.lc .range (.var 2) (.nm 6) [6] (.lit (.bool true)) (.idx (.var 3) (.bin .mod (.bin .add (.var 4) (.bin .mul (.var 5) (.var 6))) (.lit (.int 94))))))))))⟩
def flaw_world : FnM := ⟨2, 9, (.seq (.asg (.nm 2) (.bin .add (.lit (.int 1)) (.call 4 (.cons (.tape 0) (.cons (.tape 1) (.cons (.lit (.int 2)) .nil)))))) (.seq (.ife (.cmp .eq (.call 4 (.cons (.tape 0) (.cons (.tape 1) (.cons (.lit (.int 6)) .nil)))) (.lit (.int 1))) (.asg (.nm 2) (.bin .add (.lit (.int 3)) (.call 4 (.cons (.tape 0) (.cons (.tape 1) (.cons (.lit (.int 2)) .nil)))))) .nop) (.seq (.asg (.nm 3) (.call 5 (.cons (.tape 0) (.cons (.tape 1) (.cons (.lit (.int 4)) .nil))))) (.seq (.asg (.nm 4) (.join (.lit (.str (Str.ofString ""))) (.lc .range (.idx (.lst (.cons (.lit (.int 0)) (.cons (.lit (.int 1)) (.cons (.lit (.int 30)) .nil)))) (.call 4 (.cons (.tape 0) (.cons (.tape 1) (.cons (.lit (.int 3)) .nil))))) (.nm 8) [8] (.lit (.bool true)) (.idx (.var 3) (.bin .mod (.var 8) (.lit (.int 4))))))) (.seq (.asg (.nm 5) (.lc .seq (.lst (.cons (.lit (.str (Str.ofString "p"))) (.cons (.bin .add (.idx (.var 3) (.lit (.int 3))) (.lit (.str (Str.ofString "Q")))) (.cons (.lit (.str (Str.ofString "s"))) .nil)))) (.nm 7) [7] (.lit (.bool true)) (.bin .add (.var 4) (.var 7)))) (.seq (.asg (.nm 6) (.call 4 (.cons (.tape 0) (.cons (.tape 1) (.cons (.lit (.int 4)) .nil))))) (.seq (.ife (.cmp .lt (.var 6) (.lit (.int 2))) (.asg (.nm 5) (.lc .seq (.lst (.cons (.lit (.str (Str.ofString "p"))) (.cons (.lit (.str (Str.ofString "Q"))) (.cons (.lit (.str (Str.ofString "s"))) .nil)))) (.nm 7) [7] (.lit (.bool true)) (.bin .add (.bin .add (.var 4) (.var 7)) (.var 4)))) .nop) (.seq (.ife (.cmp .eq (.var 6) (.lit (.int 2))) (.asg (.nm 5) (.lst (.cons (.bin .add (.bin .add (.var 4) (.idx (.var 3) (.lit (.int 0)))) (.idx (.var 3) (.lit (.int 1)))) (.cons (.bin .add (.bin .add (.var 4) (.idx (.var 3) (.lit (.int 1)))) (.idx (.var 3) (.lit (.int 0)))) (.cons (.bin .add (.bin .add (.var 4) (.idx (.var 3) (.lit (.int 0)))) (.idx (.var 3) (.lit (.int 0)))) .nil))))) .nop) (.ret (.tup (.cons (.join (.lit (.str (Str.ofString ""))) (.slc (.var 3) (.lit .none) (.part (.var 2)))) (.cons (.var 5) .nil))))))))))))⟩
def flaw_near : FnM := ⟨2, 6, (.seq (.own 2 .nil) (.seq (.own 3 .nil) (.seq (.for .rev (.var 0) (.tp [4, 5]) (.ife (.cmp .notin (.var 4) (.bor 2)) (.seq (.app 2 (.var 4)) (.ife (.cmp .eq (.var 5) (.var 1)) (.app 3 (.var 4)) .nop)) .nop)) (.seq (.frz 3) (.ret (.var 3))))))⟩
def flaw_plain : FnM := ⟨4, 9, (.seq (.asg (.nm 4) (.call 7 (.cons (.var 3) (.cons (.lit (.str (Str.ofString "place"))) .nil)))) (.seq (.asg (.nm 5) (.call 7 (.cons (.var 3) (.cons (.lit (.str (Str.ofString "set"))) .nil)))) (.seq (.asg (.nm 6) (.idx (.var 4) (.bin .mod (.call 4 (.cons (.tape 0) (.cons (.tape 1) (.cons (.lit (.int 6)) .nil)))) (.blt .len (.cons (.var 4) .nil))))) (.seq (.asg (.nm 7) (.idx (.var 4) (.bin .mod (.call 4 (.cons (.tape 0) (.cons (.tape 1) (.cons (.lit (.int 6)) .nil)))) (.blt .len (.cons (.var 4) .nil))))) (.seq (.asg (.nm 8) (.call 4 (.cons (.tape 0) (.cons (.tape 1) (.cons (.lit (.int 7)) .nil))))) (.seq (.ife (.cmp .lt (.var 8) (.lit (.int 3))) (.ret (.tup (.cons (.lit (.str (Str.ofString "letter"))) (.cons (.var 6) (.cons (.idx (.var 2) (.bin .mod (.call 4 (.cons (.tape 0) (.cons (.tape 1) (.cons (.lit (.int 12)) .nil)))) (.blt .len (.cons (.var 2) .nil)))) .nil))))) .nop) (.seq (.ife (.and (.cmp .lt (.var 8) (.lit (.int 5))) (.cmp .gt (.blt .len (.cons (.var 5) .nil)) (.lit (.int 0)))) (.ret (.tup (.cons (.lit (.str (Str.ofString "within"))) (.cons (.var 6) (.cons (.idx (.var 5) (.bin .mod (.call 4 (.cons (.tape 0) (.cons (.tape 1) (.cons (.lit (.int 6)) .nil)))) (.blt .len (.cons (.var 5) .nil)))) .nil))))) .nop) (.seq (.ife (.cmp .lt (.var 8) (.lit (.int 6))) (.ret (.tup (.cons (.lit (.str (Str.ofString "ahead"))) (.cons (.var 6) (.cons (.var 7) .nil))))) .nop) (.ret (.tup (.cons (.lit (.str (Str.ofString "same"))) (.cons (.var 6) (.cons (.var 7) .nil)))))))))))))⟩
def flaw_saying : FnM := ⟨5, 11, (.seq (.asg (.tp [8, 9]) (.var 2)) (.seq (.asg (.nm 5) (.call 4 (.cons (.tape 0) (.cons (.tape 1) (.cons (.lit (.int 10)) .nil))))) (.seq (.asg (.nm 6) (.idx (.var 9) (.call 4 (.cons (.tape 0) (.cons (.tape 1) (.cons (.lit (.int 3)) .nil)))))) (.seq (.ife (.or (.cmp .eq (.var 4) (.lit (.int 0))) (.cmp .lt (.var 5) (.lit (.int 2)))) (.seq (.ife (.cmp .eq (.blt .len (.cons (.call 7 (.cons (.var 3) (.cons (.lit (.str (Str.ofString "place"))) .nil))) .nil)) (.lit (.int 0))) (.ret (.tup (.cons (.lit (.str (Str.ofString "place"))) (.cons (.var 6) (.cons (.call 8 (.cons (.tape 0) (.cons (.tape 1) (.cons (.var 8) (.cons (.bin .add (.var 3) (.lst (.cons (.tup (.cons (.var 6) (.cons (.lit (.str (Str.ofString "place"))) .nil))) .nil))) .nil))))) .nil))))) .nop) (.ret (.call 8 (.cons (.tape 0) (.cons (.tape 1) (.cons (.var 8) (.cons (.var 3) .nil))))))) .nop) (.seq (.ife (.or (.cmp .lt (.var 5) (.lit (.int 4))) (.and (.cmp .gt (.blt .len (.cons (.var 3) .nil)) (.lit (.int 2))) (.cmp .gt (.var 5) (.lit (.int 5))))) (.ret (.tup (.cons (.lit (.str (Str.ofString "not"))) (.cons (.call 9 (.cons (.tape 0) (.cons (.tape 1) (.cons (.var 2) (.cons (.var 3) (.cons (.bin .sub (.var 4) (.lit (.int 1))) .nil)))))) .nil)))) .nop) (.seq (.ife (.cmp .lt (.var 5) (.lit (.int 6))) (.seq (.asg (.nm 10) (.call 9 (.cons (.tape 0) (.cons (.tape 1) (.cons (.var 2) (.cons (.var 3) (.cons (.bin .sub (.var 4) (.lit (.int 1))) .nil))))))) (.ret (.tup (.cons (.idx (.lst (.cons (.lit (.str (Str.ofString "and"))) (.cons (.lit (.str (Str.ofString "or"))) .nil))) (.bin .sub (.var 5) (.lit (.int 4)))) (.cons (.var 10) (.cons (.call 9 (.cons (.tape 0) (.cons (.tape 1) (.cons (.var 2) (.cons (.var 3) (.cons (.bin .sub (.var 4) (.lit (.int 1))) .nil)))))) .nil)))))) .nop) (.seq (.asg (.nm 7) (.idx (.lst (.cons (.lit (.str (Str.ofString "place"))) (.cons (.lit (.str (Str.ofString "place"))) (.cons (.lit (.str (Str.ofString "place"))) (.cons (.lit (.str (Str.ofString "set"))) .nil))))) (.bin .sub (.var 5) (.lit (.int 6))))) (.ret (.tup (.cons (.var 7) (.cons (.var 6) (.cons (.call 9 (.cons (.tape 0) (.cons (.tape 1) (.cons (.var 2) (.cons (.bin .add (.var 3) (.lst (.cons (.tup (.cons (.var 6) (.cons (.var 7) .nil))) .nil))) (.cons (.bin .sub (.var 4) (.lit (.int 1))) .nil)))))) .nil))))))))))))⟩
def flaw_sets : FnM := ⟨1, 4, (.seq (.asg (.nm 1) (.lst (.cons (.lst .nil) .nil))) (.seq (.for .range (.var 0) (.nm 2) (.asg (.nm 1) (.bin .add (.var 1) (.lc .seq (.var 1) (.nm 3) [3] (.lit (.bool true)) (.bin .add (.var 3) (.lst (.cons (.var 2) .nil))))))) (.ret (.var 1))))⟩
def flaw_true : FnM := ⟨3, 9, (.seq (.ife (.cmp .eq (.idx (.var 0) (.lit (.int 0))) (.lit (.str (Str.ofString "not")))) (.ret (.not (.call 11 (.cons (.idx (.var 0) (.lit (.int 1))) (.cons (.var 1) (.cons (.var 2) .nil)))))) .nop) (.seq (.ife (.cmp .eq (.idx (.var 0) (.lit (.int 0))) (.lit (.str (Str.ofString "and")))) (.ret (.and (.call 11 (.cons (.idx (.var 0) (.lit (.int 1))) (.cons (.var 1) (.cons (.var 2) .nil)))) (.call 11 (.cons (.idx (.var 0) (.lit (.int 2))) (.cons (.var 1) (.cons (.var 2) .nil)))))) .nop) (.seq (.ife (.cmp .eq (.idx (.var 0) (.lit (.int 0))) (.lit (.str (Str.ofString "or")))) (.ret (.or (.call 11 (.cons (.idx (.var 0) (.lit (.int 1))) (.cons (.var 1) (.cons (.var 2) .nil)))) (.call 11 (.cons (.idx (.var 0) (.lit (.int 2))) (.cons (.var 1) (.cons (.var 2) .nil)))))) .nop) (.seq (.ife (.cmp .eq (.idx (.var 0) (.lit (.int 0))) (.lit (.str (Str.ofString "place")))) (.ret (.blt .any (.cons (.lc .range (.blt .len (.cons (.var 1) .nil)) (.nm 5) [5] (.lit (.bool true)) (.call 11 (.cons (.idx (.var 0) (.lit (.int 2))) (.cons (.var 1) (.cons (.bin .add (.var 2) (.lst (.cons (.tup (.cons (.idx (.var 0) (.lit (.int 1))) (.cons (.var 5) .nil))) .nil))) .nil))))) .nil))) .nop) (.seq (.ife (.cmp .eq (.idx (.var 0) (.lit (.int 0))) (.lit (.str (Str.ofString "set")))) (.ret (.blt .any (.cons (.lc .seq (.call 10 (.cons (.blt .len (.cons (.var 1) .nil)) .nil)) (.nm 6) [6] (.lit (.bool true)) (.call 11 (.cons (.idx (.var 0) (.lit (.int 2))) (.cons (.var 1) (.cons (.bin .add (.var 2) (.lst (.cons (.tup (.cons (.idx (.var 0) (.lit (.int 1))) (.cons (.var 6) .nil))) .nil))) .nil))))) .nil))) .nop) (.seq (.asg (.nm 3) (.idx (.lc .seq (.var 2) (.tp [7, 8]) [7, 8] (.cmp .eq (.var 7) (.idx (.var 0) (.lit (.int 1)))) (.var 8)) (.neg (.lit (.int 1))))) (.seq (.ife (.cmp .eq (.idx (.var 0) (.lit (.int 0))) (.lit (.str (Str.ofString "letter")))) (.ret (.cmp .eq (.idx (.var 1) (.var 3)) (.idx (.var 0) (.lit (.int 2))))) .nop) (.seq (.asg (.nm 4) (.idx (.lc .seq (.var 2) (.tp [7, 8]) [7, 8] (.cmp .eq (.var 7) (.idx (.var 0) (.lit (.int 2)))) (.var 8)) (.neg (.lit (.int 1))))) (.seq (.ife (.cmp .eq (.idx (.var 0) (.lit (.int 0))) (.lit (.str (Str.ofString "within")))) (.ret (.cmp .isin (.var 3) (.var 4))) .nop) (.ret (.or (.and (.cmp .lt (.var 3) (.var 4)) (.cmp .eq (.idx (.var 0) (.lit (.int 0))) (.lit (.str (Str.ofString "ahead"))))) (.and (.cmp .eq (.var 3) (.var 4)) (.cmp .eq (.idx (.var 0) (.lit (.int 0))) (.lit (.str (Str.ofString "same"))))))))))))))))⟩
def flaw_sets_around : FnM := ⟨1, 2, (.seq (.ife (.cmp .eq (.idx (.var 0) (.lit (.int 0))) (.lit (.str (Str.ofString "set")))) (.ret (.bin .add (.lit (.int 1)) (.call 12 (.cons (.idx (.var 0) (.lit (.int 2))) .nil)))) .nop) (.seq (.ife (.cmp .eq (.idx (.var 0) (.lit (.int 0))) (.lit (.str (Str.ofString "place")))) (.ret (.call 12 (.cons (.idx (.var 0) (.lit (.int 2))) .nil))) .nop) (.seq (.ife (.cmp .isin (.idx (.var 0) (.lit (.int 0))) (.tup (.cons (.lit (.str (Str.ofString "not"))) (.cons (.lit (.str (Str.ofString "and"))) (.cons (.lit (.str (Str.ofString "or"))) .nil))))) (.ret (.blt .max (.cons (.lc .seq (.slc (.var 0) (.part (.lit (.int 1))) (.lit .none)) (.nm 1) [1] (.lit (.bool true)) (.call 12 (.cons (.var 1) .nil))) .nil))) .nop) (.ret (.lit (.int 0))))))⟩
def tab : Nat → Option FnM
  | 0 => some fsubsets
  | 1 => some fplainly
  | 2 => some ftrue_within
  | 3 => some ftrue_of
  | 4 => some flaw_draw
  | 5 => some flaw_marks
  | 6 => some flaw_world
  | 7 => some flaw_near
  | 8 => some flaw_plain
  | 9 => some flaw_saying
  | 10 => some flaw_sets
  | 11 => some flaw_true
  | 12 => some flaw_sets_around
  | _ => none
abbrev isubsets : Nat := 0
abbrev iplainly : Nat := 1
abbrev itrue_within : Nat := 2
abbrev itrue_of : Nat := 3
abbrev ilaw_draw : Nat := 4
abbrev ilaw_marks : Nat := 5
abbrev ilaw_world : Nat := 6
abbrev ilaw_near : Nat := 7
abbrev ilaw_plain : Nat := 8
abbrev ilaw_saying : Nat := 9
abbrev ilaw_sets : Nat := 10
abbrev ilaw_true : Nat := 11
abbrev ilaw_sets_around : Nat := 12
def cf (W : Nat) : Nat → CallF
  | 0, _, _, _ => none
  | k + 1, f, args, t => match tab f with
    | some fm => runF (cf W k) W fm args t
    | none => none
theorem usubsets {W k : Nat} {args : List LV} {t : Int} : cf W (k + 1) isubsets args t = runF (cf W k) W fsubsets args t := rfl
theorem uplainly {W k : Nat} {args : List LV} {t : Int} : cf W (k + 1) iplainly args t = runF (cf W k) W fplainly args t := rfl
theorem utrue_within {W k : Nat} {args : List LV} {t : Int} : cf W (k + 1) itrue_within args t = runF (cf W k) W ftrue_within args t := rfl
theorem utrue_of {W k : Nat} {args : List LV} {t : Int} : cf W (k + 1) itrue_of args t = runF (cf W k) W ftrue_of args t := rfl
theorem ulaw_draw {W k : Nat} {args : List LV} {t : Int} : cf W (k + 1) ilaw_draw args t = runF (cf W k) W flaw_draw args t := rfl
theorem ulaw_marks {W k : Nat} {args : List LV} {t : Int} : cf W (k + 1) ilaw_marks args t = runF (cf W k) W flaw_marks args t := rfl
theorem ulaw_world {W k : Nat} {args : List LV} {t : Int} : cf W (k + 1) ilaw_world args t = runF (cf W k) W flaw_world args t := rfl
theorem ulaw_near {W k : Nat} {args : List LV} {t : Int} : cf W (k + 1) ilaw_near args t = runF (cf W k) W flaw_near args t := rfl
theorem ulaw_plain {W k : Nat} {args : List LV} {t : Int} : cf W (k + 1) ilaw_plain args t = runF (cf W k) W flaw_plain args t := rfl
theorem ulaw_saying {W k : Nat} {args : List LV} {t : Int} : cf W (k + 1) ilaw_saying args t = runF (cf W k) W flaw_saying args t := rfl
theorem ulaw_sets {W k : Nat} {args : List LV} {t : Int} : cf W (k + 1) ilaw_sets args t = runF (cf W k) W flaw_sets args t := rfl
theorem ulaw_true {W k : Nat} {args : List LV} {t : Int} : cf W (k + 1) ilaw_true args t = runF (cf W k) W flaw_true args t := rfl
theorem ulaw_sets_around {W k : Nat} {args : List LV} {t : Int} : cf W (k + 1) ilaw_sets_around args t = runF (cf W k) W flaw_sets_around args t := rfl
structure Txt (K : PySem.W.Frag) (mg : Str → Option Value) (fa : Nat → Addr) (fd : Nat → FuncData) : Prop where
  Fsubsets : Fun K "subsets" "subsets" ssubsets (fa 0) (fd 0)
  gsubsets : mg "subsets" = some (.ref (fa 0))
  bsubsets : Binds K (fd 0) psubsets []
  Fplainly : Fun K "plainly" "plainly" splainly (fa 1) (fd 1)
  gplainly : mg "plainly" = some (.ref (fa 1))
  bplainly : Binds K (fd 1) pplainly []
  Ftrue_within : Fun K "true_within" "true_within" strue_within (fa 2) (fd 2)
  gtrue_within : mg "true_within" = some (.ref (fa 2))
  btrue_within : Binds K (fd 2) ptrue_within []
  Ftrue_of : Fun K "true_of" "true_of" strue_of (fa 3) (fd 3)
  gtrue_of : mg "true_of" = some (.ref (fa 3))
  btrue_of : Binds K (fd 3) ptrue_of []
  Flaw_draw : Fun K "_law_draw" "_law_draw" slaw_draw (fa 4) (fd 4)
  glaw_draw : mg "_law_draw" = some (.ref (fa 4))
  blaw_draw : Binds K (fd 4) plaw_draw []
  Flaw_marks : Fun K "_law_marks" "_law_marks" slaw_marks (fa 5) (fd 5)
  glaw_marks : mg "_law_marks" = some (.ref (fa 5))
  blaw_marks : Binds K (fd 5) plaw_marks []
  Flaw_world : Fun K "_law_world" "_law_world" slaw_world (fa 6) (fd 6)
  glaw_world : mg "_law_world" = some (.ref (fa 6))
  blaw_world : Binds K (fd 6) plaw_world []
  Flaw_near : Fun K "_law_near" "_law_near" slaw_near (fa 7) (fd 7)
  glaw_near : mg "_law_near" = some (.ref (fa 7))
  blaw_near : Binds K (fd 7) plaw_near []
  Flaw_plain : Fun K "_law_plain" "_law_plain" slaw_plain (fa 8) (fd 8)
  glaw_plain : mg "_law_plain" = some (.ref (fa 8))
  blaw_plain : Binds K (fd 8) plaw_plain []
  Flaw_saying : Fun K "_law_saying" "_law_saying" slaw_saying (fa 9) (fd 9)
  glaw_saying : mg "_law_saying" = some (.ref (fa 9))
  blaw_saying : Binds K (fd 9) plaw_saying []
  Flaw_sets : Fun K "_law_sets" "_law_sets" slaw_sets (fa 10) (fd 10)
  glaw_sets : mg "_law_sets" = some (.ref (fa 10))
  blaw_sets : Binds K (fd 10) plaw_sets []
  Flaw_true : Fun K "_law_true" "_law_true" slaw_true (fa 11) (fd 11)
  glaw_true : mg "_law_true" = some (.ref (fa 11))
  blaw_true : Binds K (fd 11) plaw_true []
  Flaw_sets_around : Fun K "_law_sets_around" "_law_sets_around" slaw_sets_around (fa 12) (fd 12)
  glaw_sets_around : mg "_law_sets_around" = some (.ref (fa 12))
  blaw_sets_around : Binds K (fd 12) plaw_sets_around []
  z_any : mg "any" = none
  z_bool : mg "bool" = none
  z_dict : mg "dict" = none
  z_isinstance : mg "isinstance" = none
  z_len : mg "len" = none
  z_list : mg "list" = none
  z_max : mg "max" = none
  z_range : mg "range" = none
  z_reversed : mg "reversed" = none
structure Oks (P : Program) (w : World) (K : PySem.W.Frag) (mg : Str → Option Value) (base : Heap) (fa : Nat → Addr) (fd : Nat → FuncData) (W k : Nat) : Prop where
  osubsets : FnOk P w K mg base CX0 k (fa 0) (fd 0) psubsets (spF K (cf W k) 1 0)
  oplainly : FnOk P w K mg base CX0 k (fa 1) (fd 1) pplainly (spF K (cf W k) 3 1)
  otrue_within : FnOk P w K mg base CX0 k (fa 2) (fd 2) ptrue_within (spF K (cf W k) 3 2)
  otrue_of : FnOk P w K mg base CX0 k (fa 3) (fd 3) ptrue_of (spF K (cf W k) 2 3)
  olaw_draw : FnOk P w K mg base CX0 k (fa 4) (fd 4) plaw_draw (spF K (cf W k) 3 4)
  olaw_marks : FnOk P w K mg base CX0 k (fa 5) (fd 5) plaw_marks (spF K (cf W k) 3 5)
  olaw_world : FnOk P w K mg base CX0 k (fa 6) (fd 6) plaw_world (spF K (cf W k) 2 6)
  olaw_near : FnOk P w K mg base CX0 k (fa 7) (fd 7) plaw_near (spF K (cf W k) 2 7)
  olaw_plain : FnOk P w K mg base CX0 k (fa 8) (fd 8) plaw_plain (spF K (cf W k) 4 8)
  olaw_saying : FnOk P w K mg base CX0 k (fa 9) (fd 9) plaw_saying (spF K (cf W k) 5 9)
  olaw_sets : FnOk P w K mg base CX0 k (fa 10) (fd 10) plaw_sets (spF K (cf W k) 1 10)
  olaw_true : FnOk P w K mg base CX0 k (fa 11) (fd 11) plaw_true (spF K (cf W k) 3 11)
  olaw_sets_around : FnOk P w K mg base CX0 k (fa 12) (fd 12) plaw_sets_around (spF K (cf W k) 1 12)
theorem b_any : bootBuiltins "any" = some (.builtin "any") := by decide +kernel
theorem b_bool : bootBuiltins "bool" = some (.type "bool") := by decide +kernel
theorem b_dict : bootBuiltins "dict" = some (.type "dict") := by decide +kernel
theorem b_isinstance : bootBuiltins "isinstance" = some (.builtin "isinstance") := by decide +kernel
theorem b_len : bootBuiltins "len" = some (.builtin "len") := by decide +kernel
theorem b_list : bootBuiltins "list" = some (.type "list") := by decide +kernel
theorem b_max : bootBuiltins "max" = some (.builtin "max") := by decide +kernel
theorem b_range : bootBuiltins "range" = some (.type "range") := by decide +kernel
theorem b_reversed : bootBuiltins "reversed" = some (.type "reversed") := by decide +kernel
section
variable {P : Program} {w : World} {K : PySem.W.Frag} {mg : Str → Option Value} {base : Heap} {fa : Nat → Addr} {fd : Nat → FuncData} {W k : Nat}
theorem dvsubsets (Z : Txt K mg fa fd) (O : Oks P w K mg base fa fd W k) (cdv : Value) (A : Around) (outer : List PySem.Env) (s : Shared) (H : Hp) (E : XK) (hr : Room k (A.deeper (envOfC "subsets" (defScope ssubsets) s.heap.objs.size (fa 0) cdv))) :
    SemB (cf W k) W (cxOf CX0 P w K mg base nsubsets "subsets" (defScope ssubsets) (fa 0) cdv A outer s H E).nox (defBody ssubsets) fsubsets.body := by
  have nd : (cxOf CX0 P w K mg base nsubsets "subsets" (defScope ssubsets) (fa 0) cdv A outer s H E).nox.N.Nodup := scsubsets.nd
  exact (sb_cons (yset 1 nd (se_lst (sa_cons (se_lst sa_nil) sa_nil)))
  (sb_cons (ss_for PassesOwn.never rfl (si_range rfl Z.z_range (xv 0)) (gn 2 nd)
  (sb_one (yset 1 nd (se_add (xv 1) (se_lc (own := [("chosen", 3)]) rfl nd (si_seq (xv 1)) (blkOk_by (own := [("chosen", 3)]) (N := nsubsets) (sc := defScope ssubsets) (by decide +kernel)) (by decide) (fun _ _ _ _ _ => (gn 3 nd)) (fun _ _ _ _ _ => pts_all) (fun _ _ _ _ _ => (se_add (xv 3) (se_lst (sa_cons (xv 2) sa_nil)))))))))
  (sb_one (ss_ret (xv 1)))))
theorem dvplainly (Z : Txt K mg fa fd) (O : Oks P w K mg base fa fd W k) (cdv : Value) (A : Around) (outer : List PySem.Env) (s : Shared) (H : Hp) (E : XK) (hr : Room k (A.deeper (envOfC "plainly" (defScope splainly) s.heap.objs.size (fa 1) cdv))) :
    SemB (cf W k) W (cxOf CX0 P w K mg base nplainly "plainly" (defScope splainly) (fa 1) cdv A outer s H E).nox (defBody splainly) fplainly.body := by
  have nd : (cxOf CX0 P w K mg base nplainly "plainly" (defScope splainly) (fa 1) cdv A outer s H E).nox.N.Nodup := scplainly.nd
  exact (sb_cons (yset 3 nd (se_dget 2 (Room.u1 hr) (xi (SemE.r (xv 0)) se_int)))
  (sb_cons (ss_if (SemC.tst (sc_eq (Room.u64 hr) (xi (SemE.r (xv 0)) se_int) se_str))
  (sb_one (ss_ret (SemC.val (sc_eq (Room.u64 hr) (xi (SemE.r (xv 1)) (xv 3)) (xi (SemE.r (xv 0)) se_int)))))
  sb_nil)
  (sb_cons (yset 4 nd (se_dget 2 (Room.u1 hr) (xi (SemE.r (xv 0)) se_int)))
  (sb_cons (ss_if (SemC.tst (sc_eq (Room.u64 hr) (xi (SemE.r (xv 0)) se_int) se_str))
  (sb_one (ss_ret (SemC.val (sc_lt (xv 3) (xv 4)))))
  sb_nil)
  (sb_cons (ss_if (SemC.tst (sc_eq (Room.u64 hr) (xi (SemE.r (xv 0)) se_int) se_str))
  (sb_one (ss_ret (SemC.val (sc_eq (Room.u64 hr) (xv 3) (xv 4)))))
  sb_nil)
  (sb_one (ss_ret (SemC.val (sc_in (Room.u65 hr) (xv 3) (SemE.r (xv 4)))))))))))
theorem dvtrue_within (Z : Txt K mg fa fd) (O : Oks P w K mg base fa fd W k) (cdv : Value) (A : Around) (outer : List PySem.Env) (s : Shared) (H : Hp) (E : XK) (hr : Room k (A.deeper (envOfC "true_within" (defScope strue_within) s.heap.objs.size (fa 2) cdv))) :
    SemB (cf W k) W (cxOf CX0 P w K mg base ntrue_within "true_within" (defScope strue_within) (fa 2) cdv A outer s H E).nox (defBody strue_within) ftrue_within.body := by
  have nd : (cxOf CX0 P w K mg base ntrue_within "true_within" (defScope strue_within) (fa 2) cdv A outer s H E).nox.N.Nodup := sctrue_within.nd
  exact (sb_cons (ss_if (SemC.tst (sc_eq (Room.u64 hr) (xi (SemE.r (xv 0)) se_int) se_str))
  (sb_one (ss_ret (se_not (xcall O.otrue_within hr Z.gtrue_within Z.Ftrue_within.kp Z.btrue_within (sa_cons (xi (SemE.r (xv 0)) se_int) (sa_cons (xv 1) (xp 2 sa_nil)))))))
  sb_nil)
  (sb_cons (ss_if (SemC.tst (sc_eq (Room.u64 hr) (xi (SemE.r (xv 0)) se_int) se_str))
  (sb_one (ss_ret (se_and (xcall O.otrue_within hr Z.gtrue_within Z.Ftrue_within.kp Z.btrue_within (sa_cons (xi (SemE.r (xv 0)) se_int) (sa_cons (xv 1) (xp 2 sa_nil)))) (se_one (xcall O.otrue_within hr Z.gtrue_within Z.Ftrue_within.kp Z.btrue_within (sa_cons (xi (SemE.r (xv 0)) se_int) (sa_cons (xv 1) (xp 2 sa_nil))))))))
  sb_nil)
  (sb_cons (ss_if (SemC.tst (sc_eq (Room.u64 hr) (xi (SemE.r (xv 0)) se_int) se_str))
  (sb_one (ss_ret (se_or (xcall O.otrue_within hr Z.gtrue_within Z.Ftrue_within.kp Z.btrue_within (sa_cons (xi (SemE.r (xv 0)) se_int) (sa_cons (xv 1) (xp 2 sa_nil)))) (se_one (xcall O.otrue_within hr Z.gtrue_within Z.Ftrue_within.kp Z.btrue_within (sa_cons (xi (SemE.r (xv 0)) se_int) (sa_cons (xv 1) (xp 2 sa_nil))))))))
  sb_nil)
  (sb_cons (ss_if (SemW.tst (sw_and (SemC.tst (sc_ne (Room.u64 hr) (xi (SemE.r (xv 0)) se_int) se_str)) (sw_and1 (SemC.tst (sc_ne (Room.u64 hr) (xi (SemE.r (xv 0)) se_int) se_str)))))
  (sb_one (ss_ret (xcall O.oplainly hr Z.gplainly Z.Fplainly.kp Z.bplainly (sa_cons (xv 0) (sa_cons (xv 1) (xp 2 sa_nil))))))
  sb_nil)
  (sb_cons (yset 3 nd (se_lrange rfl rfl Z.z_list rfl Z.z_range (se_blt1 c_len rfl Z.z_len b_len (SemE.r (xv 1)))))
  (sb_cons (ss_if (SemC.tst (sc_eq (Room.u64 hr) (xi (SemE.r (xv 0)) se_int) se_str))
  (sb_one (yset 3 nd (xcall O.osubsets hr Z.gsubsets Z.Fsubsets.kp Z.bsubsets (sa_cons (se_blt1 c_len rfl Z.z_len b_len (SemE.r (xv 1))) sa_nil))))
  sb_nil)
  (sb_cons (ss_for PassesOwn.never rfl (si_seq (xv 3)) (gn 4 nd)
  (sb_cons (ss_newD 5 2 nd rfl Z.z_dict b_dict)
  (sb_cons (ss_dput 5 (Room.u1 hr) (xi (SemE.r (xv 0)) se_int) (xv 4))
  (sb_frzD 5 (sb_one (ss_if (st_val (xcall O.otrue_within hr Z.gtrue_within Z.Ftrue_within.kp Z.btrue_within (sa_cons (xi (SemE.r (xv 0)) se_int) (sa_cons (xv 1) (xp 5 sa_nil)))))
  (sb_one (ss_ret se_bool))
  sb_nil))))))
  (sb_one (ss_ret se_bool)))))))))
theorem dvtrue_of (Z : Txt K mg fa fd) (O : Oks P w K mg base fa fd W k) (cdv : Value) (A : Around) (outer : List PySem.Env) (s : Shared) (H : Hp) (E : XK) (hr : Room k (A.deeper (envOfC "true_of" (defScope strue_of) s.heap.objs.size (fa 3) cdv))) :
    SemB (cf W k) W (cxOf CX0 P w K mg base ntrue_of "true_of" (defScope strue_of) (fa 3) cdv A outer s H E).nox (defBody strue_of) ftrue_of.body := by
  have nd : (cxOf CX0 P w K mg base ntrue_of "true_of" (defScope strue_of) (fa 3) cdv A outer s H E).nox.N.Nodup := sctrue_of.nd
  exact (sb_one (ss_ret (xcall O.otrue_within hr Z.gtrue_within Z.Ftrue_within.kp Z.btrue_within (sa_cons (xv 0) (sa_cons (xv 1) (sa_edict sa_nil))))))
theorem dvlaw_draw (Z : Txt K mg fa fd) (O : Oks P w K mg base fa fd W k) (cdv : Value) (A : Around) (outer : List PySem.Env) (s : Shared) (H : Hp) (E : XK) (hr : Room k (A.deeper (envOfC "_law_draw" (defScope slaw_draw) s.heap.objs.size (fa 4) cdv))) :
    SemB (cf W k) W (cxOf CX0 P w K mg base nlaw_draw "_law_draw" (defScope slaw_draw) (fa 4) cdv A outer s H E).nox (defBody slaw_draw) flaw_draw.body := by
  have nd : (cxOf CX0 P w K mg base nlaw_draw "_law_draw" (defScope slaw_draw) (fa 4) cdv A outer s H E).nox.N.Nodup := sclaw_draw.nd
  exact (sb_cons (ytape 1 (se_add (xt 1) se_int))
  (sb_cons (ss_if (SemC.tst (sc_le (xt 1) (se_blt1 c_len rfl Z.z_len b_len (xb 0))))
  (sb_one (ss_ret (se_mod (xi (xb 0) (se_sub (xt 1) se_int)) (xv 2))))
  sb_nil)
  (sb_cons (yset 3 nd (se_blt1 c_len rfl Z.z_len b_len (xb 0)))
  (sb_cons (ss_for PassesOwn.never rfl (si_seq (se_slc (xb 0) so_none (so_some se_int))) (gn 4 nd)
  (sb_one (yset 3 nd (se_mod (se_add (se_mul (xv 3) se_int) (xv 4)) se_int))))
  (sb_one (ss_ret (se_mod (se_mod (se_mul (se_add (xv 3) se_int) (se_add (se_mul (xt 1) (xt 1)) se_int)) se_int) (xv 2))))))))
theorem dvlaw_marks (Z : Txt K mg fa fd) (O : Oks P w K mg base fa fd W k) (cdv : Value) (A : Around) (outer : List PySem.Env) (s : Shared) (H : Hp) (E : XK) (hr : Room k (A.deeper (envOfC "_law_marks" (defScope slaw_marks) s.heap.objs.size (fa 5) cdv))) :
    SemB (cf W k) W (cxOf CX0 P w K mg base nlaw_marks "_law_marks" (defScope slaw_marks) (fa 5) cdv A outer s H E).nox (defBody slaw_marks) flaw_marks.body := by
  have nd : (cxOf CX0 P w K mg base nlaw_marks "_law_marks" (defScope slaw_marks) (fa 5) cdv A outer s H E).nox.N.Nodup := sclaw_marks.nd
  exact (sb_cons (yset 3 nd se_str)
  (sb_cons (yset 3 nd (se_add (xv 3) se_str))
  (sb_cons (yset 4 nd (xcall O.olaw_draw hr Z.glaw_draw Z.Flaw_draw.kp Z.blaw_draw (xp 0 (xp 1 (sa_cons se_int sa_nil)))))
  (sb_cons (yset 5 nd (se_add se_int (xcall O.olaw_draw hr Z.glaw_draw Z.Flaw_draw.kp Z.blaw_draw (xp 0 (xp 1 (sa_cons se_int sa_nil))))))
  (sb_one (ss_ret (se_lc (own := [("_law_k", 6)]) rfl nd (si_range rfl Z.z_range (xv 2)) (blkOk_by (own := [("_law_k", 6)]) (N := nlaw_marks) (sc := defScope slaw_marks) (by decide +kernel)) (by decide) (fun _ _ _ _ _ => (gn 6 nd)) (fun _ _ _ _ _ => pts_all) (fun _ _ _ _ _ => (xi (SemE.r (xv 3)) (se_mod (se_add (xv 4) (se_mul (xv 5) (xv 6))) se_int))))))))))
theorem dvlaw_world (Z : Txt K mg fa fd) (O : Oks P w K mg base fa fd W k) (cdv : Value) (A : Around) (outer : List PySem.Env) (s : Shared) (H : Hp) (E : XK) (hr : Room k (A.deeper (envOfC "_law_world" (defScope slaw_world) s.heap.objs.size (fa 6) cdv))) :
    SemB (cf W k) W (cxOf CX0 P w K mg base nlaw_world "_law_world" (defScope slaw_world) (fa 6) cdv A outer s H E).nox (defBody slaw_world) flaw_world.body := by
  have nd : (cxOf CX0 P w K mg base nlaw_world "_law_world" (defScope slaw_world) (fa 6) cdv A outer s H E).nox.N.Nodup := sclaw_world.nd
  exact (sb_cons (yset 2 nd (se_add se_int (xcall O.olaw_draw hr Z.glaw_draw Z.Flaw_draw.kp Z.blaw_draw (xp 0 (xp 1 (sa_cons se_int sa_nil))))))
  (sb_cons (ss_if (SemC.tst (sc_eq (Room.u64 hr) (xcall O.olaw_draw hr Z.glaw_draw Z.Flaw_draw.kp Z.blaw_draw (xp 0 (xp 1 (sa_cons se_int sa_nil)))) se_int))
  (sb_one (yset 2 nd (se_add se_int (xcall O.olaw_draw hr Z.glaw_draw Z.Flaw_draw.kp Z.blaw_draw (xp 0 (xp 1 (sa_cons se_int sa_nil)))))))
  sb_nil)
  (sb_cons (yset 3 nd (xcall O.olaw_marks hr Z.glaw_marks Z.Flaw_marks.kp Z.blaw_marks (xp 0 (xp 1 (sa_cons se_int sa_nil)))))
  (sb_cons (yset 4 nd (se_join se_str (se_lc (own := [("_law_k", 8)]) rfl nd (si_range rfl Z.z_range (xi (SemE.r (se_lst (sa_cons se_int (sa_cons se_int (sa_cons se_int sa_nil))))) (xcall O.olaw_draw hr Z.glaw_draw Z.Flaw_draw.kp Z.blaw_draw (xp 0 (xp 1 (sa_cons se_int sa_nil)))))) (blkOk_by (own := [("_law_k", 8)]) (N := nlaw_world) (sc := defScope slaw_world) (by decide +kernel)) (by decide) (fun _ _ _ _ _ => (gn 8 nd)) (fun _ _ _ _ _ => pts_all) (fun _ _ _ _ _ => (xi (SemE.r (xv 3)) (se_mod (xv 8) se_int))))))
  (sb_cons (ss_asgLc (i := 5) (own := [("_law_name", 7)]) rfl nd rfl rfl (sw_true rfl rfl rfl (by decide +kernel)) (si_seq (se_lst (sa_cons se_str (sa_cons (se_add (xi (SemE.r (xv 3)) se_int) se_str) (sa_cons se_str sa_nil))))) (blkOk_by (own := [("_law_name", 7)]) (N := nlaw_world) (sc := defScope slaw_world) (by decide +kernel)) (by decide) (fun _ _ _ _ _ => (gn 7 nd)) (fun _ _ _ _ _ => pts_all) (fun _ _ _ _ _ => (se_add (xv 4) (xv 7))))
  (sb_cons (yset 6 nd (xcall O.olaw_draw hr Z.glaw_draw Z.Flaw_draw.kp Z.blaw_draw (xp 0 (xp 1 (sa_cons se_int sa_nil)))))
  (sb_cons (ss_if (SemC.tst (sc_lt (xv 6) se_int))
  (sb_one (ss_asgLc (i := 5) (own := [("_law_name", 7)]) rfl nd rfl rfl (sw_true rfl rfl rfl (by decide +kernel)) (si_seq (se_lst (sa_cons se_str (sa_cons se_str (sa_cons se_str sa_nil))))) (blkOk_by (own := [("_law_name", 7)]) (N := nlaw_world) (sc := defScope slaw_world) (by decide +kernel)) (by decide) (fun _ _ _ _ _ => (gn 7 nd)) (fun _ _ _ _ _ => pts_all) (fun _ _ _ _ _ => (se_add (se_add (xv 4) (xv 7)) (xv 4)))))
  sb_nil)
  (sb_cons (ss_if (SemC.tst (sc_eq (Room.u64 hr) (xv 6) se_int))
  (sb_one (yset 5 nd (se_lst (sa_cons (se_add (se_add (xv 4) (xi (SemE.r (xv 3)) se_int)) (xi (SemE.r (xv 3)) se_int)) (sa_cons (se_add (se_add (xv 4) (xi (SemE.r (xv 3)) se_int)) (xi (SemE.r (xv 3)) se_int)) (sa_cons (se_add (se_add (xv 4) (xi (SemE.r (xv 3)) se_int)) (xi (SemE.r (xv 3)) se_int)) sa_nil))))))
  sb_nil)
  (sb_one (ss_ret (se_tup (sa_cons (se_join se_str (se_slc (SemE.r (xv 3)) so_none (so_some (xv 2)))) (sa_cons (xv 5) sa_nil)))))))))))))
theorem dvlaw_near (Z : Txt K mg fa fd) (O : Oks P w K mg base fa fd W k) (cdv : Value) (A : Around) (outer : List PySem.Env) (s : Shared) (H : Hp) (E : XK) (hr : Room k (A.deeper (envOfC "_law_near" (defScope slaw_near) s.heap.objs.size (fa 7) cdv))) :
    SemB (cf W k) W (cxOf CX0 P w K mg base nlaw_near "_law_near" (defScope slaw_near) (fa 7) cdv A outer s H E).nox (defBody slaw_near) flaw_near.body := by
  have nd : (cxOf CX0 P w K mg base nlaw_near "_law_near" (defScope slaw_near) (fa 7) cdv A outer s H E).nox.N.Nodup := sclaw_near.nd
  exact (sb_cons (yown 2 nd sa_nil)
  (sb_cons (yown 3 nd sa_nil)
  (sb_cons (ss_for PassesOwn.never rfl (si_rev rfl Z.z_reversed (xv 0)) (sg_tup rfl (gs1 4 nd (gs1 5 nd gs0)))
  (sb_one (ss_if (SemC.tst (sc_notin (Room.u65 hr) (xv 4) (xb 2)))
  (sb_cons (yapp 2 (xv 4))
  (sb_one (ss_if (SemC.tst (sc_eq (Room.u64 hr) (xv 5) (xv 1)))
  (sb_one (yapp 3 (xv 4)))
  sb_nil)))
  sb_nil)))
  (sb_frz 3 (sb_one (ss_ret (xv 3)))))))
theorem dvlaw_plain (Z : Txt K mg fa fd) (O : Oks P w K mg base fa fd W k) (cdv : Value) (A : Around) (outer : List PySem.Env) (s : Shared) (H : Hp) (E : XK) (hr : Room k (A.deeper (envOfC "_law_plain" (defScope slaw_plain) s.heap.objs.size (fa 8) cdv))) :
    SemB (cf W k) W (cxOf CX0 P w K mg base nlaw_plain "_law_plain" (defScope slaw_plain) (fa 8) cdv A outer s H E).nox (defBody slaw_plain) flaw_plain.body := by
  have nd : (cxOf CX0 P w K mg base nlaw_plain "_law_plain" (defScope slaw_plain) (fa 8) cdv A outer s H E).nox.N.Nodup := sclaw_plain.nd
  exact (sb_cons (yset 4 nd (xcall O.olaw_near hr Z.glaw_near Z.Flaw_near.kp Z.blaw_near (sa_cons (xv 3) (sa_cons se_str sa_nil))))
  (sb_cons (yset 5 nd (xcall O.olaw_near hr Z.glaw_near Z.Flaw_near.kp Z.blaw_near (sa_cons (xv 3) (sa_cons se_str sa_nil))))
  (sb_cons (yset 6 nd (xi (SemE.r (xv 4)) (se_mod (xcall O.olaw_draw hr Z.glaw_draw Z.Flaw_draw.kp Z.blaw_draw (xp 0 (xp 1 (sa_cons se_int sa_nil)))) (se_blt1 c_len rfl Z.z_len b_len (SemE.r (xv 4))))))
  (sb_cons (yset 7 nd (xi (SemE.r (xv 4)) (se_mod (xcall O.olaw_draw hr Z.glaw_draw Z.Flaw_draw.kp Z.blaw_draw (xp 0 (xp 1 (sa_cons se_int sa_nil)))) (se_blt1 c_len rfl Z.z_len b_len (SemE.r (xv 4))))))
  (sb_cons (yset 8 nd (xcall O.olaw_draw hr Z.glaw_draw Z.Flaw_draw.kp Z.blaw_draw (xp 0 (xp 1 (sa_cons se_int sa_nil)))))
  (sb_cons (ss_if (SemC.tst (sc_lt (xv 8) se_int))
  (sb_one (ss_ret (se_tup (sa_cons se_str (sa_cons (xv 6) (sa_cons (xi (SemE.r (xv 2)) (se_mod (xcall O.olaw_draw hr Z.glaw_draw Z.Flaw_draw.kp Z.blaw_draw (xp 0 (xp 1 (sa_cons se_int sa_nil)))) (se_blt1 c_len rfl Z.z_len b_len (SemE.r (xv 2))))) sa_nil))))))
  sb_nil)
  (sb_cons (ss_if (SemW.tst (sw_and (SemC.tst (sc_lt (xv 8) se_int)) (sw_and1 (SemC.tst (sc_gt (se_blt1 c_len rfl Z.z_len b_len (SemE.r (xv 5))) se_int)))))
  (sb_one (ss_ret (se_tup (sa_cons se_str (sa_cons (xv 6) (sa_cons (xi (SemE.r (xv 5)) (se_mod (xcall O.olaw_draw hr Z.glaw_draw Z.Flaw_draw.kp Z.blaw_draw (xp 0 (xp 1 (sa_cons se_int sa_nil)))) (se_blt1 c_len rfl Z.z_len b_len (SemE.r (xv 5))))) sa_nil))))))
  sb_nil)
  (sb_cons (ss_if (SemC.tst (sc_lt (xv 8) se_int))
  (sb_one (ss_ret (se_tup (sa_cons se_str (sa_cons (xv 6) (sa_cons (xv 7) sa_nil))))))
  sb_nil)
  (sb_one (ss_ret (se_tup (sa_cons se_str (sa_cons (xv 6) (sa_cons (xv 7) sa_nil))))))))))))))
theorem dvlaw_saying (Z : Txt K mg fa fd) (O : Oks P w K mg base fa fd W k) (cdv : Value) (A : Around) (outer : List PySem.Env) (s : Shared) (H : Hp) (E : XK) (hr : Room k (A.deeper (envOfC "_law_saying" (defScope slaw_saying) s.heap.objs.size (fa 9) cdv))) :
    SemB (cf W k) W (cxOf CX0 P w K mg base nlaw_saying "_law_saying" (defScope slaw_saying) (fa 9) cdv A outer s H E).nox (defBody slaw_saying) flaw_saying.body := by
  have nd : (cxOf CX0 P w K mg base nlaw_saying "_law_saying" (defScope slaw_saying) (fa 9) cdv A outer s H E).nox.N.Nodup := sclaw_saying.nd
  exact (sb_cons (ss_asgT (xv 2) (sg_tup rfl (gs1 8 nd (gs1 9 nd gs0))))
  (sb_cons (yset 5 nd (xcall O.olaw_draw hr Z.glaw_draw Z.Flaw_draw.kp Z.blaw_draw (xp 0 (xp 1 (sa_cons se_int sa_nil)))))
  (sb_cons (yset 6 nd (xi (SemE.r (xv 9)) (xcall O.olaw_draw hr Z.glaw_draw Z.Flaw_draw.kp Z.blaw_draw (xp 0 (xp 1 (sa_cons se_int sa_nil))))))
  (sb_cons (ss_if (SemW.tst (sw_or (SemC.tst (sc_eq (Room.u64 hr) (xv 4) se_int)) (sw_or1 (SemC.tst (sc_lt (xv 5) se_int)))))
  (sb_cons (ss_if (SemC.tst (sc_eq (Room.u64 hr) (se_blt1 c_len rfl Z.z_len b_len (SemE.r (xcall O.olaw_near hr Z.glaw_near Z.Flaw_near.kp Z.blaw_near (sa_cons (xv 3) (sa_cons se_str sa_nil))))) se_int))
  (sb_one (ss_ret (se_tup (sa_cons se_str (sa_cons (xv 6) (sa_cons (xcall O.olaw_plain hr Z.glaw_plain Z.Flaw_plain.kp Z.blaw_plain (xp 0 (xp 1 (sa_cons (xv 8) (sa_cons (se_add (xv 3) (se_lst (sa_cons (se_tup (sa_cons (xv 6) (sa_cons se_str sa_nil))) sa_nil))) sa_nil))))) sa_nil))))))
  sb_nil)
  (sb_one (ss_ret (xcall O.olaw_plain hr Z.glaw_plain Z.Flaw_plain.kp Z.blaw_plain (xp 0 (xp 1 (sa_cons (xv 8) (sa_cons (xv 3) sa_nil))))))))
  sb_nil)
  (sb_cons (ss_if (SemW.tst (sw_or (SemC.tst (sc_lt (xv 5) se_int)) (sw_or1 (SemW.tst (sw_and (SemC.tst (sc_gt (se_blt1 c_len rfl Z.z_len b_len (SemE.r (xv 3))) se_int)) (sw_and1 (SemC.tst (sc_gt (xv 5) se_int))))))))
  (sb_one (ss_ret (se_tup (sa_cons se_str (sa_cons (xcall O.olaw_saying hr Z.glaw_saying Z.Flaw_saying.kp Z.blaw_saying (xp 0 (xp 1 (sa_cons (xv 2) (sa_cons (xv 3) (sa_cons (se_sub (xv 4) se_int) sa_nil)))))) sa_nil)))))
  sb_nil)
  (sb_cons (ss_if (SemC.tst (sc_lt (xv 5) se_int))
  (sb_cons (yset 10 nd (xcall O.olaw_saying hr Z.glaw_saying Z.Flaw_saying.kp Z.blaw_saying (xp 0 (xp 1 (sa_cons (xv 2) (sa_cons (xv 3) (sa_cons (se_sub (xv 4) se_int) sa_nil)))))))
  (sb_one (ss_ret (se_tup (sa_cons (xi (SemE.r (se_lst (sa_cons se_str (sa_cons se_str sa_nil)))) (se_sub (xv 5) se_int)) (sa_cons (xv 10) (sa_cons (xcall O.olaw_saying hr Z.glaw_saying Z.Flaw_saying.kp Z.blaw_saying (xp 0 (xp 1 (sa_cons (xv 2) (sa_cons (xv 3) (sa_cons (se_sub (xv 4) se_int) sa_nil)))))) sa_nil)))))))
  sb_nil)
  (sb_cons (yset 7 nd (xi (SemE.r (se_lst (sa_cons se_str (sa_cons se_str (sa_cons se_str (sa_cons se_str sa_nil)))))) (se_sub (xv 5) se_int)))
  (sb_one (ss_ret (se_tup (sa_cons (xv 7) (sa_cons (xv 6) (sa_cons (xcall O.olaw_saying hr Z.glaw_saying Z.Flaw_saying.kp Z.blaw_saying (xp 0 (xp 1 (sa_cons (xv 2) (sa_cons (se_add (xv 3) (se_lst (sa_cons (se_tup (sa_cons (xv 6) (sa_cons (xv 7) sa_nil))) sa_nil))) (sa_cons (se_sub (xv 4) se_int) sa_nil)))))) sa_nil)))))))))))))
theorem dvlaw_sets (Z : Txt K mg fa fd) (O : Oks P w K mg base fa fd W k) (cdv : Value) (A : Around) (outer : List PySem.Env) (s : Shared) (H : Hp) (E : XK) (hr : Room k (A.deeper (envOfC "_law_sets" (defScope slaw_sets) s.heap.objs.size (fa 10) cdv))) :
    SemB (cf W k) W (cxOf CX0 P w K mg base nlaw_sets "_law_sets" (defScope slaw_sets) (fa 10) cdv A outer s H E).nox (defBody slaw_sets) flaw_sets.body := by
  have nd : (cxOf CX0 P w K mg base nlaw_sets "_law_sets" (defScope slaw_sets) (fa 10) cdv A outer s H E).nox.N.Nodup := sclaw_sets.nd
  exact (sb_cons (yset 1 nd (se_lst (sa_cons (se_lst sa_nil) sa_nil)))
  (sb_cons (ss_for PassesOwn.never rfl (si_range rfl Z.z_range (xv 0)) (gn 2 nd)
  (sb_one (yset 1 nd (se_add (xv 1) (se_lc (own := [("_law_chosen", 3)]) rfl nd (si_seq (xv 1)) (blkOk_by (own := [("_law_chosen", 3)]) (N := nlaw_sets) (sc := defScope slaw_sets) (by decide +kernel)) (by decide) (fun _ _ _ _ _ => (gn 3 nd)) (fun _ _ _ _ _ => pts_all) (fun _ _ _ _ _ => (se_add (xv 3) (se_lst (sa_cons (xv 2) sa_nil)))))))))
  (sb_one (ss_ret (xv 1)))))
theorem dvlaw_true (Z : Txt K mg fa fd) (O : Oks P w K mg base fa fd W k) (cdv : Value) (A : Around) (outer : List PySem.Env) (s : Shared) (H : Hp) (E : XK) (hr : Room k (A.deeper (envOfC "_law_true" (defScope slaw_true) s.heap.objs.size (fa 11) cdv))) :
    SemB (cf W k) W (cxOf CX0 P w K mg base nlaw_true "_law_true" (defScope slaw_true) (fa 11) cdv A outer s H E).nox (defBody slaw_true) flaw_true.body := by
  have nd : (cxOf CX0 P w K mg base nlaw_true "_law_true" (defScope slaw_true) (fa 11) cdv A outer s H E).nox.N.Nodup := sclaw_true.nd
  exact (sb_cons (ss_if (SemC.tst (sc_eq (Room.u64 hr) (xi (SemE.r (xv 0)) se_int) se_str))
  (sb_one (ss_ret (se_not (xcall O.olaw_true hr Z.glaw_true Z.Flaw_true.kp Z.blaw_true (sa_cons (xi (SemE.r (xv 0)) se_int) (sa_cons (xv 1) (sa_cons (xv 2) sa_nil)))))))
  sb_nil)
  (sb_cons (ss_if (SemC.tst (sc_eq (Room.u64 hr) (xi (SemE.r (xv 0)) se_int) se_str))
  (sb_one (ss_ret (se_and (xcall O.olaw_true hr Z.glaw_true Z.Flaw_true.kp Z.blaw_true (sa_cons (xi (SemE.r (xv 0)) se_int) (sa_cons (xv 1) (sa_cons (xv 2) sa_nil)))) (se_one (xcall O.olaw_true hr Z.glaw_true Z.Flaw_true.kp Z.blaw_true (sa_cons (xi (SemE.r (xv 0)) se_int) (sa_cons (xv 1) (sa_cons (xv 2) sa_nil))))))))
  sb_nil)
  (sb_cons (ss_if (SemC.tst (sc_eq (Room.u64 hr) (xi (SemE.r (xv 0)) se_int) se_str))
  (sb_one (ss_ret (se_or (xcall O.olaw_true hr Z.glaw_true Z.Flaw_true.kp Z.blaw_true (sa_cons (xi (SemE.r (xv 0)) se_int) (sa_cons (xv 1) (sa_cons (xv 2) sa_nil)))) (se_one (xcall O.olaw_true hr Z.glaw_true Z.Flaw_true.kp Z.blaw_true (sa_cons (xi (SemE.r (xv 0)) se_int) (sa_cons (xv 1) (sa_cons (xv 2) sa_nil))))))))
  sb_nil)
  (sb_cons (ss_if (SemC.tst (sc_eq (Room.u64 hr) (xi (SemE.r (xv 0)) se_int) se_str))
  (sb_one (ss_ret (se_blt1 (c_any rfl) rfl Z.z_any b_any (SemE.r (se_lc (own := [("_law_k", 5)]) rfl nd (si_range rfl Z.z_range (se_blt1 c_len rfl Z.z_len b_len (SemE.r (xv 1)))) (blkOk_by (own := [("_law_k", 5)]) (N := nlaw_true) (sc := defScope slaw_true) (by decide +kernel)) (by decide) (fun _ _ _ _ _ => (gn 5 nd)) (fun _ _ _ _ _ => pts_all) (fun _ _ _ _ _ => (xcall O.olaw_true hr Z.glaw_true Z.Flaw_true.kp Z.blaw_true (sa_cons (xi (SemE.r (xv 0)) se_int) (sa_cons (xv 1) (sa_cons (se_add (xv 2) (se_lst (sa_cons (se_tup (sa_cons (xi (SemE.r (xv 0)) se_int) (sa_cons (xv 5) sa_nil))) sa_nil))) sa_nil))))))))))
  sb_nil)
  (sb_cons (ss_if (SemC.tst (sc_eq (Room.u64 hr) (xi (SemE.r (xv 0)) se_int) se_str))
  (sb_one (ss_ret (se_blt1 (c_any rfl) rfl Z.z_any b_any (SemE.r (se_lc (own := [("_law_some", 6)]) rfl nd (si_seq (xcall O.olaw_sets hr Z.glaw_sets Z.Flaw_sets.kp Z.blaw_sets (sa_cons (se_blt1 c_len rfl Z.z_len b_len (SemE.r (xv 1))) sa_nil))) (blkOk_by (own := [("_law_some", 6)]) (N := nlaw_true) (sc := defScope slaw_true) (by decide +kernel)) (by decide) (fun _ _ _ _ _ => (gn 6 nd)) (fun _ _ _ _ _ => pts_all) (fun _ _ _ _ _ => (xcall O.olaw_true hr Z.glaw_true Z.Flaw_true.kp Z.blaw_true (sa_cons (xi (SemE.r (xv 0)) se_int) (sa_cons (xv 1) (sa_cons (se_add (xv 2) (se_lst (sa_cons (se_tup (sa_cons (xi (SemE.r (xv 0)) se_int) (sa_cons (xv 6) sa_nil))) sa_nil))) sa_nil))))))))))
  sb_nil)
  (sb_cons (yset 3 nd (xi (SemE.r (se_lc (own := [("_law_name", 7), ("_law_thing", 8)]) rfl nd (si_seq (xv 2)) (blkOk_by (own := [("_law_name", 7), ("_law_thing", 8)]) (N := nlaw_true) (sc := defScope slaw_true) (by decide +kernel)) (by decide) (fun _ _ _ _ _ => (sg_tup rfl (gs1 7 nd (gs1 8 nd gs0)))) (fun _ _ _ _ _ => pts_if (SemC.tst (sc_eq (Room.u64 hr) (xv 7) (xi (SemE.r (xv 0)) se_int)))) (fun _ _ _ _ _ => (xv 8)))) (se_neg se_int)))
  (sb_cons (ss_if (SemC.tst (sc_eq (Room.u64 hr) (xi (SemE.r (xv 0)) se_int) se_str))
  (sb_one (ss_ret (SemC.val (sc_eq (Room.u64 hr) (xi (SemE.r (xv 1)) (xv 3)) (xi (SemE.r (xv 0)) se_int)))))
  sb_nil)
  (sb_cons (yset 4 nd (xi (SemE.r (se_lc (own := [("_law_name", 7), ("_law_thing", 8)]) rfl nd (si_seq (xv 2)) (blkOk_by (own := [("_law_name", 7), ("_law_thing", 8)]) (N := nlaw_true) (sc := defScope slaw_true) (by decide +kernel)) (by decide) (fun _ _ _ _ _ => (sg_tup rfl (gs1 7 nd (gs1 8 nd gs0)))) (fun _ _ _ _ _ => pts_if (SemC.tst (sc_eq (Room.u64 hr) (xv 7) (xi (SemE.r (xv 0)) se_int)))) (fun _ _ _ _ _ => (xv 8)))) (se_neg se_int)))
  (sb_cons (ss_if (SemC.tst (sc_eq (Room.u64 hr) (xi (SemE.r (xv 0)) se_int) se_str))
  (sb_one (ss_ret (SemC.val (sc_in (Room.u65 hr) (xv 3) (SemE.r (xv 4))))))
  sb_nil)
  (sb_one (ss_ret (se_or (se_and (SemC.val (sc_lt (xv 3) (xv 4))) (se_one (SemC.val (sc_eq (Room.u64 hr) (xi (SemE.r (xv 0)) se_int) se_str)))) (se_one (se_and (SemC.val (sc_eq (Room.u64 hr) (xv 3) (xv 4))) (se_one (SemC.val (sc_eq (Room.u64 hr) (xi (SemE.r (xv 0)) se_int) se_str)))))))))))))))))
theorem dvlaw_sets_around (Z : Txt K mg fa fd) (O : Oks P w K mg base fa fd W k) (cdv : Value) (A : Around) (outer : List PySem.Env) (s : Shared) (H : Hp) (E : XK) (hr : Room k (A.deeper (envOfC "_law_sets_around" (defScope slaw_sets_around) s.heap.objs.size (fa 12) cdv))) :
    SemB (cf W k) W (cxOf CX0 P w K mg base nlaw_sets_around "_law_sets_around" (defScope slaw_sets_around) (fa 12) cdv A outer s H E).nox (defBody slaw_sets_around) flaw_sets_around.body := by
  have nd : (cxOf CX0 P w K mg base nlaw_sets_around "_law_sets_around" (defScope slaw_sets_around) (fa 12) cdv A outer s H E).nox.N.Nodup := sclaw_sets_around.nd
  exact (sb_cons (ss_if (SemC.tst (sc_eq (Room.u64 hr) (xi (SemE.r (xv 0)) se_int) se_str))
  (sb_one (ss_ret (se_add se_int (xcall O.olaw_sets_around hr Z.glaw_sets_around Z.Flaw_sets_around.kp Z.blaw_sets_around (sa_cons (xi (SemE.r (xv 0)) se_int) sa_nil)))))
  sb_nil)
  (sb_cons (ss_if (SemC.tst (sc_eq (Room.u64 hr) (xi (SemE.r (xv 0)) se_int) se_str))
  (sb_one (ss_ret (xcall O.olaw_sets_around hr Z.glaw_sets_around Z.Flaw_sets_around.kp Z.blaw_sets_around (sa_cons (xi (SemE.r (xv 0)) se_int) sa_nil))))
  sb_nil)
  (sb_cons (ss_if (SemC.tst (sc_in (Room.u65 hr) (xi (SemE.r (xv 0)) se_int) (SemE.r (se_tup (sa_cons se_str (sa_cons se_str (sa_cons se_str sa_nil)))))))
  (sb_one (ss_ret (se_blt1 (c_max rfl) rfl Z.z_max b_max (SemE.r (se_lc (own := [("_law_part", 1)]) rfl nd (si_seq (se_slc (SemE.r (xv 0)) (so_some se_int) so_none)) (blkOk_by (own := [("_law_part", 1)]) (N := nlaw_sets_around) (sc := defScope slaw_sets_around) (by decide +kernel)) (by decide) (fun _ _ _ _ _ => (gn 1 nd)) (fun _ _ _ _ _ => pts_all) (fun _ _ _ _ _ => (xcall O.olaw_sets_around hr Z.glaw_sets_around Z.Flaw_sets_around.kp Z.blaw_sets_around (sa_cons (xv 1) sa_nil))))))))
  sb_nil)
  (sb_one (ss_ret se_int)))))
theorem oks (Z : Txt K mg fa fd) : ∀ k, Oks P w K mg base fa fd W k
  | 0 => ⟨fn_none fun _ _ => rfl, fn_none fun _ _ => rfl, fn_none fun _ _ => rfl, fn_none fun _ _ => rfl, fn_none fun _ _ => rfl, fn_none fun _ _ => rfl, fn_none fun _ _ => rfl, fn_none fun _ _ => rfl, fn_none fun _ _ => rfl, fn_none fun _ _ => rfl, fn_none fun _ _ => rfl, fn_none fun _ _ => rfl, fn_none fun _ _ => rfl⟩
  | k + 1 => ⟨fn_sem Z.Fsubsets scsubsets rfl rfl (fun _ _ => rfl) (dvsubsets Z (oks Z k)),
    fn_sem Z.Fplainly scplainly rfl rfl (fun _ _ => rfl) (dvplainly Z (oks Z k)),
    fn_sem Z.Ftrue_within sctrue_within rfl rfl (fun _ _ => rfl) (dvtrue_within Z (oks Z k)),
    fn_sem Z.Ftrue_of sctrue_of rfl rfl (fun _ _ => rfl) (dvtrue_of Z (oks Z k)),
    fn_sem Z.Flaw_draw sclaw_draw rfl rfl (fun _ _ => rfl) (dvlaw_draw Z (oks Z k)),
    fn_sem Z.Flaw_marks sclaw_marks rfl rfl (fun _ _ => rfl) (dvlaw_marks Z (oks Z k)),
    fn_sem Z.Flaw_world sclaw_world rfl rfl (fun _ _ => rfl) (dvlaw_world Z (oks Z k)),
    fn_sem Z.Flaw_near sclaw_near rfl rfl (fun _ _ => rfl) (dvlaw_near Z (oks Z k)),
    fn_sem Z.Flaw_plain sclaw_plain rfl rfl (fun _ _ => rfl) (dvlaw_plain Z (oks Z k)),
    fn_sem Z.Flaw_saying sclaw_saying rfl rfl (fun _ _ => rfl) (dvlaw_saying Z (oks Z k)),
    fn_sem Z.Flaw_sets sclaw_sets rfl rfl (fun _ _ => rfl) (dvlaw_sets Z (oks Z k)),
    fn_sem Z.Flaw_true sclaw_true rfl rfl (fun _ _ => rfl) (dvlaw_true Z (oks Z k)),
    fn_sem Z.Flaw_sets_around sclaw_sets_around rfl rfl (fun _ _ => rfl) (dvlaw_sets_around Z (oks Z k))⟩
end
abbrev nlaw : List Str := ["_law_script", "_law_tape", "_law_world_here", "_law_saying_here", "_law_size", "_law_sets_here", "_law_letters", "_law_word", "_law_turn", "_law_found", "_law_k"]
theorem sclaw : FnScope nlaw ["_law_script"] (defScope slaw) := ⟨rfl, rfl, rfl, by decide +kernel, rfl, by decide +kernel, by decide +kernel⟩
def flaw : S := (.seq (.asg (.nm 2) (.call 6 (.cons (.tape 0) (.cons (.tape 1) .nil)))) (.seq (.asg (.nm 3) (.call 9 (.cons (.tape 0) (.cons (.tape 1) (.cons (.var 2) (.cons (.lst .nil) (.cons (.lit (.int 4)) .nil))))))) (.seq (.asg (.nm 4) (.call 4 (.cons (.tape 0) (.cons (.tape 1) (.cons (.lit (.int 4)) .nil))))) (.seq (.asg (.nm 5) (.call 12 (.cons (.var 3) .nil))) (.seq (.ife (.and (.cmp .lt (.var 5) (.lit (.int 2))) (.cmp .eq (.call 4 (.cons (.tape 0) (.cons (.tape 1) (.cons (.lit (.int 3)) .nil)))) (.lit (.int 0)))) (.asg (.nm 4) (.bin .add (.lit (.int 4)) (.call 4 (.cons (.tape 0) (.cons (.tape 1) (.cons (.lit (.int 2)) .nil)))))) .nop) (.seq (.asg (.nm 6) (.idx (.var 2) (.lit (.int 0)))) (.seq (.asg (.nm 7) (.join (.lit (.str (Str.ofString ""))) (.lc .range (.var 4) (.nm 10) [10] (.lit (.bool true)) (.idx (.var 6) (.bin .mod (.call 4 (.cons (.tape 0) (.cons (.tape 1) (.cons (.lit (.int 12)) .nil)))) (.blt .len (.cons (.var 6) .nil))))))) (.seq (.ife (.and (.cmp .eq (.call 4 (.cons (.tape 0) (.cons (.tape 1) (.cons (.lit (.int 2)) .nil)))) (.lit (.int 0))) (.cmp .eq (.var 5) (.lit (.int 0)))) (.asg (.nm 7) (.bin .add (.bin .mul (.idx (.var 6) (.lit (.int 0))) (.bin .add (.lit (.int 5)) (.call 4 (.cons (.tape 0) (.cons (.tape 1) (.cons (.lit (.int 3)) .nil)))))) (.idx (.var 6) (.neg (.lit (.int 1)))))) .nop) (.seq (.for .range (.idx (.lst (.cons (.lit (.int 0)) (.cons (.lit (.int 0)) (.cons (.lit (.int 0)) (.cons (.lit (.int 20)) .nil))))) (.call 4 (.cons (.tape 0) (.cons (.tape 1) (.cons (.lit (.int 4)) .nil))))) (.nm 8) (.asg (.nm 3) (.tup (.cons (.lit (.str (Str.ofString "not"))) (.cons (.var 3) .nil))))) (.seq (.asg (.nm 9) (.call 3 (.cons (.var 3) (.cons (.var 7) .nil)))) (.ret (.and (.blt .isBool (.cons (.var 9) .nil)) (.cmp .eq (.var 9) (.call 11 (.cons (.var 3) (.cons (.var 7) (.cons (.lst .nil) .nil)))))))))))))))))
section
variable {P : Program} {w : World} {K : PySem.W.Frag} {mg : Str → Option Value} {base : Heap} {fa : Nat → Addr} {fd : Nat → FuncData} {W k : Nat} {fl : Addr}
theorem dvlaw (Z : Txt K mg fa fd) (O : Oks P w K mg base fa fd W k) (cdv : Value) (A : Around) (outer : List PySem.Env) (s : Shared) (H : Hp) (E : XK) (hr : Room k (A.deeper (envOfC "law" (defScope slaw) s.heap.objs.size fl cdv))) :
    SemB (cf W k) W (cxOf CX0 P w K mg base nlaw "law" (defScope slaw) fl cdv A outer s H E).nox (List.tail (defBody slaw)) flaw := by
  have nd : (cxOf CX0 P w K mg base nlaw "law" (defScope slaw) fl cdv A outer s H E).nox.N.Nodup := sclaw.nd
  exact (sb_cons (yset 2 nd (xcall O.olaw_world hr Z.glaw_world Z.Flaw_world.kp Z.blaw_world (xp 0 (xp 1 sa_nil))))
  (sb_cons (yset 3 nd (xcall O.olaw_saying hr Z.glaw_saying Z.Flaw_saying.kp Z.blaw_saying (xp 0 (xp 1 (sa_cons (xv 2) (sa_cons (se_lst sa_nil) (sa_cons se_int sa_nil)))))))
  (sb_cons (yset 4 nd (xcall O.olaw_draw hr Z.glaw_draw Z.Flaw_draw.kp Z.blaw_draw (xp 0 (xp 1 (sa_cons se_int sa_nil)))))
  (sb_cons (yset 5 nd (xcall O.olaw_sets_around hr Z.glaw_sets_around Z.Flaw_sets_around.kp Z.blaw_sets_around (sa_cons (xv 3) sa_nil)))
  (sb_cons (ss_if (SemW.tst (sw_and (SemC.tst (sc_lt (xv 5) se_int)) (sw_and1 (SemC.tst (sc_eq (Room.u64 hr) (xcall O.olaw_draw hr Z.glaw_draw Z.Flaw_draw.kp Z.blaw_draw (xp 0 (xp 1 (sa_cons se_int sa_nil)))) se_int)))))
  (sb_one (yset 4 nd (se_add se_int (xcall O.olaw_draw hr Z.glaw_draw Z.Flaw_draw.kp Z.blaw_draw (xp 0 (xp 1 (sa_cons se_int sa_nil)))))))
  sb_nil)
  (sb_cons (yset 6 nd (xi (SemE.r (xv 2)) se_int))
  (sb_cons (yset 7 nd (se_join se_str (se_lc (own := [("_law_k", 10)]) rfl nd (si_range rfl Z.z_range (xv 4)) (blkOk_by (own := [("_law_k", 10)]) (N := nlaw) (sc := defScope slaw) (by decide +kernel)) (by decide) (fun _ _ _ _ _ => (gn 10 nd)) (fun _ _ _ _ _ => pts_all) (fun _ _ _ _ _ => (xi (SemE.r (xv 6)) (se_mod (xcall O.olaw_draw hr Z.glaw_draw Z.Flaw_draw.kp Z.blaw_draw (xp 0 (xp 1 (sa_cons se_int sa_nil)))) (se_blt1 c_len rfl Z.z_len b_len (SemE.r (xv 6)))))))))
  (sb_cons (ss_if (SemW.tst (sw_and (SemC.tst (sc_eq (Room.u64 hr) (xcall O.olaw_draw hr Z.glaw_draw Z.Flaw_draw.kp Z.blaw_draw (xp 0 (xp 1 (sa_cons se_int sa_nil)))) se_int)) (sw_and1 (SemC.tst (sc_eq (Room.u64 hr) (xv 5) se_int)))))
  (sb_one (yset 7 nd (se_add (se_mul (xi (SemE.r (xv 6)) se_int) (se_add se_int (xcall O.olaw_draw hr Z.glaw_draw Z.Flaw_draw.kp Z.blaw_draw (xp 0 (xp 1 (sa_cons se_int sa_nil)))))) (xi (SemE.r (xv 6)) (se_neg se_int)))))
  sb_nil)
  (sb_cons (ss_for PassesOwn.never rfl (si_range rfl Z.z_range (xi (SemE.r (se_lst (sa_cons se_int (sa_cons se_int (sa_cons se_int (sa_cons se_int sa_nil)))))) (xcall O.olaw_draw hr Z.glaw_draw Z.Flaw_draw.kp Z.blaw_draw (xp 0 (xp 1 (sa_cons se_int sa_nil)))))) (gn 8 nd)
  (sb_one (yset 3 nd (se_tup (sa_cons se_str (sa_cons (xv 3) sa_nil))))))
  (sb_cons (yset 9 nd (xcall O.otrue_of hr Z.gtrue_of Z.Ftrue_of.kp Z.btrue_of (sa_cons (xv 3) (sa_cons (xv 7) sa_nil))))
  (sb_one (ss_ret (se_and (se_isi c_isBool rfl Z.z_isinstance b_isinstance rfl Z.z_bool b_bool (SemE.r (xv 9))) (se_one (SemC.val (sc_eq (Room.u64 hr) (xv 9) (xcall O.olaw_true hr Z.glaw_true Z.Flaw_true.kp Z.blaw_true (sa_cons (xv 3) (sa_cons (xv 7) (sa_cons (se_lst sa_nil) sa_nil))))))))))))))))))))
theorem law_all (Z : Txt K mg fa fd) {fdl : FuncData} (Fl : Fun K "law" "law" slaw fl fdl) (he : ∀ ns : List Int, ns.length ≤ 63 → ∃ t, exs (cf W k) W flaw (env0 ns 11) 0 = some (.rt (.bool true) t)) : FnOk P w K mg base CX0 (k + 1) fl fdl ["_law_script"] (spLaw K) :=
  law_ok (n := 11) (rest := List.tail (defBody slaw)) Fl sclaw rfl rfl (by decide) rfl (by first | exact Or.inl rfl | exact Or.inr rfl) (dvlaw Z (oks Z k)) (fun _ _ _ _ _ _ => rfl) he
end
theorem all_mk {l : PySem.W.OpenLaw} {w : World} {K : PySem.W.Frag} {h : Heap} {mg : Str → Option Value} {fl : Addr} {W k : Nat} (X : K.In h) (G : h.Ns mainGlobals mg) (hfa : mg "law" = some (.ref fl))
    {f0 : Addr} {od0 an0 : Option Addr} {sl0 : Array (Option Value)} {oc0 kV0 dc0 pm0 cd0 ct0 : Value}
    (a0 : PySem.W.nsIn K mainGlobals "subsets" = some (some (.ref f0))) (l0 : K.lookup f0 = some ⟨oc0, od0, .func (PySem.W.fnOf "subsets" "subsets" (defArgs ssubsets) (defBody ssubsets) (defScope ssubsets) .none kV0 dc0 pm0 an0 cd0 ct0), sl0⟩) (c0 : PySem.W.codeIn K cd0 "subsets" = true) (k0 : PySem.W.keepIn K (.ref f0) = true)
    {f1 : Addr} {od1 an1 : Option Addr} {sl1 : Array (Option Value)} {oc1 kV1 dc1 pm1 cd1 ct1 : Value}
    (a1 : PySem.W.nsIn K mainGlobals "plainly" = some (some (.ref f1))) (l1 : K.lookup f1 = some ⟨oc1, od1, .func (PySem.W.fnOf "plainly" "plainly" (defArgs splainly) (defBody splainly) (defScope splainly) .none kV1 dc1 pm1 an1 cd1 ct1), sl1⟩) (c1 : PySem.W.codeIn K cd1 "plainly" = true) (k1 : PySem.W.keepIn K (.ref f1) = true)
    {f2 : Addr} {od2 an2 : Option Addr} {sl2 : Array (Option Value)} {oc2 kV2 dc2 pm2 cd2 ct2 : Value}
    (a2 : PySem.W.nsIn K mainGlobals "true_within" = some (some (.ref f2))) (l2 : K.lookup f2 = some ⟨oc2, od2, .func (PySem.W.fnOf "true_within" "true_within" (defArgs strue_within) (defBody strue_within) (defScope strue_within) .none kV2 dc2 pm2 an2 cd2 ct2), sl2⟩) (c2 : PySem.W.codeIn K cd2 "true_within" = true) (k2 : PySem.W.keepIn K (.ref f2) = true)
    {f3 : Addr} {od3 an3 : Option Addr} {sl3 : Array (Option Value)} {oc3 kV3 dc3 pm3 cd3 ct3 : Value}
    (a3 : PySem.W.nsIn K mainGlobals "true_of" = some (some (.ref f3))) (l3 : K.lookup f3 = some ⟨oc3, od3, .func (PySem.W.fnOf "true_of" "true_of" (defArgs strue_of) (defBody strue_of) (defScope strue_of) .none kV3 dc3 pm3 an3 cd3 ct3), sl3⟩) (c3 : PySem.W.codeIn K cd3 "true_of" = true) (k3 : PySem.W.keepIn K (.ref f3) = true)
    {f4 : Addr} {od4 an4 : Option Addr} {sl4 : Array (Option Value)} {oc4 kV4 dc4 pm4 cd4 ct4 : Value}
    (a4 : PySem.W.nsIn K mainGlobals "_law_draw" = some (some (.ref f4))) (l4 : K.lookup f4 = some ⟨oc4, od4, .func (PySem.W.fnOf "_law_draw" "_law_draw" (defArgs slaw_draw) (defBody slaw_draw) (defScope slaw_draw) .none kV4 dc4 pm4 an4 cd4 ct4), sl4⟩) (c4 : PySem.W.codeIn K cd4 "_law_draw" = true) (k4 : PySem.W.keepIn K (.ref f4) = true)
    {f5 : Addr} {od5 an5 : Option Addr} {sl5 : Array (Option Value)} {oc5 kV5 dc5 pm5 cd5 ct5 : Value}
    (a5 : PySem.W.nsIn K mainGlobals "_law_marks" = some (some (.ref f5))) (l5 : K.lookup f5 = some ⟨oc5, od5, .func (PySem.W.fnOf "_law_marks" "_law_marks" (defArgs slaw_marks) (defBody slaw_marks) (defScope slaw_marks) .none kV5 dc5 pm5 an5 cd5 ct5), sl5⟩) (c5 : PySem.W.codeIn K cd5 "_law_marks" = true) (k5 : PySem.W.keepIn K (.ref f5) = true)
    {f6 : Addr} {od6 an6 : Option Addr} {sl6 : Array (Option Value)} {oc6 kV6 dc6 pm6 cd6 ct6 : Value}
    (a6 : PySem.W.nsIn K mainGlobals "_law_world" = some (some (.ref f6))) (l6 : K.lookup f6 = some ⟨oc6, od6, .func (PySem.W.fnOf "_law_world" "_law_world" (defArgs slaw_world) (defBody slaw_world) (defScope slaw_world) .none kV6 dc6 pm6 an6 cd6 ct6), sl6⟩) (c6 : PySem.W.codeIn K cd6 "_law_world" = true) (k6 : PySem.W.keepIn K (.ref f6) = true)
    {f7 : Addr} {od7 an7 : Option Addr} {sl7 : Array (Option Value)} {oc7 kV7 dc7 pm7 cd7 ct7 : Value}
    (a7 : PySem.W.nsIn K mainGlobals "_law_near" = some (some (.ref f7))) (l7 : K.lookup f7 = some ⟨oc7, od7, .func (PySem.W.fnOf "_law_near" "_law_near" (defArgs slaw_near) (defBody slaw_near) (defScope slaw_near) .none kV7 dc7 pm7 an7 cd7 ct7), sl7⟩) (c7 : PySem.W.codeIn K cd7 "_law_near" = true) (k7 : PySem.W.keepIn K (.ref f7) = true)
    {f8 : Addr} {od8 an8 : Option Addr} {sl8 : Array (Option Value)} {oc8 kV8 dc8 pm8 cd8 ct8 : Value}
    (a8 : PySem.W.nsIn K mainGlobals "_law_plain" = some (some (.ref f8))) (l8 : K.lookup f8 = some ⟨oc8, od8, .func (PySem.W.fnOf "_law_plain" "_law_plain" (defArgs slaw_plain) (defBody slaw_plain) (defScope slaw_plain) .none kV8 dc8 pm8 an8 cd8 ct8), sl8⟩) (c8 : PySem.W.codeIn K cd8 "_law_plain" = true) (k8 : PySem.W.keepIn K (.ref f8) = true)
    {f9 : Addr} {od9 an9 : Option Addr} {sl9 : Array (Option Value)} {oc9 kV9 dc9 pm9 cd9 ct9 : Value}
    (a9 : PySem.W.nsIn K mainGlobals "_law_saying" = some (some (.ref f9))) (l9 : K.lookup f9 = some ⟨oc9, od9, .func (PySem.W.fnOf "_law_saying" "_law_saying" (defArgs slaw_saying) (defBody slaw_saying) (defScope slaw_saying) .none kV9 dc9 pm9 an9 cd9 ct9), sl9⟩) (c9 : PySem.W.codeIn K cd9 "_law_saying" = true) (k9 : PySem.W.keepIn K (.ref f9) = true)
    {f10 : Addr} {od10 an10 : Option Addr} {sl10 : Array (Option Value)} {oc10 kV10 dc10 pm10 cd10 ct10 : Value}
    (a10 : PySem.W.nsIn K mainGlobals "_law_sets" = some (some (.ref f10))) (l10 : K.lookup f10 = some ⟨oc10, od10, .func (PySem.W.fnOf "_law_sets" "_law_sets" (defArgs slaw_sets) (defBody slaw_sets) (defScope slaw_sets) .none kV10 dc10 pm10 an10 cd10 ct10), sl10⟩) (c10 : PySem.W.codeIn K cd10 "_law_sets" = true) (k10 : PySem.W.keepIn K (.ref f10) = true)
    {f11 : Addr} {od11 an11 : Option Addr} {sl11 : Array (Option Value)} {oc11 kV11 dc11 pm11 cd11 ct11 : Value}
    (a11 : PySem.W.nsIn K mainGlobals "_law_true" = some (some (.ref f11))) (l11 : K.lookup f11 = some ⟨oc11, od11, .func (PySem.W.fnOf "_law_true" "_law_true" (defArgs slaw_true) (defBody slaw_true) (defScope slaw_true) .none kV11 dc11 pm11 an11 cd11 ct11), sl11⟩) (c11 : PySem.W.codeIn K cd11 "_law_true" = true) (k11 : PySem.W.keepIn K (.ref f11) = true)
    {f12 : Addr} {od12 an12 : Option Addr} {sl12 : Array (Option Value)} {oc12 kV12 dc12 pm12 cd12 ct12 : Value}
    (a12 : PySem.W.nsIn K mainGlobals "_law_sets_around" = some (some (.ref f12))) (l12 : K.lookup f12 = some ⟨oc12, od12, .func (PySem.W.fnOf "_law_sets_around" "_law_sets_around" (defArgs slaw_sets_around) (defBody slaw_sets_around) (defScope slaw_sets_around) .none kV12 dc12 pm12 an12 cd12 ct12), sl12⟩) (c12 : PySem.W.codeIn K cd12 "_law_sets_around" = true) (k12 : PySem.W.keepIn K (.ref f12) = true)
    {f13 : Addr} {od13 an13 : Option Addr} {sl13 : Array (Option Value)} {oc13 kV13 dc13 pm13 cd13 ct13 : Value}
    (a13 : PySem.W.nsIn K mainGlobals "law" = some (some (.ref f13))) (l13 : K.lookup f13 = some ⟨oc13, od13, .func (PySem.W.fnOf "law" "law" (defArgs slaw) (defBody slaw) (defScope slaw) .none kV13 dc13 pm13 an13 cd13 ct13), sl13⟩) (c13 : PySem.W.codeIn K cd13 "law" = true) (k13 : PySem.W.keepIn K (.ref f13) = true)
    (z_any : PySem.W.nsIn K mainGlobals "any" = some none)
    (z_bool : PySem.W.nsIn K mainGlobals "bool" = some none)
    (z_dict : PySem.W.nsIn K mainGlobals "dict" = some none)
    (z_isinstance : PySem.W.nsIn K mainGlobals "isinstance" = some none)
    (z_len : PySem.W.nsIn K mainGlobals "len" = some none)
    (z_list : PySem.W.nsIn K mainGlobals "list" = some none)
    (z_max : PySem.W.nsIn K mainGlobals "max" = some none)
    (z_range : PySem.W.nsIn K mainGlobals "range" = some none)
    (z_reversed : PySem.W.nsIn K mainGlobals "reversed" = some none)
    (he : ∀ ns : List Int, ns.length ≤ 63 → ∃ t, exs (cf W k) W flaw (env0 ns 11) 0 = some (.rt (.bool true) t)) :
    ∃ fd : FuncData, (∀ (s : Shared) (v : Value), BindsTo s fd ⟨[v], []⟩ [("_law_script", v)]) ∧ ∀ base : Heap, K.In base → base.Ns mainGlobals mg → FnOk l.prog w K mg base CX0 (k + 1) fl fd ["_law_script"] (spLaw K) := by
  have e := hfa.symm.trans (PySem.W.mg_of X G a13)
  cases e
  have F0 := fun_mk (st := ssubsets) l0 c0 k0
  have F1 := fun_mk (st := splainly) l1 c1 k1
  have F2 := fun_mk (st := strue_within) l2 c2 k2
  have F3 := fun_mk (st := strue_of) l3 c3 k3
  have F4 := fun_mk (st := slaw_draw) l4 c4 k4
  have F5 := fun_mk (st := slaw_marks) l5 c5 k5
  have F6 := fun_mk (st := slaw_world) l6 c6 k6
  have F7 := fun_mk (st := slaw_near) l7 c7 k7
  have F8 := fun_mk (st := slaw_plain) l8 c8 k8
  have F9 := fun_mk (st := slaw_saying) l9 c9 k9
  have F10 := fun_mk (st := slaw_sets) l10 c10 k10
  have F11 := fun_mk (st := slaw_true) l11 c11 k11
  have F12 := fun_mk (st := slaw_sets_around) l12 c12 k12
  have F13 := fun_mk (st := slaw) l13 c13 k13
  let fa : Nat → Addr := fun | 0 => f0 | 1 => f1 | 2 => f2 | 3 => f3 | 4 => f4 | 5 => f5 | 6 => f6 | 7 => f7 | 8 => f8 | 9 => f9 | 10 => f10 | 11 => f11 | 12 => f12 | _ => 0
  let fd : Nat → FuncData := fun | 0 => PySem.W.fnOf "subsets" "subsets" (defArgs ssubsets) (defBody ssubsets) (defScope ssubsets) .none kV0 dc0 pm0 an0 cd0 ct0 | 1 => PySem.W.fnOf "plainly" "plainly" (defArgs splainly) (defBody splainly) (defScope splainly) .none kV1 dc1 pm1 an1 cd1 ct1 | 2 => PySem.W.fnOf "true_within" "true_within" (defArgs strue_within) (defBody strue_within) (defScope strue_within) .none kV2 dc2 pm2 an2 cd2 ct2 | 3 => PySem.W.fnOf "true_of" "true_of" (defArgs strue_of) (defBody strue_of) (defScope strue_of) .none kV3 dc3 pm3 an3 cd3 ct3 | 4 => PySem.W.fnOf "_law_draw" "_law_draw" (defArgs slaw_draw) (defBody slaw_draw) (defScope slaw_draw) .none kV4 dc4 pm4 an4 cd4 ct4 | 5 => PySem.W.fnOf "_law_marks" "_law_marks" (defArgs slaw_marks) (defBody slaw_marks) (defScope slaw_marks) .none kV5 dc5 pm5 an5 cd5 ct5 | 6 => PySem.W.fnOf "_law_world" "_law_world" (defArgs slaw_world) (defBody slaw_world) (defScope slaw_world) .none kV6 dc6 pm6 an6 cd6 ct6 | 7 => PySem.W.fnOf "_law_near" "_law_near" (defArgs slaw_near) (defBody slaw_near) (defScope slaw_near) .none kV7 dc7 pm7 an7 cd7 ct7 | 8 => PySem.W.fnOf "_law_plain" "_law_plain" (defArgs slaw_plain) (defBody slaw_plain) (defScope slaw_plain) .none kV8 dc8 pm8 an8 cd8 ct8 | 9 => PySem.W.fnOf "_law_saying" "_law_saying" (defArgs slaw_saying) (defBody slaw_saying) (defScope slaw_saying) .none kV9 dc9 pm9 an9 cd9 ct9 | 10 => PySem.W.fnOf "_law_sets" "_law_sets" (defArgs slaw_sets) (defBody slaw_sets) (defScope slaw_sets) .none kV10 dc10 pm10 an10 cd10 ct10 | 11 => PySem.W.fnOf "_law_true" "_law_true" (defArgs slaw_true) (defBody slaw_true) (defScope slaw_true) .none kV11 dc11 pm11 an11 cd11 ct11 | 12 => PySem.W.fnOf "_law_sets_around" "_law_sets_around" (defArgs slaw_sets_around) (defBody slaw_sets_around) (defScope slaw_sets_around) .none kV12 dc12 pm12 an12 cd12 ct12 | _ => PySem.W.fnOf "subsets" "subsets" (defArgs ssubsets) (defBody ssubsets) (defScope ssubsets) .none kV0 dc0 pm0 an0 cd0 ct0
  have Z : Txt K mg fa fd := ⟨F0,
    PySem.W.mg_of X G a0,
    F0.binds (ps := psubsets) fun _ _ _ _ _ _ us hl => match us, hl with | [_], _ => rfl,
    F1,
    PySem.W.mg_of X G a1,
    F1.binds (ps := pplainly) fun _ _ _ _ _ _ us hl => match us, hl with | [_, _, _], _ => rfl,
    F2,
    PySem.W.mg_of X G a2,
    F2.binds (ps := ptrue_within) fun _ _ _ _ _ _ us hl => match us, hl with | [_, _, _], _ => rfl,
    F3,
    PySem.W.mg_of X G a3,
    F3.binds (ps := ptrue_of) fun _ _ _ _ _ _ us hl => match us, hl with | [_, _], _ => rfl,
    F4,
    PySem.W.mg_of X G a4,
    F4.binds (ps := plaw_draw) fun _ _ _ _ _ _ us hl => match us, hl with | [_, _, _], _ => rfl,
    F5,
    PySem.W.mg_of X G a5,
    F5.binds (ps := plaw_marks) fun _ _ _ _ _ _ us hl => match us, hl with | [_, _, _], _ => rfl,
    F6,
    PySem.W.mg_of X G a6,
    F6.binds (ps := plaw_world) fun _ _ _ _ _ _ us hl => match us, hl with | [_, _], _ => rfl,
    F7,
    PySem.W.mg_of X G a7,
    F7.binds (ps := plaw_near) fun _ _ _ _ _ _ us hl => match us, hl with | [_, _], _ => rfl,
    F8,
    PySem.W.mg_of X G a8,
    F8.binds (ps := plaw_plain) fun _ _ _ _ _ _ us hl => match us, hl with | [_, _, _, _], _ => rfl,
    F9,
    PySem.W.mg_of X G a9,
    F9.binds (ps := plaw_saying) fun _ _ _ _ _ _ us hl => match us, hl with | [_, _, _, _, _], _ => rfl,
    F10,
    PySem.W.mg_of X G a10,
    F10.binds (ps := plaw_sets) fun _ _ _ _ _ _ us hl => match us, hl with | [_], _ => rfl,
    F11,
    PySem.W.mg_of X G a11,
    F11.binds (ps := plaw_true) fun _ _ _ _ _ _ us hl => match us, hl with | [_, _, _], _ => rfl,
    F12,
    PySem.W.mg_of X G a12,
    F12.binds (ps := plaw_sets_around) fun _ _ _ _ _ _ us hl => match us, hl with | [_], _ => rfl,
    PySem.W.mg_none_of X G z_any,
    PySem.W.mg_none_of X G z_bool,
    PySem.W.mg_none_of X G z_dict,
    PySem.W.mg_none_of X G z_isinstance,
    PySem.W.mg_none_of X G z_len,
    PySem.W.mg_none_of X G z_list,
    PySem.W.mg_none_of X G z_max,
    PySem.W.mg_none_of X G z_range,
    PySem.W.mg_none_of X G z_reversed⟩
  exact ⟨PySem.W.fnOf "law" "law" (defArgs slaw) (defBody slaw) (defScope slaw) .none kV13 dc13 pm13 an13 cd13 ct13, fun s v => .of_eq rfl, fun base hk hg => law_all Z F13 he⟩
end Lw

set_option Elab.async false
set_option linter.all false
set_option maxRecDepth 100000
set_option maxHeartbeats 400000
namespace Lw
open PySem PySem.Spec PyProof.Rows L2 Pl
/-! ### draws -/
def seedD (ns : List Int) : Int := (ns.take 4).foldl (fun s c => (s * 131 + c) % 1000003) (ns.length : Int)
def drawD (ns : List Int) (t m : Int) : Int := if t + 1 ≤ (ns.length : Int) then ns.getD t.toNat 0 % m else (seedD ns + 7) * ((t + 1) * (t + 1) + 48271) % 1000003 % m
theorem drawD_lo {ns : List Int} {t m : Int} (hm : 0 < m) : 0 ≤ drawD ns t m := by
  unfold drawD
  split <;> exact Int.emod_nonneg _ (by omega)
theorem drawD_hi {ns : List Int} {t m : Int} (hm : 0 < m) : drawD ns t m < m := by
  unfold drawD
  split <;> exact Int.emod_lt_of_pos _ hm
theorem seed_bd : ∀ (cs : List Int) (s : Int), 0 ≤ s → s ≤ 1000003 → 0 ≤ cs.foldl (fun s c => (s * 131 + c) % 1000003) s ∧ cs.foldl (fun s c => (s * 131 + c) % 1000003) s ≤ 1000003
  | [], s, h1, h2 => ⟨h1, h2⟩
  | c :: cs, s, h1, h2 => seed_bd cs _ (Int.emod_nonneg _ (by decide)) (Int.le_of_lt (Int.emod_lt_of_pos _ (by decide)))
theorem seedD_bd {ns : List Int} (h : ns.length ≤ 63) : 0 ≤ seedD ns ∧ seedD ns ≤ 1000003 := seed_bd _ _ (by omega) (by omega)
theorem cut4 (ns : List Int) : Pl.cutD (ns.map PyData.int) none (some 4) = (ns.take 4).map PyData.int := by
  unfold Pl.cutD
  rw [HT.sIx_none, show (some (4 : Int)) = some ((4 : Nat) : Int) from rfl, HT.sIx_nat, List.drop_zero, Nat.sub_zero, List.length_map, List.map_take]
  by_cases h : 4 ≤ ns.length
  · rw [Nat.min_eq_left h]
  · rw [Nat.min_eq_right (by omega), List.take_of_length_le (by simp), List.take_of_length_le (by simp; omega)]
section
variable {W k : Nat} {ns : List Int} {t m : Int}
theorem draw_loop (C : CallF) (m : PyData) : ∀ (cs : List Int) (s : Int) (x : Option LV) (t : Int), 0 ≤ s → s ≤ 1000003 →
    ∃ x', forL (lp C W (.asg (.nm 3) (.bin .mod (.bin .add (.bin .mul (.var 3) (.lit (.int 131))) (.var 4)) (.lit (.int 1000003))))) (.nm 4) (cs.map PyData.int) [some (.scr ns), some .tp, some (.d m), some (.d (.int s)), x] t =
      some (.nx [some (.scr ns), some .tp, some (.d m), some (.d (.int (cs.foldl (fun s c => (s * 131 + c) % 1000003) s))), x'] t)
  | [], s, x, t, _, _ => ⟨x, rfl⟩
  | c :: cs, s, x, t, h1, h2 => by
    obtain ⟨x', e⟩ := draw_loop C m cs ((s * 131 + c) % 1000003) (some (.d (.int c))) t (Int.emod_nonneg _ (by decide)) (Int.le_of_lt (Int.emod_lt_of_pos _ (by decide)))
    refine ⟨x', ?_⟩
    have b1 : s.natAbs < 18446744073709551616 := by omega
    rw [List.map_cons, forL]
    simp [x_lp, b1]
    exact e
theorem draw_eq (h : ns.length ≤ 63) (ht : 0 ≤ t) (ht2 : t ≤ 1000000) (hm : 0 < m) : cf W (k + 1) ilaw_draw [.scr ns, .tp, .d (.int m)] t = some (.int (drawD ns t m), t + 1) := by
  unfold drawD
  by_cases hl : t + 1 ≤ (ns.length : Int)
  · have e1 : atI (ns.map PyData.int) t = some (.int (ns.getD t.toNat 0)) := by
      rw [atI_ok ht (by simp; omega), List.getElem_map, List.getD_eq_getElem?_getD, List.getElem?_eq_getElem (by omega)]
      rfl
    rw [ulaw_draw]
    simp [flaw_draw, hl, hm, e1]
  · obtain ⟨x', e⟩ := draw_loop (W := W) (ns := ns) (cf W k) (.int m) (ns.take 4) (ns.length : Int) none (t + 1) (by omega) (by omega)
    obtain ⟨s0, s1⟩ := seedD_bd h
    have e' : (ns.take 4).foldl (fun s c => (s * 131 + c) % 1000003) (ns.length : Int) = seedD ns := rfl
    rw [e', List.map_take] at e
    have b1 : (seedD ns + 7).natAbs < 18446744073709551616 := by omega
    have b3 : (t + 1).natAbs < 18446744073709551616 := by omega
    rw [ulaw_draw]
    simp [flaw_draw, hl, hm, cut4, e, b1, b3]
end
/-! ### marks -/
def signsD : List Nat := (sigA ++ sigB).cps.toList
theorem sig_len : sigA.length + sigB.length ≤ sizeLine := by
  have h1 : sigA.length = 62 := by decide +kernel
  have h2 : sigB.length = 32 := by decide +kernel
  rw [h1, h2]
  decide
theorem sig_cat : (sigA ++ sigB).cps.toList = signsD := rfl
theorem signsD_len : signsD.length = 94 := by decide +kernel
theorem signsD_ok : signsD.all (fun c => decide (c < 127)) = true := by decide +kernel
def signAt (i : Int) : PyData := sign (signsD.getD (i % 94).toNat 0)
def marksD (ns : List Int) (t : Int) (n : Nat) : List PyData := (List.range n).map fun (k : Nat) => signAt (drawD ns t 94 + (1 + drawD ns (t + 1) 23) * (k : Int))
theorem signAt_ok (i : Int) : ∃ c : Nat, signAt i = sign c ∧ c < 127 := by
  refine ⟨_, rfl, ?_⟩
  have h1 := Int.emod_nonneg i (b := 94) (by decide)
  have h2 := Int.emod_lt_of_pos i (b := 94) (by decide)
  have hl := signsD_len
  have hi : (i % 94).toNat < signsD.length := by omega
  rw [List.getD_eq_getElem?_getD, List.getElem?_eq_getElem hi, Option.getD_some]
  exact of_decide_eq_true (List.all_eq_true.mp signsD_ok _ (List.getElem_mem hi))
theorem okSign {c : Nat} (h : c < 127) : OkMark (sign c) := by
  refine ⟨?_, by simp [sign, PyData.depth]⟩
  simp [sign, PyData.canLay0, PyData.strOk]
  omega
section
variable {W k : Nat} {ns : List Int} {t m : Int}
theorem marks_turn {C : CallF} {sg : Str} {x y z : PyData} {a b : Int} {i : Nat} {t : Int} (hsg : sg.cps.toList = signsD) (hsl : sg.length ≤ sizeLine) (c1 : b.natAbs < 18446744073709551616) :
    lcF C [some (.scr ns), some .tp, some (.d x), some (.d (.str sg)), some (.d (.int a)), some (.d (.int b)), none] [6] (.nm 6) (.lit (.bool true)) (.idx (.var 3) (.bin .mod (.bin .add (.var 4) (.bin .mul (.var 5) (.var 6))) (.lit (.int 94)))) (.int (i : Nat)) t = some (some (signAt (a + b * (i : Int))), t) := by
  have g1 := Int.emod_nonneg (a + b * (i : Int)) (b := 94) (by decide)
  have g2 := Int.emod_lt_of_pos (a + b * (i : Int)) (b := 94) (by decide)
  have e3 : atI sg.cps.toList ((a + b * (i : Int)) % 94) = some (signsD.getD ((a + b * (i : Int)) % 94).toNat 0) := by
    have hl := signsD_len
    rw [hsg, atI_ok g1 (by omega), List.getD_eq_getElem?_getD, List.getElem?_eq_getElem (by omega), Option.getD_some]
  simp [c1, hsl, e3, signAt]
theorem marks_eq {n : Nat} (h : ns.length ≤ 63) (ht : 0 ≤ t) (ht2 : t ≤ 900000) (hn : n ≤ 100) : cf W (k + 2) ilaw_marks [.scr ns, .tp, .d (.int (n : Nat))] t = some (.list (marksD ns t n), t + 1 + 1) := by
  have d1 := draw_eq (W := W) (k := k) (m := 94) h ht (by omega) (by decide)
  have d2 := draw_eq (W := W) (k := k) (t := t + 1) (m := 23) h (by omega) (by omega) (by decide)
  have b1 := drawD_lo (ns := ns) (t := t + 1) (m := 23) (by decide)
  have b2 := drawD_hi (ns := ns) (t := t + 1) (m := 23) (by decide)
  have e0 := sig_len
  have hsg := sig_cat
  have hsl : (sigA ++ sigB).length ≤ sizeLine := by
    have : (sigA ++ sigB).length = 94 := by
      show (sigA ++ sigB).cps.size = 94
      rw [← Array.length_toList, hsg, signsD_len]
    rw [this]
    decide
  generalize hs : sigA ++ sigB = sg at hsg hsl
  have q1 : (n : Int) < 4611686018427387904 := by omega
  have q2 : -4611686018427387904 ≤ (n : Int) := by omega
  have q3 : n < sizeLine := Nat.lt_of_le_of_lt hn (by decide)
  have q4 : n < 1000000000 := by omega
  generalize hb : 1 + drawD ns (t + 1) 23 = b
  generalize ha : drawD ns t 94 = a at d1
  have lc := lc_range n (t + 1 + 1) fun i _ => marks_turn (ns := ns) (C := cf W (k + 1)) (x := .int (n : Nat)) (y := .none) (z := .none) (a := a) (b := b) (i := i) (t := t + 1 + 1) hsg hsl (by omega)
  rw [ulaw_marks]
  unfold marksD
  rw [hb, ha]
  unfold flaw_marks
  generalize sigA = sa at hs e0 ⊢
  generalize sigB = sb at hs e0 ⊢
  simp [d1, d2, hb, e0, hs, q1, q2, q3, q4, lc]
/-- one to four marks: signs, pairs, texts, numbers -/
def thingsD (ns : List Int) (t : Int) (n : Nat) : List PyData :=
  if drawD ns (t + 2) 6 = 1 then (List.range n).map fun k => .tuple [(marksD ns t n).getD 0 .none, .int (k : Nat)]
  else if drawD ns (t + 2) 6 = 2 then (List.range n).map fun k => match (marksD ns t n).getD 0 .none with
    | .str z => .str (Txt.mul z ((k : Nat) + 1))
    | _ => .none
  else if drawD ns (t + 2) 6 = 3 then (List.range n).map fun k => .int (7 * (k : Nat))
  else marksD ns t n
end
end Lw

set_option Elab.async false
set_option linter.all false
set_option maxRecDepth 100000
set_option maxHeartbeats 400000
namespace Lw
open PySem PySem.Spec PyProof.Rows L2 Pl
/-! ### sayings -/
theorem str_beq (a b : String) : (Str.ofString a == Str.ofString b) = (a == b) := by
  rw [Bool.eq_iff_iff, beq_iff_eq, beq_iff_eq]
  constructor
  · intro h
    rw [Str.ofString_eq_toList, Str.ofString_eq_toList] at h
    have h2 := congrArg (fun x : Str => x.cps.toList) h
    simp only at h2
    exact String.toList_inj.mp (List.map_inj_right (fun x y e => Char.ext (UInt32.toNat_inj.mp e)) |>.mp h2)
  · intro h
    rw [h]
@[simp] theorem at0 {x : PyData} {xs : List PyData} : atI (x :: xs) 0 = some x := by
  rw [atI_ok (by omega) (by simp)]
  rfl
@[simp] theorem at1 {x y : PyData} {xs : List PyData} : atI (x :: y :: xs) 1 = some y := by
  rw [atI_ok (by omega) (by simp; omega)]
  rfl
@[simp] theorem at2 {x y z : PyData} {xs : List PyData} : atI (x :: y :: z :: xs) 2 = some z := by
  rw [atI_ok (by omega) (by simp; omega)]
  rfl
inductive Sy where
  | letter (p c : Str)
  | within (p q : Str)
  | ahead (p q : Str)
  | same (p q : Str)
  | not (a : Sy)
  | and (a b : Sy)
  | or (a b : Sy)
  | place (x : Str) (a : Sy)
  | set (x : Str) (a : Sy)
abbrev wd (s : String) : PyData := .str (Str.ofString s)
def Sy.D : Sy → PyData
  | .letter p c => .tuple [wd "letter", .str p, .str c]
  | .within p q => .tuple [wd "within", .str p, .str q]
  | .ahead p q => .tuple [wd "ahead", .str p, .str q]
  | .same p q => .tuple [wd "same", .str p, .str q]
  | .not a => .tuple [wd "not", a.D]
  | .and a b => .tuple [wd "and", a.D, b.D]
  | .or a b => .tuple [wd "or", a.D, b.D]
  | .place x a => .tuple [wd "place", .str x, a.D]
  | .set x a => .tuple [wd "set", .str x, a.D]
def Sy.depth : Sy → Nat
  | .not a => a.depth + 1
  | .and a b => max a.depth b.depth + 1
  | .or a b => max a.depth b.depth + 1
  | .place _ a => a.depth + 1
  | .set _ a => a.depth + 1
  | _ => 0
abbrev Gv := Str → PyData
def up {α : Type} (g : Str → α) (x : Str) (v : α) : Str → α := fun y => if y = x then v else g y
def subs (n : Nat) : List (List Nat) := (List.range n).foldl (fun f p => f ++ f.map (· ++ [p])) [[]]
def setD (S : List Nat) : PyData := .list (S.map fun i => .int (i : Nat))
def tv (w : List Nat) : Sy → Gv → Bool
  | .letter p c, g => match g p with
    | .int i => (⟨#[w.getD i.toNat 0]⟩ : Str) == c
    | _ => false
  | .within p q, g => match g p, g q with
    | .int i, .list xs => xs.any fun z => PyData.eqv z (.int i)
    | _, _ => false
  | .ahead p q, g => match g p, g q with
    | .int i, .int j => decide (i < j)
    | _, _ => false
  | .same p q, g => match g p, g q with
    | .int i, .int j => i == j
    | _, _ => false
  | .not a, g => !tv w a g
  | .and a b, g => tv w a g && tv w b g
  | .or a b, g => tv w a g || tv w b g
  | .place x a, g => (List.range w.length).any fun i => tv w a (up g x (.int (i : Nat)))
  | .set x a, g => (subs w.length).any fun S => tv w a (up g x (setD S))
/-- the sorts of the names: false a place, true a set -/
abbrev Ga := Str → Option Bool
def WF : Sy → Ga → Prop
  | .letter p _, Γ => Γ p = some false
  | .within p q, Γ => Γ p = some false ∧ Γ q = some true
  | .ahead p q, Γ => Γ p = some false ∧ Γ q = some false
  | .same p q, Γ => Γ p = some false ∧ Γ q = some false
  | .not a, Γ => WF a Γ
  | .and a b, Γ => WF a Γ ∧ WF b Γ
  | .or a b, Γ => WF a Γ ∧ WF b Γ
  | .place x a, Γ => WF a (up Γ x (some false))
  | .set x a, Γ => WF a (up Γ x (some true))
def OKg (n : Nat) (Γ : Ga) (g : Gv) : Prop := ∀ x, (Γ x = some false → ∃ i : Nat, i < n ∧ g x = .int (i : Nat)) ∧ (Γ x = some true → ∃ S, g x = setD S)
theorem OKg.place {n : Nat} {Γ : Ga} {g : Gv} (h : OKg n Γ g) (x : Str) {i : Nat} (hi : i < n) : OKg n (up Γ x (some false)) (up g x (.int (i : Nat))) := fun y => by
  unfold up
  by_cases e : y = x
  · simp only [if_pos e]
    exact ⟨fun _ => ⟨i, hi, rfl⟩, fun z => by cases z⟩
  · simp only [if_neg e]
    exact h y
theorem OKg.set {n : Nat} {Γ : Ga} {g : Gv} (h : OKg n Γ g) (x : Str) (S : List Nat) : OKg n (up Γ x (some true)) (up g x (setD S)) := fun y => by
  unfold up
  by_cases e : y = x
  · simp only [if_pos e]
    exact ⟨fun z => (by cases z), fun _ => ⟨S, rfl⟩⟩
  · simp only [if_neg e]
    exact h y
theorem look_put {kvs : List (L2.Key × PyData)} {k j : L2.Key} {d : PyData} : lookD (putD kvs k d) j = if k = j then some d else lookD kvs j := by
  unfold putD
  split
  · rename_i h
    induction kvs with
    | nil => cases h
    | cons p r ih =>
      obtain ⟨i, u⟩ := p
      rw [List.map_cons]
      by_cases e : i = k
      · subst e
        by_cases e2 : i = j
        · simp [lookD, List.find?_cons, e2]
        · have hn : lookD ((i, u) :: r) j = lookD r j := by simp [lookD, List.find?_cons, e2]
          rw [if_neg e2, hn]
          have : lookD (r.map fun kv => if kv.1 = i then (kv.1, d) else kv) j = lookD r j := by
            clear h ih hn
            induction r with
            | nil => rfl
            | cons q r ih2 =>
              obtain ⟨i3, u3⟩ := q
              rw [List.map_cons]
              by_cases e3 : i3 = i
              · subst e3
                simp only [if_true]
                have a1 : ∀ v (l : List (L2.Key × PyData)), lookD ((i3, v) :: l) j = lookD l j := fun v l => by simp [lookD, List.find?_cons, e2]
                rw [a1, a1, ih2]
              · simp only [if_neg e3]
                by_cases e4 : i3 = j
                · simp [lookD, List.find?_cons, e4]
                · have a1 : ∀ v (l : List (L2.Key × PyData)), lookD ((i3, v) :: l) j = lookD l j := fun v l => by simp [lookD, List.find?_cons, e4]
                  rw [a1, a1, ih2]
          simp only [if_true]
          have a1 : ∀ v (l : List (L2.Key × PyData)), lookD ((i, v) :: l) j = lookD l j := fun v l => by simp [lookD, List.find?_cons, e2]
          rw [a1, this]
      · simp only [if_neg e]
        have h' : (r.any fun kv => decide (kv.1 = k)) = true := by simpa [e] using h
        by_cases e4 : i = j
        · have : ¬ k = j := fun z => e (e4.trans z.symm)
          simp [lookD, List.find?_cons, e4, this]
        · have a1 : ∀ v (l : List (L2.Key × PyData)), lookD ((i, v) :: l) j = lookD l j := fun v l => by simp [lookD, List.find?_cons, e4]
          rw [a1, a1]
          exact ih h'
  · rename_i h
    have h' : (kvs.any fun kv => decide (kv.1 = k)) = false := (Bool.not_eq_true _).mp h
    by_cases e : k = j
    · subst e
      rw [if_pos rfl]
      have : lookD kvs k = none := by
        unfold lookD
        rw [List.find?_eq_none.mpr]
        · rfl
        · intro x hx hk
          have := List.any_eq_false.mp h' x hx
          exact this hk
      unfold lookD at this ⊢
      rw [List.find?_append]
      cases hq : kvs.find? fun kv => decide (kv.1 = k) with
      | none => simp [List.find?_cons]
      | some p =>
        rw [hq] at this
        cases this
    · rw [if_neg e]
      unfold lookD
      rw [List.find?_append]
      cases hq : kvs.find? fun kv => decide (kv.1 = j) with
      | none => simp [List.find?_cons, e]
      | some p => rfl
theorem put_len {kvs : List (L2.Key × PyData)} {k : L2.Key} {d : PyData} : (putD kvs k d).length ≤ kvs.length + 1 := by
  unfold putD
  split
  · rw [List.length_map]
    omega
  · simp
end Lw

set_option Elab.async false
set_option linter.all false
set_option maxRecDepth 100000
set_option maxHeartbeats 400000
namespace Lw
open PySem PySem.Spec PyProof.Rows L2 Pl
/-! ### the program's and the law's own trying -/
theorem subs_succ (n : Nat) : subs (n + 1) = subs n ++ (subs n).map (· ++ [n]) := by
  unfold subs
  rw [List.range_succ, List.foldl_append]
  rfl
theorem subs_len : ∀ n : Nat, (subs n).length = 2 ^ n
  | 0 => rfl
  | n + 1 => by
    rw [subs_succ, List.length_append, List.length_map, subs_len n, Nat.pow_succ]
    omega
theorem subs_in : ∀ (n : Nat), ∀ S ∈ subs n, S.length ≤ n
  | 0, S, h => by
    have h : S ∈ [[]] := h
    rw [List.mem_singleton.mp h]
    exact Nat.le_refl 0
  | n + 1, S, h => by
    rw [subs_succ] at h
    rcases List.mem_append.mp h with h | h
    · exact Nat.le_succ_of_le (subs_in n S h)
    · obtain ⟨R, hR, rfl⟩ := List.mem_map.mp h
      have := subs_in n R hR
      simp
      omega
abbrev bSub : S := .asg (.nm 1) (.bin .add (.var 1) (.lc .seq (.var 1) (.nm 3) [3] (.lit (.bool true)) (.bin .add (.var 3) (.lst (.cons (.var 2) .nil)))))
section
variable {W k : Nat} {t : Int}
theorem sub_turns (C : CallF) (x0 : Option LV) : ∀ (n : Nat), n ≤ 10 → ∃ x2 x3, forL (lp C W bSub) (.nm 2) ((List.range n).map fun i => PyData.int (i : Nat)) [x0, some (.d (.list [.list []])), none, none] t = some (.nx [x0, some (.d (.list ((subs n).map setD))), x2, x3] t) := by
  intro n hn
  obtain ⟨env, t', h1, x2, x3, h2, h3⟩ := forL_ok0 (f := lp C W bSub) (tg := .nm 2) (fun (i : Nat) env t1 => ∃ x2 x3, env = [x0, some (.d (.list ((subs i).map setD))), x2, x3] ∧ t1 = t) (xs := (List.range n).map fun i => PyData.int (i : Nat)) (env := [x0, some (.d (.list [.list []])), none, none]) (t := t) ⟨none, none, rfl, rfl⟩ fun i d env t1 hd ⟨x2, x3, e1, e2⟩ => by
    subst e1 e2
    have hi : i < n := by simpa using (List.getElem?_eq_some_iff.mp hd).1
    have hd' : d = .int (i : Nat) := by
      obtain ⟨_, hq⟩ := List.getElem?_eq_some_iff.mp hd
      simp at hq
      exact hq.symm
    subst hd'
    have hl := subs_len i
    have hp : 2 ^ i ≤ 2 ^ 10 := Nat.pow_le_pow_right (by omega) (by omega)
    have lc := lcLoop_map (f := lcF C [x0, some (.d (.list ((subs i).map setD))), some (.d (.int (i : Nat))), x3] [3] (.nm 3) (.lit (.bool true)) (.bin .add (.var 3) (.lst (.cons (.var 2) .nil)))) (g := fun d => match d with | .list xs => .list (xs ++ [.int (i : Nat)]) | _ => .none) ((subs i).map setD) t1 fun d hd => by
      obtain ⟨S, hS, rfl⟩ := List.mem_map.mp hd
      have h1 := subs_in i S hS
      have h2 : S.length + 1 ≤ sizeLine := Nat.le_trans (show S.length + 1 ≤ 11 by omega) (by decide)
      simp [setD, h2]
    have e := ev_lcS (C := C) (k := .seq) (x := .list ((subs i).map setD)) (xs := (subs i).map setD) (it := .var 1) (env := [x0, some (.d (.list ((subs i).map setD))), some (.d (.int (i : Nat))), x3]) (t := t1) (t1 := t1) (by simp) rfl (by rw [List.length_map, hl]; omega) lc
    have em : ((subs i).map setD).map (fun d => match d with | .list xs => PyData.list (xs ++ [.int (i : Nat)]) | _ => .none) = ((subs i).map (· ++ [i])).map setD := by
      rw [List.map_map, List.map_map]
      exact List.map_congr_left fun S _ => by simp [setD]
    rw [em] at e
    have hz : (subs i).length + (subs i).length ≤ sizeLine := Nat.le_trans (show (subs i).length + (subs i).length ≤ 2 ^ 11 by rw [hl]; omega) (by decide)
    refine ⟨_, [x0, some (.d (.list ((subs (i + 1)).map setD))), some (.d (.int (i : Nat))), x3], t1, rfl, ?_, _, _, rfl, rfl⟩
    rw [subs_succ, List.map_append]
    simp [-x_lc, x_lp, e, hz]
  simp only [List.length_map, List.length_range] at h2
  exact ⟨x2, x3, by rw [h1, h2, h3]⟩
theorem subsets_eq {n : Nat} (hn : n ≤ 10) : cf W (k + 1) isubsets [.d (.int (n : Nat))] t = some (.list ((subs n).map setD), t) := by
  obtain ⟨x2, x3, h⟩ := sub_turns (W := W) (t := t) (cf W k) (some (.d (.int (n : Nat)))) n hn
  have q4 : n < 1000000000 := by omega
  rw [usubsets]
  unfold fsubsets
  simp [h, q4]
theorem law_sets_eq {n : Nat} (hn : n ≤ 10) : cf W (k + 1) ilaw_sets [.d (.int (n : Nat))] t = some (.list ((subs n).map setD), t) := by
  obtain ⟨x2, x3, h⟩ := sub_turns (W := W) (t := t) (cf W k) (some (.d (.int (n : Nat)))) n hn
  have q4 : n < 1000000000 := by omega
  rw [ulaw_sets]
  unfold flaw_sets
  simp [h, q4]
def LookOK (Γ : Ga) (g : Gv) (kvs : List (L2.Key × PyData)) : Prop := ∀ x, Γ x ≠ none → lookD kvs (.inr x) = some (g x)
theorem LookOK.put {Γ : Ga} {g : Gv} {kvs : List (L2.Key × PyData)} (h : LookOK Γ g kvs) (x : Str) (b : Bool) (d : PyData) : LookOK (up Γ x (some b)) (up g x d) (putD kvs (.inr x) d) := fun y hy => by
  rw [look_put]
  unfold up at hy ⊢
  by_cases e : y = x
  · subst e
    simp
  · have e2 : ¬ (Sum.inr x : L2.Key) = Sum.inr y := fun z => e (Sum.inr.inj z).symm
    rw [if_neg e] at hy
    rw [if_neg e, if_neg e2]
    exact h y hy
theorem LookOK.at {Γ : Ga} {g : Gv} {kvs : List (L2.Key × PyData)} (h : LookOK Γ g kvs) {x : Str} {b : Bool} (e : Γ x = some b) : lookD kvs (.inr x) = some (g x) := h x (by rw [e]; simp)
theorem str_at {z : Str} {i : Nat} (h : i < z.cps.toList.length) : atI z.cps.toList (i : Int) = some (z.cps.toList.getD i 0) := by
  rw [atI_ok (by omega) (by omega)]
  simp [List.getD_eq_getElem?_getD, List.getElem?_eq_getElem h]
theorem set_flat (S : List Nat) : (S.map fun i => PyData.int (i : Nat)).all flatD = true := by
  rw [List.all_eq_true]
  intro d hd
  obtain ⟨i, _, rfl⟩ := List.mem_map.mp hd
  rfl
end
end Lw

set_option Elab.async false
set_option linter.all false
set_option maxRecDepth 100000
set_option maxHeartbeats 400000
namespace Lw
open PySem PySem.Spec PyProof.Rows L2 Pl
section
variable {W : Nat} {t : Int} {z : Str} {Γ : Ga} {g : Gv} {kvs : List (L2.Key × PyData)}
theorem plainly_eq {k : Nat} {s : Sy} (hs : ∃ p q, s = .letter p q ∨ s = .within p q ∨ s = .ahead p q ∨ s = .same p q) (wf : WF s Γ) (og : OKg z.cps.toList.length Γ g) (lk : LookOK Γ g kvs) (hz : z.length ≤ 100) : cf W (k + 1) iplainly [.d s.D, .d (.str z), .gd kvs] t = some (.bool (tv z.cps.toList s g), t) := by
  have hz' : z.length ≤ sizeLine := Nat.le_trans hz (by decide)
  rw [uplainly]
  unfold fplainly
  obtain ⟨p, q, rfl | rfl | rfl | rfl⟩ := hs
  · obtain ⟨i, hi, e1⟩ := (og p).1 wf
    have l1 := lk.at wf
    rw [e1] at l1
    simp [Sy.D, tv, l1, e1, str_beq, hz', str_at hi, sign, -List.getD_eq_getElem?_getD]
  · obtain ⟨i, hi, e1⟩ := (og p).1 wf.1
    obtain ⟨S, e2⟩ := (og q).2 wf.2
    have l1 := lk.at wf.1
    have l2 := lk.at wf.2
    rw [e1] at l1
    rw [e2] at l2
    have sf := set_flat S
    simp [Sy.D, tv, l1, l2, e1, e2, str_beq, setD]
  · obtain ⟨i, hi, e1⟩ := (og p).1 wf.1
    obtain ⟨j, hj, e2⟩ := (og q).1 wf.2
    have l1 := lk.at wf.1
    have l2 := lk.at wf.2
    rw [e1] at l1
    rw [e2] at l2
    simp [Sy.D, tv, l1, l2, e1, e2, str_beq]
  · obtain ⟨i, hi, e1⟩ := (og p).1 wf.1
    obtain ⟨j, hj, e2⟩ := (og q).1 wf.2
    have l1 := lk.at wf.1
    have l2 := lk.at wf.2
    rw [e1] at l1
    rw [e2] at l2
    simp [Sy.D, tv, l1, l2, e1, e2, str_beq]
abbrev bTw : S := (.seq (.newD 5 2) (.seq (.dput 5 (.idx (.var 0) (.lit (.int 1))) (.var 4)) (.seq (.frzD 5) (.ife (.call 2 (.cons (.idx (.var 0) (.lit (.int 2))) (.cons (.var 1) (.cons (.tape 5) .nil)))) (.ret (.lit (.bool true))) .nop))))
/-- the loop over what a name may stand for -/
theorem tw_turns {C : CallF} {x : Str} {b h0 : PyData} (f : PyData → Bool) (hk : kvs.length < 900) : ∀ (ds : List PyData) (x3 x4 x5 : Option LV), (∀ d ∈ ds, C itrue_within [.d b, .d (.str z), .gd (putD kvs (.inr x) d)] t = some (.bool (f d), t)) →
    (ds.any f = true ∧ forL (lp C W bTw) (.nm 4) ds [some (.d (.tuple [h0, .str x, b])), some (.d (.str z)), some (.gd kvs), x3, x4, x5] t = some (.rt (.bool true) t)) ∨
    (ds.any f = false ∧ ∃ x4' x5', forL (lp C W bTw) (.nm 4) ds [some (.d (.tuple [h0, .str x, b])), some (.d (.str z)), some (.gd kvs), x3, x4, x5] t = some (.nx [some (.d (.tuple [h0, .str x, b])), some (.d (.str z)), some (.gd kvs), x3, x4', x5'] t))
  | [], x3, x4, x5, _ => .inr ⟨rfl, x4, x5, rfl⟩
  | d :: ds, x3, x4, x5, h => by
    have h1 := h d List.mem_cons_self
    have hl : kvs.length < sizeLine := Nat.lt_trans hk (by decide)
    rw [List.any_cons, forL]
    cases hf : f d with
    | true =>
      rw [hf] at h1
      exact .inl ⟨rfl, by simp [x_lp, hl, h1]⟩
    | false =>
      rw [hf] at h1
      rcases tw_turns (h0 := h0) f hk ds x3 (some (.d d)) (some (.gd (putD kvs (.inr x) d))) (fun e he => h e (List.mem_cons_of_mem _ he)) with ⟨e1, e2⟩ | ⟨e1, x4', x5', e2⟩
      · exact .inl ⟨by rw [e1]; rfl, by rw [← e2]; simp [x_lp, hl, h1]⟩
      · exact .inr ⟨by rw [e1]; rfl, x4', x5', by rw [← e2]; simp [x_lp, hl, h1]⟩
theorem tw_eq (hz : z.length ≤ 8) : ∀ (s : Sy) (Γ : Ga) (g : Gv) (kvs : List (L2.Key × PyData)) (k : Nat) (t : Int), WF s Γ → OKg z.cps.toList.length Γ g → LookOK Γ g kvs → s.depth + 2 ≤ k → kvs.length + s.depth < 800 → cf W k itrue_within [.d s.D, .d (.str z), .gd kvs] t = some (.bool (tv z.cps.toList s g), t) := by
  have hz' : z.length ≤ sizeLine := Nat.le_trans hz (by decide)
  have hzl : z.cps.toList.length ≤ 8 := by simpa [Str.length] using hz
  have hn : ((z.length : Nat) : Int).toNat = z.cps.toList.length := by simp [Str.length]
  have plain : ∀ (s : Sy) (Γ : Ga) (g : Gv) (kvs : List (L2.Key × PyData)) (k : Nat) (t : Int), (∃ p q, s = .letter p q ∨ s = .within p q ∨ s = .ahead p q ∨ s = .same p q) → WF s Γ → OKg z.cps.toList.length Γ g → LookOK Γ g kvs → s.depth + 2 ≤ k → cf W k itrue_within [.d s.D, .d (.str z), .gd kvs] t = some (.bool (tv z.cps.toList s g), t) := by
    intro s Γ g kvs k t hs wf og lk hk
    obtain ⟨k, rfl⟩ : ∃ j, k = j + 2 := ⟨k - 2, by omega⟩
    have pl := plainly_eq (W := W) (k := k) (t := t) hs wf og lk (by omega)
    generalize tv z.cps.toList s g = r at pl
    rw [utrue_within]
    unfold ftrue_within
    obtain ⟨p, q, rfl | rfl | rfl | rfl⟩ := hs <;> simp only [Sy.D] at pl ⊢ <;> simp [str_beq, pl]
  intro s
  induction s with
  | letter p c => exact fun Γ g kvs k t wf og lk hk _ => plain _ Γ g kvs k t ⟨p, c, .inl rfl⟩ wf og lk hk
  | within p q => exact fun Γ g kvs k t wf og lk hk _ => plain _ Γ g kvs k t ⟨p, q, .inr (.inl rfl)⟩ wf og lk hk
  | ahead p q => exact fun Γ g kvs k t wf og lk hk _ => plain _ Γ g kvs k t ⟨p, q, .inr (.inr (.inl rfl))⟩ wf og lk hk
  | same p q => exact fun Γ g kvs k t wf og lk hk _ => plain _ Γ g kvs k t ⟨p, q, .inr (.inr (.inr rfl))⟩ wf og lk hk
  | not a ih =>
    intro Γ g kvs k t wf og lk hk hl
    simp only [Sy.depth] at hk hl
    obtain ⟨k, rfl⟩ : ∃ j, k = j + 1 := ⟨k - 1, by omega⟩
    have h := ih Γ g kvs k t wf og lk (by omega) (by omega)
    rw [utrue_within]
    unfold ftrue_within
    simp [Sy.D, str_beq, tv, h]
  | and a b iha ihb =>
    intro Γ g kvs k t wf og lk hk hl
    simp only [Sy.depth] at hk hl
    obtain ⟨k, rfl⟩ : ∃ j, k = j + 1 := ⟨k - 1, by omega⟩
    have h := iha Γ g kvs k t wf.1 og lk (by omega) (by omega)
    have h2 := ihb Γ g kvs k t wf.2 og lk (by omega) (by omega)
    rw [utrue_within]
    unfold ftrue_within
    simp only [tv]
    generalize tv z.cps.toList a g = ra at h ⊢
    generalize tv z.cps.toList b g = rb at h2 ⊢
    cases ra <;> simp [Sy.D, str_beq, h, h2]
  | or a b iha ihb =>
    intro Γ g kvs k t wf og lk hk hl
    simp only [Sy.depth] at hk hl
    obtain ⟨k, rfl⟩ : ∃ j, k = j + 1 := ⟨k - 1, by omega⟩
    have h := iha Γ g kvs k t wf.1 og lk (by omega) (by omega)
    have h2 := ihb Γ g kvs k t wf.2 og lk (by omega) (by omega)
    rw [utrue_within]
    unfold ftrue_within
    simp only [tv]
    generalize tv z.cps.toList a g = ra at h ⊢
    generalize tv z.cps.toList b g = rb at h2 ⊢
    cases ra <;> simp [Sy.D, str_beq, h, h2]
  | place x a ih =>
    intro Γ g kvs k t wf og lk hk hl
    simp only [Sy.depth] at hk hl
    obtain ⟨k, rfl⟩ : ∃ j, k = j + 1 := ⟨k - 1, by omega⟩
    have step : ∀ d ∈ (List.range z.cps.toList.length).map (fun (i : Nat) => PyData.int (i : Nat)), cf W k itrue_within [.d a.D, .d (.str z), .gd (putD kvs (.inr x) d)] t = some (.bool (tv z.cps.toList a (up g x d)), t) := fun d hd => by
      obtain ⟨i, hi, rfl⟩ := List.mem_map.mp hd
      exact ih _ _ _ k t wf (og.place x (List.mem_range.mp hi)) (lk.put x false _) (by omega) (by have := put_len (kvs := kvs) (k := .inr x) (d := .int (i : Nat)); omega)
    have e : tv z.cps.toList (.place x a) g = ((List.range z.cps.toList.length).map (fun (i : Nat) => PyData.int (i : Nat))).any fun d => tv z.cps.toList a (up g x d) := by
      rw [List.any_map]
      rfl
    rw [e]
    rw [utrue_within]
    unfold ftrue_within
    have hnn : z.length < 1000000 := by omega
    have hzn : z.length = z.cps.toList.length := by simp [Str.length]
    rcases tw_turns (W := W) (C := cf W k) (h0 := wd "place") (fun d => tv z.cps.toList a (up g x d)) (by omega) _ (some (.d (.list ((List.range z.cps.toList.length).map (fun (i : Nat) => PyData.int (i : Nat)))))) none none step with ⟨e1, e2⟩ | ⟨e1, x4, x5, e2⟩
    · rw [e1]
      rw [← hzn] at e2
      simp [Sy.D, str_beq, hz', hnn, e2]
    · rw [e1]
      rw [← hzn] at e2
      simp [Sy.D, str_beq, hz', hnn, e2]
  | set x a ih =>
    intro Γ g kvs k t wf og lk hk hl
    simp only [Sy.depth] at hk hl
    obtain ⟨k, rfl⟩ : ∃ j, k = j + 1 := ⟨k - 1, by omega⟩
    have step : ∀ d ∈ (subs z.cps.toList.length).map setD, cf W k itrue_within [.d a.D, .d (.str z), .gd (putD kvs (.inr x) d)] t = some (.bool (tv z.cps.toList a (up g x d)), t) := fun d hd => by
      obtain ⟨S, hS, rfl⟩ := List.mem_map.mp hd
      exact ih _ _ _ k t wf (og.set x S) (lk.put x true _) (by omega) (by have := put_len (kvs := kvs) (k := .inr x) (d := setD S); omega)
    have e : tv z.cps.toList (.set x a) g = ((subs z.cps.toList.length).map setD).any fun d => tv z.cps.toList a (up g x d) := by
      rw [List.any_map]
      rfl
    rw [e]
    rw [utrue_within]
    unfold ftrue_within
    have hnn : z.length < 1000000 := by omega
    have hzn : z.length = z.cps.toList.length := by simp [Str.length]
    obtain ⟨k', rfl⟩ : ∃ j, k = j + 1 := ⟨k - 1, by omega⟩
    have sb := subsets_eq (W := W) (k := k') (t := t) (n := z.length) (by omega)
    rcases tw_turns (W := W) (C := cf W (k' + 1)) (h0 := wd "set") (fun d => tv z.cps.toList a (up g x d)) (by omega) _ (some (.d (.list ((subs z.cps.toList.length).map setD)))) none none step with ⟨e1, e2⟩ | ⟨e1, x4, x5, e2⟩
    · rw [e1]
      rw [← hzn] at e2
      simp [Sy.D, str_beq, hz', hnn, sb, e2]
    · rw [e1]
      rw [← hzn] at e2
      simp [Sy.D, str_beq, hz', hnn, sb, e2]
end
end Lw

set_option Elab.async false
set_option linter.all false
set_option maxRecDepth 100000
set_option maxHeartbeats 400000
namespace Lw
open PySem PySem.Spec PyProof.Rows L2 Pl
/-! ### the law's trying -/
def gvD (L : List (Str × PyData)) : PyData := .list (L.map fun p => .tuple [.str p.1, p.2])
def lastOf (L : List (Str × PyData)) (x : Str) : Option PyData := ((L.filter fun p => p.1 == x).map (·.2)).getLast?
def LastOK (Γ : Ga) (g : Gv) (L : List (Str × PyData)) : Prop := ∀ x, Γ x ≠ none → lastOf L x = some (g x)
theorem LastOK.put {Γ : Ga} {g : Gv} {L : List (Str × PyData)} (h : LastOK Γ g L) (x : Str) (b : Bool) (d : PyData) : LastOK (up Γ x (some b)) (up g x d) (L ++ [(x, d)]) := fun y hy => by
  unfold up at hy ⊢
  unfold lastOf
  rw [List.filter_append]
  by_cases e : y = x
  · subst e
    simp
  · rw [if_neg e] at hy
    rw [if_neg e]
    have e2 : ¬ x = y := fun z => e z.symm
    have := h y hy
    unfold lastOf at this
    simpa [e2] using this
theorem LastOK.at {Γ : Ga} {g : Gv} {L : List (Str × PyData)} (h : LastOK Γ g L) {x : Str} {b : Bool} (e : Γ x = some b) : lastOf L x = some (g x) := h x (by rw [e]; simp)
theorem at_last {xs : List PyData} {d : PyData} (h : xs.getLast? = some d) : atI xs (-1) = some d := by
  have hne : xs ≠ [] := fun e => by
    rw [e] at h
    cases h
  have hl : 0 < xs.length := List.length_pos_iff.mpr hne
  unfold atI ixN
  have e1 : ¬ (0 : Int) ≤ -1 := by omega
  have e2 : -(xs.length : Int) ≤ -1 := by omega
  rw [if_neg e1, if_pos e2]
  show xs[(-1 + (xs.length : Int)).toNat]? = _
  have e3 : (-1 + (xs.length : Int)).toNat = xs.length - 1 := by omega
  rw [e3, ← List.getLast?_eq_getElem?]
  exact h
theorem bools_any (F : PyData → Bool) (ds : List PyData) : (boolsOf (ds.map fun d => .bool (F d))).map (fun bs => PyData.bool (bs.any id)) = some (.bool (ds.any F)) := by
  have h : ∀ ds : List PyData, boolsOf (ds.map fun d => .bool (F d)) = some (ds.map F) := fun ds => by
    induction ds with
    | nil => rfl
    | cons d r ih => simp [ih]
  rw [h]
  simp [List.any_map, Function.comp_def]
section
variable {W : Nat} {t : Int} {z : Str} {Γ : Ga} {g : Gv} {L : List (Str × PyData)}
theorem last_turns {C : CallF} {S : PyData} {x : Str} {j : Int} (hj : idxD S (.int j) = some (.str x)) {e1 e2 e3 e4 e5 e6 : Option LV} {e7 e8 : Option LV} : ∀ (L : List (Str × PyData)), lcLoop (lcF C [some (.d S), e1, e2, e3, e4, e5, e6, e7, e8] [7, 8] (.tp [7, 8]) (.cmp .eq (.var 7) (.idx (.var 0) (.lit (.int j)))) (.var 8)) (L.map fun p => .tuple [.str p.1, p.2]) t = some ((L.filter fun p => p.1 == x).map (·.2), t)
  | [] => rfl
  | (y, d) :: r => by
    have ih := last_turns (C := C) hj (e1 := e1) (e2 := e2) (e3 := e3) (e4 := e4) (e5 := e5) (e6 := e6) (e7 := e7) (e8 := e8) r
    rw [List.map_cons, List.filter_cons]
    unfold lcLoop
    cases e : (y == x) with
    | true => simp [-idxD, hj, e, ih]
    | false => simp [-idxD, hj, e, ih]
theorem last_ev {C : CallF} {S : PyData} {x : Str} {j : Int} {d : PyData} (hj : idxD S (.int j) = some (.str x)) (hL : L.length ≤ 1000) (hd : lastOf L x = some d) {e1 e3 e4 e5 e6 e7 e8 : Option LV} :
    ev C [some (.d S), e1, some (.d (gvD L)), e3, e4, e5, e6, e7, e8] (.idx (.lc .seq (.var 2) (.tp [7, 8]) [7, 8] (.cmp .eq (.var 7) (.idx (.var 0) (.lit (.int j)))) (.var 8)) (.neg (.lit (.int 1)))) t = some (d, t) := by
  have lc := last_turns (C := C) hj (t := t) (e1 := e1) (e2 := some (.d (gvD L))) (e3 := e3) (e4 := e4) (e5 := e5) (e6 := e6) (e7 := e7) (e8 := e8) L
  have e := ev_lcS (C := C) (k := .seq) (x := gvD L) (it := .var 2) (env := [some (.d S), e1, some (.d (gvD L)), e3, e4, e5, e6, e7, e8]) (t := t) (t1 := t) (by simp) rfl (by rw [List.length_map]; omega) lc
  have l := at_last hd
  simp [-x_lc, e, l]
theorem lt_eq (hz : z.length ≤ 8) : ∀ (s : Sy) (Γ : Ga) (g : Gv) (L : List (Str × PyData)) (k : Nat) (t : Int), WF s Γ → OKg z.cps.toList.length Γ g → LastOK Γ g L → s.depth + 2 ≤ k → L.length + s.depth < 800 → cf W k ilaw_true [.d s.D, .d (.str z), .d (gvD L)] t = some (.bool (tv z.cps.toList s g), t) := by
  have hz' : z.length ≤ sizeLine := Nat.le_trans hz (by decide)
  have hzl : z.cps.toList.length ≤ 8 := by simpa [Str.length] using hz
  have hzn : z.length = z.cps.toList.length := by simp [Str.length]
  intro s
  induction s with
  | letter p c =>
    intro Γ g L k t wf og lk hk hl
    obtain ⟨k, rfl⟩ : ∃ j, k = j + 1 := ⟨k - 1, by omega⟩
    obtain ⟨i, hi, v1⟩ := (og p).1 wf
    have l1 := lk.at wf
    rw [v1] at l1
    have g1 := fun {e3 e4 e5 e6 e7 e8} => last_ev (t := t) (C := cf W k) (S := (Sy.letter p c).D) (x := p) (j := 1) (by simp [Sy.D]) (by omega) l1 (e1 := some (.d (.str z))) (e3 := e3) (e4 := e4) (e5 := e5) (e6 := e6) (e7 := e7) (e8 := e8)
    simp only [Sy.D] at g1
    rw [ulaw_true]
    unfold flaw_true
    generalize hG : gvD L = G at g1 ⊢
    have g1' := @g1 none none none none none none
    generalize (M.idx (.lc .seq (.var 2) (.tp [7, 8]) [7, 8] (.cmp .eq (.var 7) (.idx (.var 0) (.lit (.int 1)))) (.var 8)) (.neg (.lit (.int 1)))) = M1 at g1' ⊢
    simp [Sy.D, str_beq, tv, v1, g1', hz', str_at hi, sign, -List.getD_eq_getElem?_getD]
  | within p q =>
    intro Γ g L k t wf og lk hk hl
    obtain ⟨k, rfl⟩ : ∃ j, k = j + 1 := ⟨k - 1, by omega⟩
    obtain ⟨i, hi, v1⟩ := (og p).1 wf.1
    obtain ⟨S, v2⟩ := (og q).2 wf.2
    have l1 := lk.at wf.1
    have l2 := lk.at wf.2
    rw [v1] at l1
    rw [v2] at l2
    have g1 := last_ev (t := t) (C := cf W k) (S := (Sy.within p q).D) (x := p) (j := 1) (by simp [Sy.D]) (by omega) l1 (e1 := some (.d (.str z))) (e3 := none) (e4 := none) (e5 := none) (e6 := none) (e7 := none) (e8 := none)
    have g2 := last_ev (t := t) (C := cf W k) (S := (Sy.within p q).D) (x := q) (j := 2) (by simp [Sy.D]) (by omega) l2 (e1 := some (.d (.str z))) (e3 := some (.d (.int (i : Nat)))) (e4 := none) (e5 := none) (e6 := none) (e7 := none) (e8 := none)
    simp only [Sy.D] at g1 g2
    rw [ulaw_true]
    unfold flaw_true
    generalize hG : gvD L = G at g1 g2 ⊢
    generalize (M.idx (.lc .seq (.var 2) (.tp [7, 8]) [7, 8] (.cmp .eq (.var 7) (.idx (.var 0) (.lit (.int 1)))) (.var 8)) (.neg (.lit (.int 1)))) = M1 at g1 ⊢
    generalize (M.idx (.lc .seq (.var 2) (.tp [7, 8]) [7, 8] (.cmp .eq (.var 7) (.idx (.var 0) (.lit (.int 2)))) (.var 8)) (.neg (.lit (.int 1)))) = M2 at g2 ⊢
    have sf := set_flat S
    simp [Sy.D, str_beq, tv, v1, v2, g1, g2, setD]
  | ahead p q =>
    intro Γ g L k t wf og lk hk hl
    obtain ⟨k, rfl⟩ : ∃ j, k = j + 1 := ⟨k - 1, by omega⟩
    obtain ⟨i, hi, v1⟩ := (og p).1 wf.1
    obtain ⟨j, hj, v2⟩ := (og q).1 wf.2
    have l1 := lk.at wf.1
    have l2 := lk.at wf.2
    rw [v1] at l1
    rw [v2] at l2
    have g1 := last_ev (t := t) (C := cf W k) (S := (Sy.ahead p q).D) (x := p) (j := 1) (by simp [Sy.D]) (by omega) l1 (e1 := some (.d (.str z))) (e3 := none) (e4 := none) (e5 := none) (e6 := none) (e7 := none) (e8 := none)
    have g2 := last_ev (t := t) (C := cf W k) (S := (Sy.ahead p q).D) (x := q) (j := 2) (by simp [Sy.D]) (by omega) l2 (e1 := some (.d (.str z))) (e3 := some (.d (.int (i : Nat)))) (e4 := none) (e5 := none) (e6 := none) (e7 := none) (e8 := none)
    simp only [Sy.D] at g1 g2
    rw [ulaw_true]
    unfold flaw_true
    generalize hG : gvD L = G at g1 g2 ⊢
    generalize (M.idx (.lc .seq (.var 2) (.tp [7, 8]) [7, 8] (.cmp .eq (.var 7) (.idx (.var 0) (.lit (.int 1)))) (.var 8)) (.neg (.lit (.int 1)))) = M1 at g1 ⊢
    generalize (M.idx (.lc .seq (.var 2) (.tp [7, 8]) [7, 8] (.cmp .eq (.var 7) (.idx (.var 0) (.lit (.int 2)))) (.var 8)) (.neg (.lit (.int 1)))) = M2 at g2 ⊢
    by_cases hij : (i : Int) < (j : Int) <;> cases hq : ((i : Int) == (j : Int)) <;> simp [Sy.D, str_beq, tv, v1, v2, g1, g2, hij, hq]
  | same p q =>
    intro Γ g L k t wf og lk hk hl
    obtain ⟨k, rfl⟩ : ∃ j, k = j + 1 := ⟨k - 1, by omega⟩
    obtain ⟨i, hi, v1⟩ := (og p).1 wf.1
    obtain ⟨j, hj, v2⟩ := (og q).1 wf.2
    have l1 := lk.at wf.1
    have l2 := lk.at wf.2
    rw [v1] at l1
    rw [v2] at l2
    have g1 := last_ev (t := t) (C := cf W k) (S := (Sy.same p q).D) (x := p) (j := 1) (by simp [Sy.D]) (by omega) l1 (e1 := some (.d (.str z))) (e3 := none) (e4 := none) (e5 := none) (e6 := none) (e7 := none) (e8 := none)
    have g2 := last_ev (t := t) (C := cf W k) (S := (Sy.same p q).D) (x := q) (j := 2) (by simp [Sy.D]) (by omega) l2 (e1 := some (.d (.str z))) (e3 := some (.d (.int (i : Nat)))) (e4 := none) (e5 := none) (e6 := none) (e7 := none) (e8 := none)
    simp only [Sy.D] at g1 g2
    rw [ulaw_true]
    unfold flaw_true
    generalize hG : gvD L = G at g1 g2 ⊢
    generalize (M.idx (.lc .seq (.var 2) (.tp [7, 8]) [7, 8] (.cmp .eq (.var 7) (.idx (.var 0) (.lit (.int 1)))) (.var 8)) (.neg (.lit (.int 1)))) = M1 at g1 ⊢
    generalize (M.idx (.lc .seq (.var 2) (.tp [7, 8]) [7, 8] (.cmp .eq (.var 7) (.idx (.var 0) (.lit (.int 2)))) (.var 8)) (.neg (.lit (.int 1)))) = M2 at g2 ⊢
    by_cases hij : (i : Int) < (j : Int) <;> cases hq : ((i : Int) == (j : Int)) <;> simp [Sy.D, str_beq, tv, v1, v2, g1, g2, hij, hq]
  | not a ih =>
    intro Γ g L k t wf og lk hk hl
    simp only [Sy.depth] at hk hl
    obtain ⟨k, rfl⟩ : ∃ j, k = j + 1 := ⟨k - 1, by omega⟩
    have h := ih Γ g L k t wf og lk (by omega) (by omega)
    rw [ulaw_true]
    unfold flaw_true
    generalize gvD L = G at h ⊢
    simp [Sy.D, str_beq, tv, h]
  | and a b iha ihb =>
    intro Γ g L k t wf og lk hk hl
    simp only [Sy.depth] at hk hl
    obtain ⟨k, rfl⟩ : ∃ j, k = j + 1 := ⟨k - 1, by omega⟩
    have h := iha Γ g L k t wf.1 og lk (by omega) (by omega)
    have h2 := ihb Γ g L k t wf.2 og lk (by omega) (by omega)
    rw [ulaw_true]
    unfold flaw_true
    generalize gvD L = G at h h2 ⊢
    simp only [tv]
    generalize tv z.cps.toList a g = ra at h ⊢
    generalize tv z.cps.toList b g = rb at h2 ⊢
    cases ra <;> simp [Sy.D, str_beq, h, h2]
  | or a b iha ihb =>
    intro Γ g L k t wf og lk hk hl
    simp only [Sy.depth] at hk hl
    obtain ⟨k, rfl⟩ : ∃ j, k = j + 1 := ⟨k - 1, by omega⟩
    have h := iha Γ g L k t wf.1 og lk (by omega) (by omega)
    have h2 := ihb Γ g L k t wf.2 og lk (by omega) (by omega)
    rw [ulaw_true]
    unfold flaw_true
    generalize gvD L = G at h h2 ⊢
    simp only [tv]
    generalize tv z.cps.toList a g = ra at h ⊢
    generalize tv z.cps.toList b g = rb at h2 ⊢
    cases ra <;> simp [Sy.D, str_beq, h, h2]
  | place x a ih =>
    intro Γ g L k t wf og lk hk hl
    simp only [Sy.depth] at hk hl
    obtain ⟨k, rfl⟩ : ∃ j, k = j + 1 := ⟨k - 1, by omega⟩
    have hL : L.length + 1 ≤ sizeLine := Nat.le_trans (show L.length + 1 ≤ 1000 by omega) (by decide)
    have lc := lcLoop_map (f := lcF (cf W k) [some (.d (Sy.place x a).D), some (.d (.str z)), some (.d (gvD L)), none, none, none, none, none, none] [5] (.nm 5) (.lit (.bool true)) (.call 11 (.cons (.idx (.var 0) (.lit (.int 2))) (.cons (.var 1) (.cons (.bin .add (.var 2) (.lst (.cons (.tup (.cons (.idx (.var 0) (.lit (.int 1))) (.cons (.var 5) .nil))) .nil))) .nil)))))
      (g := fun d => .bool (tv z.cps.toList a (up g x d))) ((List.range z.length).map fun (i : Nat) => PyData.int (i : Nat)) t fun d hd => by
        obtain ⟨i, hi, rfl⟩ := List.mem_map.mp hd
        have hi : i < z.cps.toList.length := by rw [← hzn]; exact List.mem_range.mp hi
        have h := ih _ _ _ k t wf (og.place x hi) (lk.put x false _) (by omega) (by rw [List.length_append, List.length_singleton]; omega)
        simp only [gvD, List.map_append, List.map_cons, List.map_nil] at h
        simp [Sy.D, gvD, hL, h]
    have e := ev_lcR (n := z.length) (C := cf W k) (it := .blt .len (.cons (.var 1) .nil)) (env := [some (.d (Sy.place x a).D), some (.d (.str z)), some (.d (gvD L)), none, none, none, none, none, none]) (t := t) (t1 := t) (by simp [hz']) (by omega) lc
    have ba : bltD .any [.list (((List.range z.length).map fun (i : Nat) => PyData.int (i : Nat)).map fun d => PyData.bool (tv z.cps.toList a (up g x d)))] = some (.bool (tv z.cps.toList (.place x a) g)) := by
      have := bools_any (fun d => tv z.cps.toList a (up g x d)) ((List.range z.length).map fun (i : Nat) => PyData.int (i : Nat))
      rw [List.any_map, hzn] at this
      rw [hzn]
      exact this
    generalize ((List.range z.length).map fun (i : Nat) => PyData.int (i : Nat)).map (fun d => PyData.bool (tv z.cps.toList a (up g x d))) = bs at e ba
    rw [ulaw_true]
    unfold flaw_true
    simp only [Sy.D] at e
    simp [-x_lc, -bltD, Sy.D, str_beq, e, ba]
  | set x a ih =>
    intro Γ g L k t wf og lk hk hl
    simp only [Sy.depth] at hk hl
    obtain ⟨k, rfl⟩ : ∃ j, k = j + 2 := ⟨k - 2, by omega⟩
    have hL : L.length + 1 ≤ sizeLine := Nat.le_trans (show L.length + 1 ≤ 1000 by omega) (by decide)
    have sb := law_sets_eq (W := W) (k := k) (t := t) (n := z.length) (by omega)
    have lc := lcLoop_map (f := lcF (cf W (k + 1)) [some (.d (Sy.set x a).D), some (.d (.str z)), some (.d (gvD L)), none, none, none, none, none, none] [6] (.nm 6) (.lit (.bool true)) (.call 11 (.cons (.idx (.var 0) (.lit (.int 2))) (.cons (.var 1) (.cons (.bin .add (.var 2) (.lst (.cons (.tup (.cons (.idx (.var 0) (.lit (.int 1))) (.cons (.var 6) .nil))) .nil))) .nil)))))
      (g := fun d => .bool (tv z.cps.toList a (up g x d))) ((subs z.length).map setD) t fun d hd => by
        obtain ⟨S, hS, rfl⟩ := List.mem_map.mp hd
        have h := ih _ _ _ (k + 1) t wf (og.set x S) (lk.put x true _) (by omega) (by rw [List.length_append, List.length_singleton]; omega)
        simp only [gvD, List.map_append, List.map_cons, List.map_nil] at h
        simp [Sy.D, gvD, hL, h]
    have hp : 2 ^ z.length ≤ 2 ^ 8 := Nat.pow_le_pow_right (by omega) hz
    have e := ev_lcS (C := cf W (k + 1)) (k := .seq) (x := .list ((subs z.length).map setD)) (it := .call 10 (.cons (.blt .len (.cons (.var 1) .nil)) .nil)) (env := [some (.d (Sy.set x a).D), some (.d (.str z)), some (.d (gvD L)), none, none, none, none, none, none]) (t := t) (t1 := t) (by simp [hz', sb]) rfl (by rw [List.length_map, subs_len]; omega) lc
    have ba : bltD .any [.list (((subs z.length).map setD).map fun d => PyData.bool (tv z.cps.toList a (up g x d)))] = some (.bool (tv z.cps.toList (.set x a) g)) := by
      have := bools_any (fun d => tv z.cps.toList a (up g x d)) ((subs z.length).map setD)
      rw [List.any_map, hzn] at this
      rw [hzn]
      exact this
    generalize ((subs z.length).map setD).map (fun d => PyData.bool (tv z.cps.toList a (up g x d))) = bs at e ba
    rw [ulaw_true]
    unfold flaw_true
    simp only [Sy.D] at e
    simp [-x_lc, -bltD, Sy.D, str_beq, e, ba]
end
end Lw

set_option Elab.async false
set_option linter.all false
set_option maxRecDepth 100000
set_option maxHeartbeats 400000
namespace Lw
open PySem PySem.Spec PyProof.Rows L2 Pl
/-! ### drawn sayings -/
def sortD (b : Bool) : PyData := if b then wd "set" else wd "place"
def scD (sc : List (Str × Bool)) : PyData := .list (sc.map fun p => .tuple [.str p.1, sortD p.2])
def gaOf (sc : List (Str × Bool)) : Ga := fun x => (sc.reverse.find? fun p => p.1 == x).map (·.2)
theorem gaOf_add (sc : List (Str × Bool)) (x : Str) (b : Bool) : gaOf (sc ++ [(x, b)]) = up (gaOf sc) x (some b) := by
  funext y
  unfold gaOf up
  rw [List.reverse_append]
  show (List.find? _ ((x, b) :: sc.reverse)).map _ = _
  rw [List.find?_cons]
  by_cases e : y = x
  · subst e
    simp
  · have e2 : (x == y) = false := by simpa using fun z : x = y => e z.symm
    simp only [e2, if_neg e]
theorem in_strs (x : Str) (ys : List Str) : inD (.str x) (.list (ys.map .str)) = some (decide (x ∈ ys)) := by
  have h1 : (ys.map PyData.str).all flatD = true := by
    rw [List.all_eq_true]
    intro d hd
    obtain ⟨y, _, rfl⟩ := List.mem_map.mp hd
    rfl
  have h2 : ((ys.map PyData.str).any fun z => PyData.eqv z (.str x)) = decide (x ∈ ys) := by
    rw [List.any_map, Bool.eq_iff_iff, List.any_eq_true, decide_eq_true_eq]
    constructor
    · rintro ⟨y, hy, e⟩
      have : y = x := by simpa [PyData.eqv] using e
      rw [← this]
      exact hy
    · exact fun h => ⟨x, h, by simp [PyData.eqv]⟩
  show (if (flatD (.str x) && (ys.map PyData.str).all flatD) = true then some ((ys.map PyData.str).any fun z => PyData.eqv z (.str x)) else _) = _
  rw [h1, h2]
  rfl
theorem eq_sort (a b : Bool) : eqD (sortD a) (sortD b) = some (a == b) := by
  cases a <;> cases b <;> simp [sortD, str_beq]
abbrev bNear : S := (.ife (.cmp .notin (.var 4) (.bor 2)) (.seq (.app 2 (.var 4)) (.ife (.cmp .eq (.var 5) (.var 1)) (.app 3 (.var 4)) .nop)) .nop)
section
variable {W k : Nat} {t : Int} {ns : List Int}
theorem near_turns (C : CallF) (x0 : Option LV) (b : Bool) : ∀ (l : List (Str × Bool)) (seen found : List Str) (x4 x5 : Option LV), seen.length + l.length ≤ 900 → found.length + l.length ≤ 900 →
    ∃ (seen' found' : List Str) (x4' x5' : Option LV), forL (lp C W bNear) (.tp [4, 5]) (l.map fun p => .tuple [.str p.1, sortD p.2]) [x0, some (.d (sortD b)), some (.own (seen.map .str)), some (.own (found.map .str)), x4, x5] t =
      some (.nx [x0, some (.d (sortD b)), some (.own (seen'.map .str)), some (.own (found'.map .str)), x4', x5'] t) ∧ (∀ x, x ∈ found' ↔ x ∈ found ∨ (x ∉ seen ∧ (l.find? fun p => p.1 == x).map (·.2) = some b)) ∧ found'.length ≤ found.length + l.length
  | [], seen, found, x4, x5, _, _ => ⟨seen, found, x4, x5, rfl, fun x => by simp, by simp⟩
  | (y, c) :: l, seen, found, x4, x5, h1, h2 => by
    rw [List.length_cons] at h1 h2
    have z1 : seen.length < sizeLine := Nat.lt_of_le_of_lt (show seen.length ≤ 900 by omega) (by decide)
    have z2 : found.length < sizeLine := Nat.lt_of_le_of_lt (show found.length ≤ 900 by omega) (by decide)
    have hin := in_strs y seen
    have heq := eq_sort c b
    rw [List.map_cons, forL]
    by_cases hm : y ∈ seen
    · obtain ⟨s', f', x4', x5', e1, e2, e3⟩ := near_turns C x0 b l seen found (some (.d (.str y))) (some (.d (sortD c))) (by omega) (by omega)
      refine ⟨s', f', x4', x5', ?_, fun x => ?_, by rw [List.length_cons]; omega⟩
      · rw [← e1]
        simp [-inD, -eqD, x_lp, hin, hm]
      · rw [e2, List.find?_cons]
        by_cases e : y = x
        · subst e
          simp [hm]
        · have e' : (y == x) = false := by simpa using e
          simp only [e']
    · cases hc : (c == b) with
      | true =>
        rw [hc] at heq
        obtain ⟨s', f', x4', x5', e1, e2, e3⟩ := near_turns C x0 b l (seen ++ [y]) (found ++ [y]) (some (.d (.str y))) (some (.d (sortD c))) (by simp; omega) (by simp; omega)
        refine ⟨s', f', x4', x5', ?_, fun x => ?_, by rw [List.length_append] at e3; simp at e3 ⊢; omega⟩
        · rw [← e1]
          simp [-inD, -eqD, x_lp, hin, hm, heq, z1, z2]
        · rw [e2, List.find?_cons]
          by_cases e : y = x
          · subst e
            have : c = b := by simpa using hc
            simp [hm, this]
          · have e' : (y == x) = false := by simpa using e
            have e'' : ¬ x = y := fun z => e z.symm
            simp [e', e'']
      | false =>
        rw [hc] at heq
        obtain ⟨s', f', x4', x5', e1, e2, e3⟩ := near_turns C x0 b l (seen ++ [y]) found (some (.d (.str y))) (some (.d (sortD c))) (by simp; omega) (by omega)
        refine ⟨s', f', x4', x5', ?_, fun x => ?_, by rw [List.length_cons]; omega⟩
        · rw [← e1]
          simp [-inD, -eqD, x_lp, hin, hm, heq, z1]
        · rw [e2, List.find?_cons]
          by_cases e : y = x
          · subst e
            have : ¬ c = b := by simpa using hc
            simp [this]
          · have e' : (y == x) = false := by simpa using e
            have e'' : ¬ x = y := fun z => e z.symm
            simp [e', e'']
theorem near_eq (sc : List (Str × Bool)) (b : Bool) (h : sc.length ≤ 800) : ∃ found : List Str, cf W (k + 1) ilaw_near [.d (scD sc), .d (sortD b)] t = some (.list (found.map .str), t) ∧ (∀ x, x ∈ found ↔ gaOf sc x = some b) ∧ found.length ≤ sc.length := by
  obtain ⟨s', f', x4', x5', e1, e2, e3⟩ := near_turns (W := W) (t := t) (cf W k) (some (.d (scD sc))) b sc.reverse [] [] none none (by simp; omega) (by simp; omega)
  refine ⟨f', ?_, fun x => by rw [e2]; simp [gaOf], by simpa using e3⟩
  rw [ulaw_near]
  unfold flaw_near
  rw [List.map_reverse] at e1
  unfold scD at e1 ⊢
  simp only [List.map_nil] at e1
  simp [e1]
end
end Lw

set_option Elab.async false
set_option linter.all false
set_option maxRecDepth 100000
set_option maxHeartbeats 400000
namespace Lw
open PySem PySem.Spec PyProof.Rows L2 Pl
section
variable {W k : Nat} {t : Int} {ns : List Int}
theorem ga_place {sc : List (Str × Bool)} {found : List Str} {b : Bool} (h : ∀ x, x ∈ found ↔ gaOf sc x = some b) {i : Int} (h0 : 0 ≤ i) (h1 : i < (found.length : Int)) : ∃ x, atI (found.map PyData.str) i = some (.str x) ∧ gaOf sc x = some b := by
  refine ⟨found[i.toNat]'(by omega), ?_, (h _).mp (List.getElem_mem _)⟩
  rw [atI_ok h0 (by simpa using h1), List.getElem_map]
theorem plain_eq {lz : Str} {sc : List (Str × Bool)} (h : ns.length ≤ 63) (ht : 0 ≤ t) (ht2 : t ≤ 900000) (hsc : sc.length ≤ 800) (hp : ∃ x, gaOf sc x = some false) (hl : 0 < lz.length) (hl2 : lz.length ≤ 100) :
    ∃ s t', cf W (k + 2) ilaw_plain [.scr ns, .tp, .d (.str lz), .d (scD sc)] t = some (Sy.D s, t') ∧ WF s (gaOf sc) ∧ s.depth = 0 ∧ t ≤ t' ∧ t' ≤ t + 4 := by
  obtain ⟨ps, np, mp, lp⟩ := near_eq (W := W) (k := k) (t := t) sc false hsc
  obtain ⟨ss, nss, ms, ls⟩ := near_eq (W := W) (k := k) (t := t) sc true hsc
  have e0 : sortD false = wd "place" := rfl
  have e1 : sortD true = wd "set" := rfl
  rw [e0] at np
  rw [e1] at nss
  have hpl : 0 < ps.length := by
    obtain ⟨x, hx⟩ := hp
    exact List.length_pos_iff.mpr fun e => by
      have := (mp x).mpr hx
      rw [e] at this
      cases this
  have hlz : lz.length ≤ sizeLine := Nat.le_trans hl2 (by decide)
  have hlc : lz.cps.toList.length = lz.length := by simp [Str.length]
  have d1 := draw_eq (W := W) (k := k) (t := t) (m := 6) h (by omega) (by omega) (by decide)
  generalize drawD ns t 6 = n1 at d1
  have d2 := draw_eq (W := W) (k := k) (t := t + 1) (m := 6) h (by omega) (by omega) (by decide)
  generalize drawD ns (t + 1) 6 = n2 at d2
  have d3 := draw_eq (W := W) (k := k) (t := t + 1 + 1) (m := 7) h (by omega) (by omega) (by decide)
  have a1 := drawD_lo (ns := ns) (t := t + 1 + 1) (m := 7) (by decide)
  generalize drawD ns (t + 1 + 1) 7 = way at d3 a1
  have hpl' : (0 : Int) < (ps.length : Int) := by omega
  obtain ⟨x, x1, x2⟩ := ga_place mp (i := n1 % (ps.length : Int)) (Int.emod_nonneg _ (by omega)) (Int.emod_lt_of_pos _ hpl')
  obtain ⟨y, y1, y2⟩ := ga_place mp (i := n2 % (ps.length : Int)) (Int.emod_nonneg _ (by omega)) (Int.emod_lt_of_pos _ hpl')
  rw [ulaw_plain]
  unfold flaw_plain
  by_cases c3 : way < 3
  · have d4 := draw_eq (W := W) (k := k) (t := t + 1 + 1 + 1) (m := 12) h (by omega) (by omega) (by decide)
    generalize drawD ns (t + 1 + 1 + 1) 12 = n4 at d4
    have hl' : (0 : Int) < (lz.length : Int) := by omega
    have z1 := atI_ok (xs := lz.cps.toList) (i := n4 % (lz.length : Int)) (Int.emod_nonneg _ (by omega)) (by rw [hlc]; exact Int.emod_lt_of_pos _ hl')
    generalize lz.cps.toList[(n4 % (lz.length : Int)).toNat]'_ = c at z1
    exact ⟨.letter x ⟨#[c]⟩, t + 1 + 1 + 1 + 1, by simp [np, nss, d1, d2, d3, d4, hpl, hpl', x1, y1, c3, hlz, hl, hl', z1, Sy.D, sign], x2, rfl, by omega, by omega⟩
  · by_cases c5 : way < 5 ∧ 0 < ss.length
    · have d4 := draw_eq (W := W) (k := k) (t := t + 1 + 1 + 1) (m := 6) h (by omega) (by omega) (by decide)
      generalize drawD ns (t + 1 + 1 + 1) 6 = n4 at d4
      have hl' : (0 : Int) < (ss.length : Int) := by omega
      obtain ⟨q, q1, q2⟩ := ga_place ms (i := n4 % (ss.length : Int)) (Int.emod_nonneg _ (by omega)) (Int.emod_lt_of_pos _ hl')
      exact ⟨.within x q, t + 1 + 1 + 1 + 1, by simp [np, nss, d1, d2, d3, d4, hpl, hpl', x1, y1, c3, c5.1, c5.2, hl', q1, Sy.D], ⟨x2, q2⟩, rfl, by omega, by omega⟩
    · by_cases c6 : way < 6
      · refine ⟨.ahead x y, t + 1 + 1 + 1, ?_, ⟨x2, y2⟩, rfl, by omega, by omega⟩
        by_cases c7 : way < 5
        · have c8 : ss.length = 0 := by omega
          simp [np, nss, d1, d2, d3, hpl, hpl', x1, y1, c3, c7, c8, c6, Sy.D]
        · simp [np, nss, d1, d2, d3, hpl, hpl', x1, y1, c3, c7, c6, Sy.D]
      · refine ⟨.same x y, t + 1 + 1 + 1, ?_, ⟨x2, y2⟩, rfl, by omega, by omega⟩
        have c7 : ¬ way < 5 := by omega
        simp [np, nss, d1, d2, d3, hpl, hpl', x1, y1, c3, c7, c6, Sy.D]
end
end Lw

set_option Elab.async false
set_option linter.all false
set_option maxRecDepth 100000
set_option maxHeartbeats 400000
namespace Lw
open PySem PySem.Spec PyProof.Rows L2 Pl
section
variable {W k : Nat} {ns : List Int}
def worldD (lz n0 n1 n2 : Str) : PyData := .tuple [.str lz, .list [.str n0, .str n1, .str n2]]
theorem sc_len {sc : List (Str × Bool)} {x : Str} {b : Bool} : (sc ++ [(x, b)]).length = sc.length + 1 := by simp
theorem sc_add {sc : List (Str × Bool)} {x : Str} {b : Bool} (h : sc.length ≤ 800) : addD (scD sc) (.list [.tuple [.str x, sortD b]]) = some (scD (sc ++ [(x, b)])) := by
  have hl : sc.length + 1 ≤ sizeLine := Nat.le_trans (show sc.length + 1 ≤ 1000 by omega) (by decide)
  simp [scD, hl]
theorem pick3 {n0 n1 n2 : Str} {i : Int} (h0 : 0 ≤ i) (h3 : i < 3) : ∃ x, atI [PyData.str n0, .str n1, .str n2] i = some (.str x) := by
  rcases (show i = 0 ∨ i = 1 ∨ i = 2 by omega) with e | e | e <;> subst e
  · exact ⟨n0, rfl⟩
  · exact ⟨n1, rfl⟩
  · exact ⟨n2, rfl⟩
theorem saying_leaf {lz n0 n1 n2 : Str} (h : ns.length ≤ 63) (hl : 0 < lz.length) (hl2 : lz.length ≤ 100) (dp : Int) (sc : List (Str × Bool)) (t : Int) (hsc : sc.length ≤ 100) (ht : 0 ≤ t) (ht2 : t ≤ 800000) (hw : dp = 0 ∨ drawD ns t 10 < 2) :
    ∃ s t', cf W (k + 3) ilaw_saying [.scr ns, .tp, .d (worldD lz n0 n1 n2), .d (scD sc), .d (.int dp)] t = some (Sy.D s, t') ∧ WF s (gaOf sc) ∧ s.depth ≤ 1 ∧ t ≤ t' ∧ t' ≤ t + 6 := by
  have d1 := draw_eq (W := W) (k := k + 1) (t := t) (m := 10) h (by omega) (by omega) (by decide)
  generalize drawD ns t 10 = way at d1 hw
  have d2 := draw_eq (W := W) (k := k + 1) (t := t + 1) (m := 3) h (by omega) (by omega) (by decide)
  have b1 := drawD_lo (ns := ns) (t := t + 1) (m := 3) (by decide)
  have b2 := drawD_hi (ns := ns) (t := t + 1) (m := 3) (by decide)
  generalize drawD ns (t + 1) 3 = nn at d2 b1 b2
  obtain ⟨x, hx⟩ := pick3 (n0 := n0) (n1 := n1) (n2 := n2) b1 b2
  obtain ⟨ps, np, mp, lp⟩ := near_eq (W := W) (k := k + 1) (t := t + 1 + 1) sc false (by omega)
  have e0 : sortD false = wd "place" := rfl
  rw [e0] at np
  rw [ulaw_saying]
  unfold flaw_saying
  have hc : (dp == 0) = true ∨ ((dp == 0) = false ∧ way < 2) := by
    rcases hw with e | e
    · exact .inl (by simpa using e)
    · cases hq : (dp == 0)
      · exact .inr ⟨rfl, e⟩
      · exact .inl rfl
  by_cases hp : ps.length = 0
  · obtain ⟨s, t', p1, p2, p3, p4, p5⟩ := plain_eq (W := W) (k := k) (t := t + 1 + 1) (lz := lz) (sc := sc ++ [(x, false)]) h (by omega) (by omega) (by rw [sc_len]; omega) ⟨x, by rw [gaOf_add]; simp [up]⟩ hl hl2
    have ad := sc_add (sc := sc) (x := x) (b := false) (by omega)
    rw [e0] at ad
    refine ⟨.place x s, t', ?_, ?_, by simp only [Sy.depth]; omega, by omega, by omega⟩
    · have hp' : ps = [] := List.length_eq_zero_iff.mp hp
      subst hp'
      rcases hc with hc | ⟨hc, hc2⟩
      · simp [-addD, worldD, d1, d2, hx, np, ad, p1, Sy.D, hc]
      · simp [-addD, worldD, d1, d2, hx, np, ad, p1, Sy.D, hc, hc2]
    · show WF s _
      rw [← gaOf_add]
      exact p2
  · obtain ⟨y, hy⟩ : ∃ y, y ∈ ps := by
      cases ps with
      | nil => simp at hp
      | cons a b => exact ⟨a, List.mem_cons_self⟩
    obtain ⟨s, t', p1, p2, p3, p4, p5⟩ := plain_eq (W := W) (k := k) (t := t + 1 + 1) (lz := lz) (sc := sc) h (by omega) (by omega) (by omega) ⟨y, (mp y).mp hy⟩ hl hl2
    have hp' : ¬ ps = [] := fun e => hp (by rw [e]; rfl)
    have hp2 : ((ps.length : Int) == 0) = false := by simpa using hp'
    refine ⟨s, t', ?_, p2, by omega, by omega, by omega⟩
    rcases hc with hc | ⟨hc, hc2⟩
    · simp [worldD, d1, d2, hx, np, p1, hp', hp2, hc]
    · simp [worldD, d1, d2, hx, np, p1, hp', hp2, hc, hc2]
theorem saying_eq {lz n0 n1 n2 : Str} (h : ns.length ≤ 63) (hl : 0 < lz.length) (hl2 : lz.length ≤ 100) : ∀ (d : Nat) (sc : List (Str × Bool)) (t : Int), sc.length + d ≤ 50 → 0 ≤ t → t + ((10 * 2 ^ d : Nat) : Int) ≤ 800000 →
    ∃ s t', cf W (k + 3 + d) ilaw_saying [.scr ns, .tp, .d (worldD lz n0 n1 n2), .d (scD sc), .d (.int (d : Nat))] t = some (Sy.D s, t') ∧ WF s (gaOf sc) ∧ s.depth ≤ d + 1 ∧ t ≤ t' ∧ t' + 4 ≤ t + ((10 * 2 ^ d : Nat) : Int) := by
  intro d
  induction d with
  | zero =>
    intro sc t hsc ht ht2
    obtain ⟨s, t', p1, p2, p3, p4, p5⟩ := saying_leaf (W := W) (k := k) (n0 := n0) (n1 := n1) (n2 := n2) h hl hl2 0 sc t (by omega) ht (by omega) (.inl rfl)
    exact ⟨s, t', p1, p2, by omega, by omega, by omega⟩
  | succ d ih =>
    intro sc t hsc ht ht2
    have hge : 1 ≤ 2 ^ d := Nat.one_le_two_pow
    rw [Nat.pow_succ] at ht2 ⊢
    by_cases hw : drawD ns t 10 < 2
    · obtain ⟨s, t', p1, p2, p3, p4, p5⟩ := saying_leaf (W := W) (k := k + (d + 1)) (n0 := n0) (n1 := n1) (n2 := n2) h hl hl2 ((d + 1 : Nat) : Int) sc t (by omega) ht (by omega) (.inr hw)
      rw [show k + (d + 1) + 3 = k + 3 + (d + 1) by omega] at p1
      exact ⟨s, t', p1, p2, by omega, by omega, by omega⟩
    have d1 := draw_eq (W := W) (k := k + 2 + d) (t := t) (m := 10) h (by omega) (by omega) (by decide)
    have w1 := drawD_hi (ns := ns) (t := t) (m := 10) (by decide)
    generalize drawD ns t 10 = way at d1 hw w1
    have d2 := draw_eq (W := W) (k := k + 2 + d) (t := t + 1) (m := 3) h (by omega) (by omega) (by decide)
    have b1 := drawD_lo (ns := ns) (t := t + 1) (m := 3) (by decide)
    have b2 := drawD_hi (ns := ns) (t := t + 1) (m := 3) (by decide)
    generalize drawD ns (t + 1) 3 = nn at d2 b1 b2
    obtain ⟨x, hx⟩ := pick3 (n0 := n0) (n1 := n1) (n2 := n2) b1 b2
    rw [show k + 2 + d + 1 = k + 3 + d by omega] at d1 d2
    rw [show k + 3 + (d + 1) = (k + 3 + d) + 1 from rfl, ulaw_saying]
    have c0 : (((d + 1 : Nat) : Int) == 0) = false := by simp; omega
    have c1 : ((d + 1 : Nat) : Int) - 1 = (d : Nat) := by omega
    have c0' : (((d : Int) + 1) == 0) = false := by simp; omega
    have c1' : (d : Int) + 1 - 1 = (d : Nat) := by omega
    unfold flaw_saying
    have hq : (scD sc) = .list (sc.map fun p => .tuple [.str p.1, sortD p.2]) := rfl
    by_cases hn : way < 4 ∨ (2 < sc.length ∧ 5 < way)
    · obtain ⟨s, t', p1, p2, p3, p4, p5⟩ := ih sc (t + 1 + 1) (by omega) (by omega) (by omega)
      refine ⟨.not s, t', ?_, p2, by simp only [Sy.depth]; omega, by omega, by omega⟩
      rw [hq] at p1 ⊢
      rcases hn with hn | ⟨hn, hn2⟩
      · simp [worldD] at p1
        simp [worldD, d1, d2, hx, p1, Sy.D, hw, hn, c0', c1']
      · have h4 : ¬ way < 4 := by omega
        have hn' : (2 : Int) < (sc.length : Int) := by omega
        simp [worldD] at p1
        simp [worldD, d1, d2, hx, p1, Sy.D, hw, hn', hn2, h4, c0', c1']
    · have h4 : ¬ way < 4 := by omega
      by_cases h6 : way < 6
      · obtain ⟨s, t', p1, p2, p3, p4, p5⟩ := ih sc (t + 1 + 1) (by omega) (by omega) (by omega)
        obtain ⟨s2, t2', q1, q2, q3, q4, q5⟩ := ih sc t' (by omega) (by omega) (by omega)
        have h5 : ¬ 5 < way := by omega
        rw [hq] at p1 q1 ⊢
        simp [worldD] at p1 q1
        rcases (show way = 4 ∨ way = 5 by omega) with e | e
        · subst e
          refine ⟨.and s s2, t2', ?_, ⟨p2, q2⟩, by simp only [Sy.depth]; omega, by omega, by omega⟩
          by_cases hs : (2 : Int) < (sc.length : Int)
          · simp [worldD, d1, d2, hx, p1, q1, Sy.D, hs, c0', c1']
          · simp [worldD, d1, d2, hx, p1, q1, Sy.D, hs, c0', c1']
        · subst e
          refine ⟨.or s s2, t2', ?_, ⟨p2, q2⟩, by simp only [Sy.depth]; omega, by omega, by omega⟩
          by_cases hs : (2 : Int) < (sc.length : Int)
          · simp [worldD, d1, d2, hx, p1, q1, Sy.D, hs, c0', c1']
          · simp [worldD, d1, d2, hx, p1, q1, Sy.D, hs, c0', c1']
      · have hs : ¬ (2 : Int) < (sc.length : Int) := by omega
        obtain ⟨b, hb⟩ : ∃ b, atI [wd "place", wd "place", wd "place", wd "set"] (way - 6) = some (sortD b) := by
          rcases (show way = 6 ∨ way = 7 ∨ way = 8 ∨ way = 9 by omega) with e | e | e | e <;> subst e
          · exact ⟨false, rfl⟩
          · exact ⟨false, rfl⟩
          · exact ⟨false, rfl⟩
          · exact ⟨true, rfl⟩
        obtain ⟨s, t', p1, p2, p3, p4, p5⟩ := ih (sc ++ [(x, b)]) (t + 1 + 1) (by rw [sc_len]; omega) (by omega) (by omega)
        have ad := sc_add (sc := sc) (x := x) (b := b) (by omega)
        rw [hq] at ad ⊢
        generalize scD (sc ++ [(x, b)]) = SC at p1 ad
        simp [worldD] at p1
        rw [gaOf_add] at p2
        cases b with
        | false =>
          refine ⟨.place x s, t', ?_, p2, by simp only [Sy.depth]; omega, by omega, by omega⟩
          have e0 : sortD false = wd "place" := rfl
          rw [e0] at hb ad
          simp [-addD, worldD, d1, d2, hx, p1, Sy.D, hs, hw, h4, h6, hb, ad, c0', c1']
        | true =>
          refine ⟨.set x s, t', ?_, p2, by simp only [Sy.depth]; omega, by omega, by omega⟩
          have e0 : sortD true = wd "set" := rfl
          rw [e0] at hb ad
          simp [-addD, worldD, d1, d2, hx, p1, Sy.D, hs, hw, h4, h6, hb, ad, c0', c1']
end
end Lw

set_option Elab.async false
set_option linter.all false
set_option maxRecDepth 100000
set_option maxHeartbeats 400000
namespace Lw
open PySem PySem.Spec PyProof.Rows L2 Pl
/-! ### joined signs -/
theorem join_signs : ∀ cs : List Nat, (Txt.join (Str.ofString "") (cs.map fun c => (⟨#[c]⟩ : Str))).cps.toList = cs := by
  intro cs
  have e : ∀ ys, Txt.join (Str.ofString "") ys = Str.join (Str.ofString "") ys := fun ys => StrLaws.glued_eq_join _ _
  rw [e]
  induction cs with
  | nil => rfl
  | cons c r ih =>
    cases r with
    | nil => rfl
    | cons d r =>
      show ((⟨#[c]⟩ : Str) ++ Str.ofString "" ++ Str.join (Str.ofString "") ((d :: r).map fun c => (⟨#[c]⟩ : Str))).cps.toList = _
      have e2 : ∀ a b : Str, (a ++ b).cps.toList = a.cps.toList ++ b.cps.toList := fun a b => by
        show (a.cps ++ b.cps).toList = _
        simp
      rw [e2, e2, ih]
      rfl
theorem signs_of {xs : List PyData} (h : ∀ d ∈ xs, ∃ c, d = sign c) : ∃ cs : List Nat, xs = cs.map sign := by
  induction xs with
  | nil => exact ⟨[], rfl⟩
  | cons x r ih =>
    obtain ⟨cs, rfl⟩ := ih fun d hd => h d (List.mem_cons_of_mem _ hd)
    obtain ⟨c, rfl⟩ := h x List.mem_cons_self
    exact ⟨c :: cs, rfl⟩
theorem strs_signs : ∀ cs : List Nat, strsOf (cs.map sign) = some (cs.map fun c => (⟨#[c]⟩ : Str))
  | [] => rfl
  | c :: r => by
    rw [List.map_cons]
    show (strsOf (r.map sign)).map _ = _
    rw [strs_signs r]
    rfl
theorem join_eq {cs : List Nat} (h : cs.length ≤ 1000) : ∃ z, joinD (.str (Str.ofString "")) (.list (cs.map sign)) = some (.str z) ∧ itemsD .seq (.str z) = some (cs.map sign) := by
  refine ⟨Txt.join (Str.ofString "") (cs.map fun c => (⟨#[c]⟩ : Str)), ?_, ?_⟩
  · have e : ((cs.map fun c => (⟨#[c]⟩ : Str)).map (·.length)).sum = cs.length := by
      clear h
      induction cs with
      | nil => rfl
      | cons c r ih =>
        rw [List.map_cons, List.map_cons, List.sum_cons, ih, List.length_cons]
        show 1 + r.length = r.length + 1
        omega
    simp only [joinD, strs_signs]
    rw [e, if_pos]
    rw [show (Str.ofString "").length = 0 from rfl]
    omega
  · simp only [itemsD, join_signs]
theorem join_len {cs : List Nat} (h : cs.length ≤ 1000) : ∃ z, joinD (.str (Str.ofString "")) (.list (cs.map sign)) = some (.str z) ∧ z.length = cs.length := by
  obtain ⟨z, h1, h2⟩ := join_eq h
  refine ⟨z, h1, ?_⟩
  have h2 : z.cps.toList.map sign = cs.map sign := Option.some.inj h2
  have := congrArg List.length h2
  simpa [Str.length] using this
abbrev bWorld : S := (.seq (.asg (.nm 3) (.call 5 (.cons (.tape 0) (.cons (.tape 1) (.cons (.lit (.int 4)) .nil))))) (.seq (.asg (.nm 4) (.join (.lit (.str (Str.ofString ""))) (.lc .range (.idx (.lst (.cons (.lit (.int 0)) (.cons (.lit (.int 1)) (.cons (.lit (.int 30)) .nil)))) (.call 4 (.cons (.tape 0) (.cons (.tape 1) (.cons (.lit (.int 3)) .nil))))) (.nm 8) [8] (.lit (.bool true)) (.idx (.var 3) (.bin .mod (.var 8) (.lit (.int 4))))))) (.seq (.asg (.nm 5) (.lc .seq (.lst (.cons (.lit (.str (Str.ofString "p"))) (.cons (.bin .add (.idx (.var 3) (.lit (.int 3))) (.lit (.str (Str.ofString "Q")))) (.cons (.lit (.str (Str.ofString "s"))) .nil)))) (.nm 7) [7] (.lit (.bool true)) (.bin .add (.var 4) (.var 7)))) (.seq (.asg (.nm 6) (.call 4 (.cons (.tape 0) (.cons (.tape 1) (.cons (.lit (.int 4)) .nil))))) (.seq (.ife (.cmp .lt (.var 6) (.lit (.int 2))) (.asg (.nm 5) (.lc .seq (.lst (.cons (.lit (.str (Str.ofString "p"))) (.cons (.lit (.str (Str.ofString "Q"))) (.cons (.lit (.str (Str.ofString "s"))) .nil)))) (.nm 7) [7] (.lit (.bool true)) (.bin .add (.bin .add (.var 4) (.var 7)) (.var 4)))) .nop) (.seq (.ife (.cmp .eq (.var 6) (.lit (.int 2))) (.asg (.nm 5) (.lst (.cons (.bin .add (.bin .add (.var 4) (.idx (.var 3) (.lit (.int 0)))) (.idx (.var 3) (.lit (.int 1)))) (.cons (.bin .add (.bin .add (.var 4) (.idx (.var 3) (.lit (.int 1)))) (.idx (.var 3) (.lit (.int 0)))) (.cons (.bin .add (.bin .add (.var 4) (.idx (.var 3) (.lit (.int 0)))) (.idx (.var 3) (.lit (.int 0)))) .nil))))) .nop) (.ret (.tup (.cons (.join (.lit (.str (Str.ofString ""))) (.slc (.var 3) (.lit .none) (.part (.var 2)))) (.cons (.var 5) .nil))))))))))
theorem cut_one {x : PyData} {xs : List PyData} : Pl.cutD (x :: xs) (some 1) none = xs := by
  unfold Pl.cutD
  rw [HT.sIx_none, show (some (1 : Int)) = some ((1 : Nat) : Int) from rfl, HT.sIx_nat, List.length_cons, Nat.min_eq_left (by omega)]
  show (List.drop 1 (x :: xs)).take _ = xs
  simp
theorem cut_upto {xs : List PyData} {n : Nat} (h : n ≤ xs.length) : Pl.cutD xs none (some (n : Int)) = xs.take n := by
  unfold Pl.cutD
  rw [HT.sIx_none, HT.sIx_nat, List.drop_zero, Nat.min_eq_left h, Nat.sub_zero]
section
variable {W k : Nat} {ns : List Int} {t : Int}
theorem sets_ok : ∀ (s : Sy) (k : Nat) (t : Int), s.depth + 1 ≤ k → ∃ i : Int, cf W k ilaw_sets_around [.d s.D] t = some (.int i, t) := by
  intro s
  induction s with
  | not a ih =>
    intro k t hk
    simp only [Sy.depth] at hk
    obtain ⟨k, rfl⟩ : ∃ j, k = j + 1 := ⟨k - 1, by omega⟩
    obtain ⟨i, hi⟩ := ih k t (by omega)
    refine ⟨maxI i [], ?_⟩
    rw [ulaw_sets_around]
    unfold flaw_sets_around
    have hs : (1 : Nat) < sizeLine := by decide
    simp [Sy.D, str_beq, PyData.eqv, cut_one, lcLoop, hi, hs]
  | and a b iha ihb =>
    intro k t hk
    simp only [Sy.depth] at hk
    obtain ⟨k, rfl⟩ : ∃ j, k = j + 1 := ⟨k - 1, by omega⟩
    obtain ⟨i, hi⟩ := iha k t (by omega)
    obtain ⟨j, hj⟩ := ihb k t (by omega)
    refine ⟨maxI i [j], ?_⟩
    rw [ulaw_sets_around]
    unfold flaw_sets_around
    have hs : (2 : Nat) < sizeLine := by decide
    simp [Sy.D, str_beq, PyData.eqv, cut_one, lcLoop, hi, hj, hs]
  | or a b iha ihb =>
    intro k t hk
    simp only [Sy.depth] at hk
    obtain ⟨k, rfl⟩ : ∃ j, k = j + 1 := ⟨k - 1, by omega⟩
    obtain ⟨i, hi⟩ := iha k t (by omega)
    obtain ⟨j, hj⟩ := ihb k t (by omega)
    refine ⟨maxI i [j], ?_⟩
    rw [ulaw_sets_around]
    unfold flaw_sets_around
    have hs : (2 : Nat) < sizeLine := by decide
    simp [Sy.D, str_beq, PyData.eqv, cut_one, lcLoop, hi, hj, hs]
  | place x a ih =>
    intro k t hk
    simp only [Sy.depth] at hk
    obtain ⟨k, rfl⟩ : ∃ j, k = j + 1 := ⟨k - 1, by omega⟩
    obtain ⟨i, hi⟩ := ih k t (by omega)
    refine ⟨i, ?_⟩
    rw [ulaw_sets_around]
    unfold flaw_sets_around
    simp [Sy.D, str_beq, hi]
  | set x a ih =>
    intro k t hk
    simp only [Sy.depth] at hk
    obtain ⟨k, rfl⟩ : ∃ j, k = j + 1 := ⟨k - 1, by omega⟩
    obtain ⟨i, hi⟩ := ih k t (by omega)
    refine ⟨1 + i, ?_⟩
    rw [ulaw_sets_around]
    unfold flaw_sets_around
    simp [Sy.D, str_beq, hi]
  | _ =>
    intro k t hk
    obtain ⟨k, rfl⟩ : ∃ j, k = j + 1 := ⟨k - 1, by omega⟩
    refine ⟨0, ?_⟩
    rw [ulaw_sets_around]
    unfold flaw_sets_around
    simp [Sy.D, str_beq, PyData.eqv]
theorem world_eq (h : ns.length ≤ 63) (ht : 0 ≤ t) (ht2 : t ≤ 700000) : ∃ lz n0 n1 n2 t', cf W (k + 3) ilaw_world [.scr ns, .tp] t = some (worldD lz n0 n1 n2, t') ∧ 0 < lz.length ∧ lz.length ≤ 4 ∧ t ≤ t' ∧ t' ≤ t + 20 := by
  have d1 := draw_eq (W := W) (k := k + 1) (t := t) (m := 2) h (by omega) (by omega) (by decide)
  have a1 := drawD_lo (ns := ns) (t := t) (m := 2) (by decide)
  have a2 := drawD_hi (ns := ns) (t := t) (m := 2) (by decide)
  generalize drawD ns t 2 = n1 at d1 a1 a2
  have d2 := draw_eq (W := W) (k := k + 1) (t := t + 1) (m := 6) h (by omega) (by omega) (by decide)
  generalize drawD ns (t + 1) 6 = n2 at d2
  have main : ∀ (m : Nat) (t1 : Int), 1 ≤ m → m ≤ 4 → t ≤ t1 → t1 ≤ t + 5 → ∃ lz p q r t', exs (cf W (k + 2)) W (bWorld) [some (.scr ns), some .tp, some (.d (.int (m : Nat))), none, none, none, none, none, none] t1 = some (.rt (worldD lz p q r) t') ∧ 0 < lz.length ∧ lz.length ≤ 4 ∧ t ≤ t' ∧ t' ≤ t + 20 := by
    intro m t1 m1 m4 t2 t3
    have mk := marks_eq (W := W) (k := k) (t := t1) (n := 4) h (by omega) (by omega) (by omega)
    obtain ⟨c0, hc0, _⟩ := signAt_ok (drawD ns t1 94 + (1 + drawD ns (t1 + 1) 23) * ((0 : Nat) : Int))
    obtain ⟨c1, hc1, _⟩ := signAt_ok (drawD ns t1 94 + (1 + drawD ns (t1 + 1) 23) * ((1 : Nat) : Int))
    obtain ⟨c2, hc2, _⟩ := signAt_ok (drawD ns t1 94 + (1 + drawD ns (t1 + 1) 23) * ((2 : Nat) : Int))
    obtain ⟨c3, hc3, _⟩ := signAt_ok (drawD ns t1 94 + (1 + drawD ns (t1 + 1) 23) * ((3 : Nat) : Int))
    have e4 : marksD ns t1 4 = [sign c0, sign c1, sign c2, sign c3] := by
      unfold marksD
      rw [show List.range 4 = [0, 1, 2, 3] from rfl]
      simp only [List.map_cons, List.map_nil, hc0, hc1, hc2, hc3]
    rw [e4, show (((4 : Nat) : Int)) = 4 from rfl] at mk
    have d3 := draw_eq (W := W) (k := k + 1) (t := t1 + 1 + 1) (m := 3) h (by omega) (by omega) (by decide)
    have b1 := drawD_lo (ns := ns) (t := t1 + 1 + 1) (m := 3) (by decide)
    have b2 := drawD_hi (ns := ns) (t := t1 + 1 + 1) (m := 3) (by decide)
    generalize drawD ns (t1 + 1 + 1) 3 = dv at d3 b1 b2
    have d4 := draw_eq (W := W) (k := k + 1) (t := t1 + 1 + 1 + 1) (m := 4) h (by omega) (by omega) (by decide)
    generalize drawD ns (t1 + 1 + 1 + 1) 4 = way at d4
    obtain ⟨nb, hnb, hdv⟩ : ∃ nb : Nat, (nb = 0 ∨ nb = 1 ∨ nb = 30) ∧ atI [PyData.int 0, .int 1, .int 30] dv = some (.int (nb : Nat)) := by
      rcases (show dv = 0 ∨ dv = 1 ∨ dv = 2 by omega) with e | e | e <;> subst e
      · exact ⟨0, .inl rfl, rfl⟩
      · exact ⟨1, .inr (.inl rfl), rfl⟩
      · exact ⟨30, .inr (.inr rfl), rfl⟩
    have at4 : ∀ i : Nat, atI [sign c0, sign c1, sign c2, sign c3] ((i : Int) % 4) = some (sign ([c0, c1, c2, c3].getD (i % 4) 0)) := fun i => by
      rw [show (i : Int) % 4 = ((i % 4 : Nat) : Int) by omega]
      rcases (show i % 4 = 0 ∨ i % 4 = 1 ∨ i % 4 = 2 ∨ i % 4 = 3 by omega) with e | e | e | e <;> rw [e] <;> rfl
    have lc := lc_range (f := lcF (cf W (k + 2)) [some (.scr ns), some .tp, some (.d (.int (m : Nat))), some (.d (.list [sign c0, sign c1, sign c2, sign c3])), none, none, none, none, none] [8] (.nm 8) (.lit (.bool true)) (.idx (.var 3) (.bin .mod (.var 8) (.lit (.int 4))))) (g := fun i => sign ([c0, c1, c2, c3].getD (i % 4) 0)) nb (t1 + 1 + 1 + 1) (by
      intro i hi
      simp [-List.getD_eq_getElem?_getD, at4])
    have e := ev_lcR (n := nb) (C := cf W (k + 2)) (it := .idx (.lst (.cons (.lit (.int 0)) (.cons (.lit (.int 1)) (.cons (.lit (.int 30)) .nil)))) (.call 4 (.cons (.tape 0) (.cons (.tape 1) (.cons (.lit (.int 3)) .nil))))) (env := [some (.scr ns), some .tp, some (.d (.int (m : Nat))), some (.d (.list [sign c0, sign c1, sign c2, sign c3])), none, none, none, none, none]) (t := t1 + 1 + 1) (t1 := t1 + 1 + 1 + 1) (by simp [d3, hdv]) (by omega) lc
    obtain ⟨bg, j1, j2⟩ := join_len (cs := (List.range nb).map fun i => [c0, c1, c2, c3].getD (i % 4) 0) (by simp; omega)
    rw [List.length_map, List.length_range] at j2
    rw [List.map_map] at j1
    have ej : ((List.range nb).map (sign ∘ fun i => [c0, c1, c2, c3].getD (i % 4) 0)) = (List.range nb).map fun i => sign ([c0, c1, c2, c3].getD (i % 4) 0) := rfl
    rw [ej] at j1
    generalize (List.range nb).map (fun i => sign ([c0, c1, c2, c3].getD (i % 4) 0)) = ls at e j1
    obtain ⟨lz, l1, l2⟩ := join_len (cs := [c0, c1, c2, c3].take m) (by simp; omega)
    rw [List.map_take] at l1
    have l2 : lz.length = m := by rw [l2]; simp; omega
    have lm : [c0, c1, c2, c3].map sign = [sign c0, sign c1, sign c2, sign c3] := rfl
    rw [lm] at l1
    have ct := cut_upto (xs := [sign c0, sign c1, sign c2, sign c3]) (n := m) (by simpa using m4)
    have s1 : ∀ c : Nat, (⟨#[c]⟩ : Str).length = 1 := fun c => rfl
    have lp : (Str.ofString "p").length = 1 := by decide
    have lq : (Str.ofString "Q").length = 1 := by decide
    have ls' : (Str.ofString "s").length = 1 := by decide
    have a3 : ∀ a b c d : PyData, atI [a, b, c, d] 3 = some d := fun a b c d => rfl
    have hs3 : (3 : Nat) < sizeLine := by decide
    have add : ∀ a b : Str, a.length ≤ 200 → b.length ≤ 200 → addD (.str a) (.str b) = some (.str (a ++ b)) := fun a b ha hb => by
      have : a.length + b.length ≤ sizeLine := Nat.le_trans (show a.length + b.length ≤ 400 by omega) (by decide)
      simp [this]
    have lb : bg.length ≤ 30 := by omega
    have A1 := add (⟨#[c3]⟩) (Str.ofString "Q") (by rw [s1]; omega) (by rw [lq]; omega)
    have A2 := add bg (Str.ofString "p") (by omega) (by rw [lp]; omega)
    have A3 := add bg (⟨#[c3]⟩ ++ Str.ofString "Q") (by omega) (by rw [Str.length_append, s1, lq]; omega)
    have A4 := add bg (Str.ofString "s") (by omega) (by rw [ls']; omega)
    have A5 := add bg (Str.ofString "Q") (by omega) (by rw [lq]; omega)
    have A6 := add (bg ++ Str.ofString "p") bg (by rw [Str.length_append, lp]; omega) (by omega)
    have A7 := add (bg ++ Str.ofString "Q") bg (by rw [Str.length_append, lq]; omega) (by omega)
    have A8 := add (bg ++ Str.ofString "s") bg (by rw [Str.length_append, ls']; omega) (by omega)
    have B0 := add bg ⟨#[c0]⟩ (by omega) (by rw [s1]; omega)
    have B1 := add bg ⟨#[c1]⟩ (by omega) (by rw [s1]; omega)
    have B2 := add (bg ++ ⟨#[c0]⟩) ⟨#[c1]⟩ (by rw [Str.length_append, s1]; omega) (by rw [s1]; omega)
    have B3 := add (bg ++ ⟨#[c1]⟩) ⟨#[c0]⟩ (by rw [Str.length_append, s1]; omega) (by rw [s1]; omega)
    have B4 := add (bg ++ ⟨#[c0]⟩) ⟨#[c0]⟩ (by rw [Str.length_append, s1]; omega) (by rw [s1]; omega)
    have sg : ∀ c, sign c = .str ⟨#[c]⟩ := fun _ => rfl
    simp only [sg] at mk e l1 ct
    unfold bWorld
    generalize (M.lc .range (.idx (.lst (.cons (.lit (.int 0)) (.cons (.lit (.int 1)) (.cons (.lit (.int 30)) .nil)))) (.call 4 (.cons (.tape 0) (.cons (.tape 1) (.cons (.lit (.int 3)) .nil))))) (.nm 8) [8] (.lit (.bool true)) (.idx (.var 3) (.bin .mod (.var 8) (.lit (.int 4))))) = ML at e ⊢
    by_cases w2 : way < 2
    · have w2' : (way == 2) = false := by simp; omega
      refine ⟨lz, bg ++ Str.ofString "p" ++ bg, bg ++ Str.ofString "Q" ++ bg, bg ++ Str.ofString "s" ++ bg, t1 + 1 + 1 + 1 + 1, ?_, by omega, by omega, by omega, by omega⟩
      simp [-addD, -joinD, mk, e, j1, d4, w2, w2', lcLoop, hs3, a3, A1, A2, A3, A4, A5, A6, A7, A8, ct, l1, worldD]
    · by_cases w3 : way = 2
      · subst w3
        refine ⟨lz, bg ++ ⟨#[c0]⟩ ++ ⟨#[c1]⟩, bg ++ ⟨#[c1]⟩ ++ ⟨#[c0]⟩, bg ++ ⟨#[c0]⟩ ++ ⟨#[c0]⟩, t1 + 1 + 1 + 1 + 1, ?_, by omega, by omega, by omega, by omega⟩
        simp [-addD, -joinD, mk, e, j1, d4, lcLoop, hs3, a3, A1, A2, A3, A4, B0, B1, B2, B3, B4, ct, l1, worldD]
      · have w2' : (way == 2) = false := by simpa using w3
        refine ⟨lz, bg ++ Str.ofString "p", bg ++ (⟨#[c3]⟩ ++ Str.ofString "Q"), bg ++ Str.ofString "s", t1 + 1 + 1 + 1 + 1, ?_, by omega, by omega, by omega, by omega⟩
        simp [-addD, -joinD, mk, e, j1, d4, w2, w2', lcLoop, hs3, a3, A1, A2, A3, A4, ct, l1, worldD]
  have fin : ∀ (lz p q r : Str) (t' : Int), runF (cf W (k + 2)) W ⟨2, 9, (.seq (.asg (.nm 2) (.bin .add (.lit (.int 1)) (.call 4 (.cons (.tape 0) (.cons (.tape 1) (.cons (.lit (.int 2)) .nil)))))) (.seq (.ife (.cmp .eq (.call 4 (.cons (.tape 0) (.cons (.tape 1) (.cons (.lit (.int 6)) .nil)))) (.lit (.int 1))) (.asg (.nm 2) (.bin .add (.lit (.int 3)) (.call 4 (.cons (.tape 0) (.cons (.tape 1) (.cons (.lit (.int 2)) .nil)))))) .nop) bWorld))⟩ [.scr ns, .tp] t = some (worldD lz p q r, t') → cf W (k + 3) ilaw_world [.scr ns, .tp] t = some (worldD lz p q r, t') := fun lz p q r t' r1 => by rw [ulaw_world]; exact r1
  generalize bWorld = B at main fin
  by_cases e : n2 = 1
  · subst e
    have d3 := draw_eq (W := W) (k := k + 1) (t := t + 1 + 1) (m := 2) h (by omega) (by omega) (by decide)
    have b1 := drawD_lo (ns := ns) (t := t + 1 + 1) (m := 2) (by decide)
    have b2 := drawD_hi (ns := ns) (t := t + 1 + 1) (m := 2) (by decide)
    generalize drawD ns (t + 1 + 1) 2 = n3 at d3 b1 b2
    obtain ⟨m, hm⟩ : ∃ m : Nat, 3 + n3 = m := ⟨(3 + n3).toNat, by omega⟩
    obtain ⟨lz, p, q, r, t', r1, r2⟩ := main m (t + 1 + 1 + 1) (by omega) (by omega) (by omega) (by omega)
    exact ⟨lz, p, q, r, t', fin _ _ _ _ _ (by simp [d1, d2, d3, hm, r1]), r2⟩
  · have e' : (n2 == 1) = false := by simpa using e
    obtain ⟨m, hm⟩ : ∃ m : Nat, 1 + n1 = m := ⟨(1 + n1).toNat, by omega⟩
    obtain ⟨lz, p, q, r, t', r1, r2⟩ := main m (t + 1 + 1) (by omega) (by omega) (by omega) (by omega)
    exact ⟨lz, p, q, r, t', fin _ _ _ _ _ (by simp [d1, d2, e', hm, r1]), r2⟩
end
end Lw

set_option Elab.async false
set_option linter.all false
set_option maxRecDepth 100000
set_option maxHeartbeats 400000
namespace Lw
open PySem PySem.Spec PyProof.Rows L2 Pl
def Draws (ns : List Int) (C : CallF) : Prop := ∀ {t m : Int}, 0 ≤ t → t ≤ 1000000 → 0 < m → C ilaw_draw [.scr ns, .tp, .d (.int m)] t = some (.int (drawD ns t m), t + 1)
theorem draws {W k : Nat} {ns : List Int} (h : ns.length ≤ 63) : Draws ns (cf W (k + 1)) := fun h1 h2 h3 => draw_eq h h1 h2 h3
abbrev bEnd : S := (.seq (.for .range (.idx (.lst (.cons (.lit (.int 0)) (.cons (.lit (.int 0)) (.cons (.lit (.int 0)) (.cons (.lit (.int 20)) .nil))))) (.call 4 (.cons (.tape 0) (.cons (.tape 1) (.cons (.lit (.int 4)) .nil))))) (.nm 8) (.asg (.nm 3) (.tup (.cons (.lit (.str (Str.ofString "not"))) (.cons (.var 3) .nil))))) (.seq (.asg (.nm 9) (.call 3 (.cons (.var 3) (.cons (.var 7) .nil)))) (.ret (.and (.blt .isBool (.cons (.var 9) .nil)) (.cmp .eq (.var 9) (.call 11 (.cons (.var 3) (.cons (.var 7) (.cons (.lst .nil) .nil)))))))))
def nots : Nat → Sy → Sy
  | 0, s => s
  | n + 1, s => .not (nots n s)
theorem nots_depth (s : Sy) : ∀ n, (nots n s).depth = s.depth + n
  | 0 => rfl
  | n + 1 => by
    show (nots n s).depth + 1 = _
    rw [nots_depth s n]
    omega
theorem nots_wf {s : Sy} {Γ : Ga} (h : WF s Γ) : ∀ n, WF (nots n s) Γ
  | 0 => h
  | n + 1 => nots_wf h n
section
variable {W k : Nat} {ns : List Int} {t : Int}
theorem not_turns (C : CallF) (e0 e1 e2 e4 e5 e6 e7 e9 e10 : Option LV) (s : Sy) (n : Nat) (x8 : Option LV) : ∃ x8', forL (lp C W (.asg (.nm 3) (.tup (.cons (.lit (.str (Str.ofString "not"))) (.cons (.var 3) .nil))))) (.nm 8) ((List.range n).map fun i => PyData.int (i : Nat)) [e0, e1, e2, some (.d s.D), e4, e5, e6, e7, x8, e9, e10] t =
    some (.nx [e0, e1, e2, some (.d (nots n s).D), e4, e5, e6, e7, x8', e9, e10] t) := by
  obtain ⟨env, t', h1, x8', h2, h3⟩ := forL_ok0 (f := lp C W (.asg (.nm 3) (.tup (.cons (.lit (.str (Str.ofString "not"))) (.cons (.var 3) .nil))))) (tg := .nm 8) (fun (i : Nat) env t1 => ∃ x8', env = [e0, e1, e2, some (.d (nots i s).D), e4, e5, e6, e7, x8', e9, e10] ∧ t1 = t) (xs := (List.range n).map fun i => PyData.int (i : Nat)) (env := [e0, e1, e2, some (.d s.D), e4, e5, e6, e7, x8, e9, e10]) (t := t) ⟨x8, rfl, rfl⟩ fun i d env t1 hd ⟨x, h1, h2⟩ => by
    subst h1 h2
    exact ⟨_, [e0, e1, e2, some (.d (nots (i + 1) s).D), e4, e5, e6, e7, some (.d d), e9, e10], t1, rfl, by simp [x_lp, nots, Sy.D], _, rfl, rfl⟩
  rw [List.length_map, List.length_range] at h2
  exact ⟨x8', by rw [h1, h2, h3]⟩
theorem law_end {s : Sy} {z : Str} (h : ns.length ≤ 63) (ht : 0 ≤ t) (ht2 : t ≤ 900000) (hs : s.depth ≤ 5) (wf : WF s (gaOf [])) (hz : z.length ≤ 8) {e2 e4 e5 e6 : Option LV} :
    ∃ t', exs (cf W (k + 40)) W bEnd
      [some (.scr ns), some .tp, e2, some (.d s.D), e4, e5, e6, some (.d (.str z)), none, none, none] t = some (.rt (.bool true) t') := by
  have d1 := draw_eq (W := W) (k := k + 39) (t := t) (m := 4) h (by omega) (by omega) (by decide)
  have b1 := drawD_lo (ns := ns) (t := t) (m := 4) (by decide)
  have b2 := drawD_hi (ns := ns) (t := t) (m := 4) (by decide)
  generalize drawD ns t 4 = dv at d1 b1 b2
  obtain ⟨n, hn, hdv⟩ : ∃ n : Nat, n ≤ 20 ∧ atI [PyData.int 0, .int 0, .int 0, .int 20] dv = some (.int (n : Nat)) := by
    rcases (show dv = 0 ∨ dv = 1 ∨ dv = 2 ∨ dv = 3 by omega) with e | e | e | e <;> subst e
    · exact ⟨0, by omega, rfl⟩
    · exact ⟨0, by omega, rfl⟩
    · exact ⟨0, by omega, rfl⟩
    · exact ⟨20, by omega, rfl⟩
  obtain ⟨x8, nt⟩ := not_turns (W := W) (t := t + 1) (cf W (k + 40)) (some (.scr ns)) (some .tp) e2 e4 e5 e6 (some (.d (.str z))) none none s n none
  have fr := ex_forR (W := W) (C := cf W (k + 40)) (n := n) (it := .idx (.lst (.cons (.lit (.int 0)) (.cons (.lit (.int 0)) (.cons (.lit (.int 0)) (.cons (.lit (.int 20)) .nil))))) (.call 4 (.cons (.tape 0) (.cons (.tape 1) (.cons (.lit (.int 4)) .nil))))) (env := [some (.scr ns), some .tp, e2, some (.d s.D), e4, e5, e6, some (.d (.str z)), none, none, none]) (t := t) (t1 := t + 1) (by simp [d1, hdv]) (by omega) nt
  have dn := nots_depth s n
  have wfn := nots_wf wf n
  have og : OKg z.cps.toList.length (gaOf []) fun _ => .none := fun x => ⟨fun e => (by cases e), fun e => (by cases e)⟩
  have lk : LookOK (gaOf []) (fun _ => .none) [] := fun x hx => absurd rfl hx
  have la : LastOK (gaOf []) (fun _ => .none) [] := fun x hx => absurd rfl hx
  have p1 := tw_eq (W := W) hz (nots n s) _ _ _ (k + 39) (t + 1) wfn og lk (by omega) (by simp; omega)
  have p2 := lt_eq (W := W) hz (nots n s) _ _ _ (k + 40) (t + 1) wfn og la (by omega) (by simp; omega)
  generalize tv z.cps.toList (nots n s) (fun _ => .none) = r at p1 p2
  generalize (nots n s).D = D at p1 p2 fr
  have p3 : cf W (k + 40) itrue_of [.d D, .d (.str z)] (t + 1) = some (.bool r, t + 1) := by
    rw [utrue_of]
    unfold ftrue_of
    simp [p1]
  simp only [gvD, List.map_nil] at p2
  exact ⟨t + 1, by simp [-x_for, fr, p3, p2]⟩
theorem word_pick {C : CallF} (hC : Draws ns C) {lz : Str} (hl : 0 < lz.length) (hl2 : lz.length ≤ 100) {e2 e3 e4 e5 e7 e8 e9 : Option LV} {n : Nat} (hn : n ≤ 100) (ht : 0 ≤ t) (ht2 : t ≤ 900000) :
    ∃ cs : List Nat, lcLoop (lcF C [some (.scr ns), some .tp, e2, e3, e4, e5, some (.d (.str lz)), e7, e8, e9, none] [10] (.nm 10) (.lit (.bool true)) (.idx (.var 6) (.bin .mod (.call 4 (.cons (.tape 0) (.cons (.tape 1) (.cons (.lit (.int 12)) .nil)))) (.blt .len (.cons (.var 6) .nil))))) ((List.range n).map fun i => PyData.int (i : Nat)) t = some (cs.map sign, t + n) ∧ cs.length = n := by
  have hlz : lz.length ≤ sizeLine := Nat.le_trans hl2 (by decide)
  have hlc : lz.cps.toList.length = lz.length := by simp [Str.length]
  obtain ⟨ys, t', h1, h2, h3, h4⟩ := lcLoop_ok (f := lcF C [some (.scr ns), some .tp, e2, e3, e4, e5, some (.d (.str lz)), e7, e8, e9, none] [10] (.nm 10) (.lit (.bool true)) (.idx (.var 6) (.bin .mod (.call 4 (.cons (.tape 0) (.cons (.tape 1) (.cons (.lit (.int 12)) .nil)))) (.blt .len (.cons (.var 6) .nil)))))
    (fun (i : Nat) t1 acc => acc.length = i ∧ t1 = t + (i : Int) ∧ ∀ d ∈ acc, ∃ c, d = sign c) ((List.range n).map fun i => PyData.int (i : Nat)) t 0 [] ⟨rfl, by simp, by simp⟩ fun i d t1 acc hd ⟨e1, e2, e3⟩ => by
      have hi : i < n := by simpa using (List.getElem?_eq_some_iff.mp hd).1
      have d1 := hC (t := t1) (m := 12) (by omega) (by omega) (by decide)
      generalize drawD ns t1 12 = to at d1
      have hl' : (0 : Int) < (lz.length : Int) := by omega
      have z1 := atI_ok (xs := lz.cps.toList) (i := to % (lz.length : Int)) (Int.emod_nonneg _ (by omega)) (by rw [hlc]; exact Int.emod_lt_of_pos _ hl')
      generalize lz.cps.toList[(to % (lz.length : Int)).toNat]'_ = c at z1
      refine ⟨sign c, t1 + 1, by simp [d1, hl, hlz, z1], by simp; omega, by push_cast; omega, ?_⟩
      intro d hd
      rcases List.mem_append.mp hd with hd | hd
      · exact e3 d hd
      · exact ⟨c, List.mem_singleton.mp hd⟩
  simp at h2 h3 h4
  obtain ⟨cs, rfl⟩ := signs_of h4
  exact ⟨cs, by rw [h1, h3], by simpa using h2⟩
abbrev bMid : S := (.seq (.asg (.nm 6) (.idx (.var 2) (.lit (.int 0)))) (.seq (.asg (.nm 7) (.join (.lit (.str (Str.ofString ""))) (.lc .range (.var 4) (.nm 10) [10] (.lit (.bool true)) (.idx (.var 6) (.bin .mod (.call 4 (.cons (.tape 0) (.cons (.tape 1) (.cons (.lit (.int 12)) .nil)))) (.blt .len (.cons (.var 6) .nil))))))) (.seq (.ife (.and (.cmp .eq (.call 4 (.cons (.tape 0) (.cons (.tape 1) (.cons (.lit (.int 2)) .nil)))) (.lit (.int 0))) (.cmp .eq (.var 5) (.lit (.int 0)))) (.asg (.nm 7) (.bin .add (.bin .mul (.idx (.var 6) (.lit (.int 0))) (.bin .add (.lit (.int 5)) (.call 4 (.cons (.tape 0) (.cons (.tape 1) (.cons (.lit (.int 3)) .nil)))))) (.idx (.var 6) (.neg (.lit (.int 1)))))) .nop) bEnd)))
theorem law_mid {s : Sy} {lz n0 n1 n2 : Str} {i : Int} {n : Nat} (h : ns.length ≤ 63) (ht : 0 ≤ t) (ht2 : t ≤ 800000) (hs : s.depth ≤ 5) (wf : WF s (gaOf [])) (hl : 0 < lz.length) (hl2 : lz.length ≤ 4) (hn : n ≤ 5) :
    ∃ t', exs (cf W (k + 40)) W bMid [some (.scr ns), some .tp, some (.d (worldD lz n0 n1 n2)), some (.d s.D), some (.d (.int (n : Nat))), some (.d (.int i)), none, none, none, none, none] t = some (.rt (.bool true) t') := by
  obtain ⟨cs, lc, ln⟩ := word_pick (t := t) (draws (W := W) (k := k + 39) h) (lz := lz) hl (by omega) (e2 := some (.d (worldD lz n0 n1 n2))) (e3 := some (.d s.D)) (e4 := some (.d (.int (n : Nat)))) (e5 := some (.d (.int i))) (e7 := none) (e8 := none) (e9 := none) (n := n) (by omega) ht (by omega)
  have e := ev_lcR (n := n) (it := .var 4) (t := t) (t1 := t) (by simp) (by omega) lc
  obtain ⟨z, j1, j2⟩ := join_len (cs := cs) (by omega)
  have d1 := draw_eq (W := W) (k := k + 39) (t := t + n) (m := 2) h (by omega) (by omega) (by decide)
  generalize drawD ns (t + n) 2 = c2 at d1
  have w0 : idxD (worldD lz n0 n1 n2) (.int 0) = some (.str lz) := rfl
  unfold bMid
  generalize (M.lc .range (.var 4) (.nm 10) [10] (.lit (.bool true)) (.idx (.var 6) (.bin .mod (.call 4 (.cons (.tape 0) (.cons (.tape 1) (.cons (.lit (.int 12)) .nil)))) (.blt .len (.cons (.var 6) .nil))))) = ML at e ⊢
  have fin := fun (z : Str) (hz : z.length ≤ 8) (t : Int) (h1 : 0 ≤ t) (h2 : t ≤ 900000) => law_end (W := W) (k := k) (t := t) (z := z) h h1 h2 hs wf hz (e2 := some (.d (worldD lz n0 n1 n2))) (e4 := some (.d (.int (n : Nat)))) (e5 := some (.d (.int i))) (e6 := some (.d (.str lz)))
  generalize bEnd = B at fin ⊢
  simp only [worldD] at e fin ⊢
  by_cases hc : c2 = 0 ∧ i = 0
  · obtain ⟨r1, r2⟩ := hc
    subst r1 r2
    have d2 := draw_eq (W := W) (k := k + 39) (t := t + n + 1) (m := 3) h (by omega) (by omega) (by decide)
    have b1 := drawD_lo (ns := ns) (t := t + n + 1) (m := 3) (by decide)
    have b2 := drawD_hi (ns := ns) (t := t + n + 1) (m := 3) (by decide)
    generalize drawD ns (t + n + 1) 3 = c3 at d2 b1 b2
    have hlz : lz.length ≤ sizeLine := Nat.le_trans hl2 (by decide)
    have hlc : lz.cps.toList.length = lz.length := by simp [Str.length]
    have z1 := atI_ok (xs := lz.cps.toList) (i := 0) (by omega) (by omega)
    generalize lz.cps.toList[(0 : Int).toNat]'_ = c at z1
    obtain ⟨cl, hcl⟩ : ∃ cl, lz.cps.toList.getLast? = some cl := by
      cases hq : lz.cps.toList with
      | nil => rw [hq] at hlc; simp at hlc; omega
      | cons a b => exact ⟨_, List.getLast?_cons ..⟩
    have z2 : atI lz.cps.toList (-1) = some cl := by
      have hne : lz.cps.toList ≠ [] := fun e => by rw [e] at hlc; simp at hlc; omega
      unfold atI ixN
      rw [if_neg (by omega), if_pos (by omega)]
      show lz.cps.toList[(-1 + (lz.cps.toList.length : Int)).toNat]? = _
      rw [show (-1 + (lz.cps.toList.length : Int)).toNat = lz.cps.toList.length - 1 by omega, ← List.getLast?_eq_getElem?]
      exact hcl
    have m1 : mulD (sign c) (.int (5 + c3)) = some (.str (Txt.mul ⟨#[c]⟩ (5 + c3))) := by
      have q1 : (⟨#[c]⟩ : Str).length ≤ 100 := by show (1 : Nat) ≤ 100; omega
      have q2 : (0 : Int) ≤ 5 + c3 := by omega
      have q3 : 5 + c3 ≤ 100 := by omega
      simp [sign, q1, q2, q3]
    have ml : (Txt.mul ⟨#[c]⟩ (5 + c3)).length ≤ 7 := PyProof.Rows.len_mul_one (c := c) rfl (by omega)
    have s1 : (⟨#[cl]⟩ : Str).length = 1 := rfl
    have ad : addD (.str (Txt.mul ⟨#[c]⟩ (5 + c3))) (sign cl) = some (.str (Txt.mul ⟨#[c]⟩ (5 + c3) ++ ⟨#[cl]⟩)) := by
      have : (Txt.mul ⟨#[c]⟩ (5 + c3)).length + (⟨#[cl]⟩ : Str).length ≤ sizeLine := Nat.le_trans (show _ ≤ 100 by omega) (by decide)
      simp [sign, this]
    have a5 : addD (.int 5) (.int c3) = some (.int (5 + c3)) := rfl
    obtain ⟨t', f⟩ := fin (Txt.mul ⟨#[c]⟩ (5 + c3) ++ ⟨#[cl]⟩) (by rw [Str.length_append, s1]; omega) (t + n + 1 + 1) (by omega) (by omega)
    exact ⟨t', by simp [-mulD, -addD, -joinD, e, j1, d1, d2, hlz, z1, z2, a5, m1, ad, f]⟩
  · obtain ⟨t', f⟩ := fin z (by omega) (t + n + 1) (by omega) (by omega)
    by_cases hc2 : c2 = 0
    · have hi : (i == 0) = false := by simpa using fun e : i = 0 => hc ⟨hc2, e⟩
      subst hc2
      exact ⟨t', by simp [-mulD, -addD, -joinD, e, j1, d1, hi, f]⟩
    · have hc3 : (c2 == 0) = false := by simpa using hc2
      exact ⟨t', by simp [-mulD, -addD, -joinD, e, j1, d1, hc3, f]⟩
theorem law_eq (h : ns.length ≤ 63) : ∃ t, exs (cf W (k + 40)) W flaw (env0 ns 11) 0 = some (.rt (.bool true) t) := by
  obtain ⟨lz, n0, n1, n2, t1, we, wl, wl4, w1, w2⟩ := world_eq (W := W) (k := k + 37) (t := 0) h (by omega) (by omega)
  obtain ⟨s, t2, se, wf, sd, s1, s2⟩ := saying_eq (W := W) (k := k + 33) (n0 := n0) (n1 := n1) (n2 := n2) h wl (by omega) 4 [] t1 (by simp) (by omega) (by simp; omega)
  have s2 : t2 + 4 ≤ t1 + 160 := s2
  have e4 : (((4 : Nat) : Nat) : Int) = 4 := rfl
  have e0 : scD [] = .list [] := rfl
  rw [e4, e0] at se
  have d1 := draw_eq (W := W) (k := k + 39) (t := t2) (m := 4) h (by omega) (by omega) (by decide)
  have a1 := drawD_lo (ns := ns) (t := t2) (m := 4) (by decide)
  have a2 := drawD_hi (ns := ns) (t := t2) (m := 4) (by decide)
  generalize drawD ns t2 4 = sz at d1 a1 a2
  obtain ⟨i, hi⟩ := sets_ok (W := W) s (k + 40) (t2 + 1) (by omega)
  have mid := fun (n : Nat) (hn : n ≤ 5) (t : Int) (h1 : 0 ≤ t) (h2 : t ≤ 800000) => law_mid (W := W) (k := k) (t := t) (s := s) (lz := lz) (n0 := n0) (n1 := n1) (n2 := n2) (i := i) (n := n) h h1 h2 (by omega) wf wl wl4 hn
  have top : ∀ t', exs (cf W (k + 40)) W (.seq (.asg (.nm 2) (.call 6 (.cons (.tape 0) (.cons (.tape 1) .nil)))) (.seq (.asg (.nm 3) (.call 9 (.cons (.tape 0) (.cons (.tape 1) (.cons (.var 2) (.cons (.lst .nil) (.cons (.lit (.int 4)) .nil))))))) (.seq (.asg (.nm 4) (.call 4 (.cons (.tape 0) (.cons (.tape 1) (.cons (.lit (.int 4)) .nil))))) (.seq (.asg (.nm 5) (.call 12 (.cons (.var 3) .nil))) (.seq (.ife (.and (.cmp .lt (.var 5) (.lit (.int 2))) (.cmp .eq (.call 4 (.cons (.tape 0) (.cons (.tape 1) (.cons (.lit (.int 3)) .nil)))) (.lit (.int 0)))) (.asg (.nm 4) (.bin .add (.lit (.int 4)) (.call 4 (.cons (.tape 0) (.cons (.tape 1) (.cons (.lit (.int 2)) .nil)))))) .nop) bMid))))) (env0 ns 11) 0 = some (.rt (.bool true) t') → exs (cf W (k + 40)) W flaw (env0 ns 11) 0 = some (.rt (.bool true) t') := fun t' e => e
  rw [show env0 ns 11 = [some (.scr ns), some .tp, none, none, none, none, none, none, none, none, none] from rfl] at top ⊢
  generalize bMid = B at mid top
  have d2 := draw_eq (W := W) (k := k + 39) (t := t2 + 1) (m := 3) h (by omega) (by omega) (by decide)
  generalize drawD ns (t2 + 1) 3 = c2 at d2
  by_cases hi2 : i < 2
  · by_cases hc : c2 = 0
    · subst hc
      have d3 := draw_eq (W := W) (k := k + 39) (t := t2 + 1 + 1) (m := 2) h (by omega) (by omega) (by decide)
      have b1 := drawD_lo (ns := ns) (t := t2 + 1 + 1) (m := 2) (by decide)
      have b2 := drawD_hi (ns := ns) (t := t2 + 1 + 1) (m := 2) (by decide)
      generalize drawD ns (t2 + 1 + 1) 2 = c3 at d3 b1 b2
      obtain ⟨m, hm⟩ : ∃ m : Nat, 4 + c3 = m := ⟨(4 + c3).toNat, by omega⟩
      obtain ⟨t', r⟩ := mid m (by omega) (t2 + 1 + 1 + 1) (by omega) (by omega)
      exact ⟨t', top t' (by simp [we, se, d1, hi, hi2, d2, d3, hm, r])⟩
    · have hc3 : (c2 == 0) = false := by simpa using hc
      obtain ⟨m, hm⟩ : ∃ m : Nat, sz = m := ⟨sz.toNat, by omega⟩
      obtain ⟨t', r⟩ := mid m (by omega) (t2 + 1 + 1) (by omega) (by omega)
      subst hm
      exact ⟨t', top t' (by simp [we, se, d1, hi, hi2, d2, hc3, r])⟩
  · obtain ⟨m, hm⟩ : ∃ m : Nat, sz = m := ⟨sz.toNat, by omega⟩
    obtain ⟨t', r⟩ := mid m (by omega) (t2 + 1) (by omega) (by omega)
    subst hm
    exact ⟨t', top t' (by simp [we, se, d1, hi, hi2, r])⟩
end
end Lw

open PySem PySem.W PyProof.Rows
set_option Elab.async false
set_option maxRecDepth 100000
set_option maxHeartbeats 0 in
theorem PySem.Challenge.cw_placesay_k09_true_by_trying_holds : PySem.Challenge.rw_placesay_k09_true_by_trying.Holds := by
  w_on; o_law; k_head; (case hw => w_witness2)
  k_fill
  refine L2.walk_of (l := PySem.Challenge.rw_placesay_k09_true_by_trying) (n := 63) (k := 61) (x := "_law_script") (CX := fun _ => L2.CX0) (sp := fun w => Pl.spLaw _) rfl (by decide) rfl ⟨rfl, by decide, by decide⟩ (fun w h Y => PySem.W.kIn_of Y) ?F (fun _ _ a ns hl _ hS => ⟨a, ns, rfl, hS, hl, fun _ => rfl⟩) (fun _ _ _ _ _ h => h)
  case F =>
    intro w mg fa h KX G hmg
    refine' Lw.all_mk (W := 1000) (k := 60) KX G hmg ?a0 ?l0 ?c0 ?k0 ?a1 ?l1 ?c1 ?k1 ?a2 ?l2 ?c2 ?k2 ?a3 ?l3 ?c3 ?k3 ?a4 ?l4 ?c4 ?k4 ?a5 ?l5 ?c5 ?k5 ?a6 ?l6 ?c6 ?k6 ?a7 ?l7 ?c7 ?k7 ?a8 ?l8 ?c8 ?k8 ?a9 ?l9 ?c9 ?k9 ?a10 ?l10 ?c10 ?k10 ?a11 ?l11 ?c11 ?k11 ?a12 ?l12 ?c12 ?k12 ?a13 ?l13 ?c13 ?k13 ?z_any ?z_bool ?z_dict ?z_isinstance ?z_len ?z_list ?z_max ?z_range ?z_reversed ?he
    (case a0 => k_is)
    (case l0 => k_is)
    (case c0 => k_is)
    (case k0 => k_is)
    (case a1 => k_is)
    (case l1 => k_is)
    (case c1 => k_is)
    (case k1 => k_is)
    (case a2 => k_is)
    (case l2 => k_is)
    (case c2 => k_is)
    (case k2 => k_is)
    (case a3 => k_is)
    (case l3 => k_is)
    (case c3 => k_is)
    (case k3 => k_is)
    (case a4 => k_is)
    (case l4 => k_is)
    (case c4 => k_is)
    (case k4 => k_is)
    (case a5 => k_is)
    (case l5 => k_is)
    (case c5 => k_is)
    (case k5 => k_is)
    (case a6 => k_is)
    (case l6 => k_is)
    (case c6 => k_is)
    (case k6 => k_is)
    (case a7 => k_is)
    (case l7 => k_is)
    (case c7 => k_is)
    (case k7 => k_is)
    (case a8 => k_is)
    (case l8 => k_is)
    (case c8 => k_is)
    (case k8 => k_is)
    (case a9 => k_is)
    (case l9 => k_is)
    (case c9 => k_is)
    (case k9 => k_is)
    (case a10 => k_is)
    (case l10 => k_is)
    (case c10 => k_is)
    (case k10 => k_is)
    (case a11 => k_is)
    (case l11 => k_is)
    (case c11 => k_is)
    (case k11 => k_is)
    (case a12 => k_is)
    (case l12 => k_is)
    (case c12 => k_is)
    (case k12 => k_is)
    (case a13 => k_is)
    (case l13 => k_is)
    (case c13 => k_is)
    (case k13 => k_is)
    (case z_any => k_is)
    (case z_bool => k_is)
    (case z_dict => k_is)
    (case z_isinstance => k_is)
    (case z_len => k_is)
    (case z_list => k_is)
    (case z_max => k_is)
    (case z_range => k_is)
    (case z_reversed => k_is)
    (case he => exact fun ns h => Lw.law_eq (k := 20) h)

