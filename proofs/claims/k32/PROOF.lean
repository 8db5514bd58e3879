import PyProof.Rows.All
import Wide.All
import OpenK.AllK
import Wide.FinOn
import HandS.ForMost
import HandS.Exc
import HandS.TryOnly
import HandS.ExcOwn
import HandS.WordsExc
import HandS.CallSlots
import HandS.Wide
import HandS.Walk
import HandS.TupAny
import HandS.TupMul
import HandS.IsInst
import HandS.Lambda
import HandS.Style
import KE.GoesEnum
import HandS.HeadHook4
import HandS.WrittenGet
import HandS.Deep
import HandS.ExcIs
import PyProof.ReprRoads
import PyProof.Rows.RegFStrParts
import HandS.HeadEnd
import HandS.HeadWalk
import PyProof.Rows.ReprShort
import HandS.SortInts
import HandS.Zip
import KE.GoesSet
import KE.GoesMore
import HandS.Strs
import HandS.SetFor
import HandS.DictComp
import HandS.DictEq
import HandS.ListItems
import HandS.Small
import HandS.More
import HandS.WordsDict
import KE.KDictWalk
import PyProof.EqKinds
import HandS.Head0
import HandS.Head1
import HandS.Head2
import PySem.Challenge.RW_waterheads_k32_cuts_looked_at
set_option Elab.async false
set_option linter.all false
set_option maxRecDepth 100000
set_option maxHeartbeats 4000000
/-! DL: values at any depth over the hand layer; what a piece of text does as a function of the slots' deep values. -/
namespace DL
open PySem PySem.Spec PyProof.Rows L2

/-! ### deep values -/
def kD : Key → PyData
  | .inl i => .int i
  | .inr x => .str x
mutual
inductive Rp (K : PySem.W.Frag) (F : Hp) : V → PyData → Prop
  | non : Rp K F .non .none
  | bl (b : Bool) : Rp K F (.bl b) (.bool b)
  | int (i : Int) : Rp K F (.int i) (.int i)
  | str (x : Str) : Rp K F (.str x) (.str x)
  | lst {a : Addr} {xs : List V} {ds : List PyData} : Rd F a (.lst xs) → RpL K F xs ds → Rp K F (.ref a) (.list ds)
  | tup {a : Addr} {xs : List V} {ds : List PyData} : SqT K F a xs → RpL K F xs ds → Rp K F (.ref a) (.tuple ds)
  | dct {a : Addr} {ys : List (Key × V)} {es : List (PyData × PyData)} : F a = some (.dK ys) → RpK K F ys es → Rp K F (.ref a) (.dict es)
inductive RpL (K : PySem.W.Frag) (F : Hp) : List V → List PyData → Prop
  | nil : RpL K F [] []
  | cons {v : V} {vs : List V} {d : PyData} {ds : List PyData} : Rp K F v d → RpL K F vs ds → RpL K F (v :: vs) (d :: ds)
inductive RpK (K : PySem.W.Frag) (F : Hp) : List (Key × V) → List (PyData × PyData) → Prop
  | nil : RpK K F [] []
  | cons {k : Key} {v : V} {ys : List (Key × V)} {d : PyData} {es : List (PyData × PyData)} : Rp K F v d → RpK K F ys es → RpK K F ((k, v) :: ys) ((kD k, d) :: es)
end
theorem same_rd {H H' : Hp} {a : Addr} {u : HO} (e : Same H H') (h : Rd H a u) : Rd H' a u := by
  rcases h with h | ⟨o, h⟩
  · exact .inl (e _ _ h)
  · exact .inr ⟨o, e _ _ h⟩
theorem same_sqT {K : PySem.W.Frag} {H H' : Hp} {a : Addr} {xs : List V} (e : Same H H') (h : SqT K H a xs) : SqT K H' a xs := by
  rcases h with (h | ⟨o, h⟩) | h
  · exact .inl (.inl (e _ _ h))
  · exact .inl (.inr ⟨o, e _ _ h⟩)
  · exact .inr h
section
variable {K : PySem.W.Frag} {F F' H : Hp}
mutual
theorem Rp.mono (e : Same F F') : ∀ (d : PyData) (v : V), Rp K F v d → Rp K F' v d
  | .none, _, h => by cases h; exact .non
  | .bool b, _, h => by cases h; exact .bl b
  | .int i, _, h => by cases h; exact .int i
  | .str x, _, h => by cases h; exact .str x
  | .list ds, _, h => by
    cases h with
    | lst h1 h2 => exact .lst (same_rd e h1) (RpL.mono e ds _ h2)
  | .tuple ds, _, h => by
    cases h with
    | tup h1 h2 => exact .tup (same_sqT e h1) (RpL.mono e ds _ h2)
  | .dict es, _, h => by
    cases h with
    | dct h1 h2 => exact .dct (e _ _ h1) (RpK.mono e es _ h2)
theorem RpL.mono (e : Same F F') : ∀ (ds : List PyData) (vs : List V), RpL K F vs ds → RpL K F' vs ds
  | [], _, h => by cases h; exact .nil
  | d :: ds, _, h => by
    cases h with
    | cons h1 h2 => exact .cons (Rp.mono e d _ h1) (RpL.mono e ds _ h2)
theorem RpK.mono (e : Same F F') : ∀ (es : List (PyData × PyData)) (ys : List (Key × V)), RpK K F ys es → RpK K F' ys es
  | [], _, h => by cases h; exact .nil
  | (k, d) :: es, _, h => by
    cases h with
    | cons h1 h2 => exact .cons (Rp.mono e d _ h1) (RpK.mono e es _ h2)
end
theorem RpL.length : ∀ {vs : List V} {ds : List PyData}, RpL K F vs ds → vs.length = ds.length
  | [], _, h => by cases h; rfl
  | _ :: vs, _, h => by
    cases h with
    | cons h1 h2 => simp [RpL.length h2]
theorem RpL.get : ∀ {vs : List V} {ds : List PyData} {i : Nat} {d : PyData}, RpL K F vs ds → ds[i]? = some d → ∃ v, vs[i]? = some v ∧ Rp K F v d
  | [], _, i, d, h, e => by cases h; simp at e
  | v :: vs, _, 0, d, h, e => by
    cases h with
    | cons h1 h2 => simp at e; subst e; exact ⟨v, rfl, h1⟩
  | v :: vs, _, i + 1, d, h, e => by
    cases h with
    | cons h1 h2 =>
      obtain ⟨u, e1, e2⟩ := RpL.get (i := i) h2 (by simpa using e)
      exact ⟨u, by simpa using e1, e2⟩
theorem RpL.getV : ∀ {vs : List V} {ds : List PyData} {i : Nat} {v : V}, RpL K F vs ds → vs[i]? = some v → ∃ d, ds[i]? = some d ∧ Rp K F v d
  | [], _, i, v, h, e => by simp at e
  | v :: vs, _, 0, u, h, e => by
    cases h with
    | cons h1 h2 => simp at e; subst e; exact ⟨_, rfl, h1⟩
  | v :: vs, _, i + 1, u, h, e => by
    cases h with
    | cons h1 h2 =>
      obtain ⟨d, e1, e2⟩ := RpL.getV (i := i) h2 (by simpa using e)
      exact ⟨d, by simpa using e1, e2⟩
theorem RpL.app : ∀ {vs ws : List V} {ds es : List PyData}, RpL K F vs ds → RpL K F ws es → RpL K F (vs ++ ws) (ds ++ es)
  | [], _, _, _, h, g => by cases h; exact g
  | _ :: _, _, _, _, h, g => by
    cases h with
    | cons h1 h2 => exact .cons h1 (h2.app g)
theorem RpL.take : ∀ {vs : List V} {ds : List PyData} (n : Nat), RpL K F vs ds → RpL K F (vs.take n) (ds.take n)
  | _, _, 0, _ => by simp; exact .nil
  | [], _, _ + 1, h => by cases h; exact .nil
  | _ :: _, _, n + 1, h => by
    cases h with
    | cons h1 h2 => exact .cons h1 (h2.take n)
theorem RpL.drop : ∀ {vs : List V} {ds : List PyData} (n : Nat), RpL K F vs ds → RpL K F (vs.drop n) (ds.drop n)
  | _, _, 0, h => h
  | [], _, _ + 1, h => by cases h; exact .nil
  | _ :: _, _, n + 1, h => by
    cases h with
    | cons h1 h2 => exact h2.drop n
theorem RpL.set : ∀ {vs : List V} {ds : List PyData} {v : V} {d : PyData} (n : Nat), RpL K F vs ds → Rp K F v d → RpL K F (vs.set n v) (ds.set n d)
  | [], _, _, _, _, h, _ => by cases h; exact .nil
  | _ :: _, _, _, _, 0, h, r => by
    cases h with
    | cons h1 h2 => exact .cons r h2
  | _ :: _, _, _, _, n + 1, h, r => by
    cases h with
    | cons h1 h2 => exact .cons h1 (h2.set n r)
theorem RpL.reps {vs : List V} {ds : List PyData} (h : RpL K F vs ds) : ∀ n : Nat, RpL K F (List.replicate n vs).flatten (List.replicate n ds).flatten
  | 0 => .nil
  | n + 1 => by
    rw [List.replicate_succ, List.replicate_succ, List.flatten_cons, List.flatten_cons]
    exact h.app (h.reps n)
end

/-! ### what a slot holds -/
inductive Own where
  | lst (ds : List PyData) | dct (kvs : List (Key × PyData))
/-- a deep value that stays; a list or dict of the def's own; one that it got from its caller to change; another name of a slot's own -/
inductive Sl where
  | val (d : PyData) | own (o : Own) | pen (o : Own) | al (i : Nat)
abbrev EnvD := List (Option Sl)
def Own.d : Own → PyData
  | .lst ds => .list ds
  | .dct kvs => .dict (kvs.map fun p => (kD p.1, p.2))
def Sl.owns : Sl → Prop
  | .own _ => True
  | .pen _ => True
  | _ => False
def fz : Sl → Sl
  | .own o => .val o.d
  | s => s
/-- a list, a dict -/
def Soft : HO → Prop
  | .lst _ => True
  | .dK _ => True
  | _ => False
theorem Soft.nt {u : HO} (h : Soft u) (ps : Array Value) : u ≠ .tbl ps := fun z => by subst z; exact h
theorem Soft.nc {u : HO} (h : Soft u) (c : Addr) (q : Str) : u ≠ LamX.CodeO c q := fun z => by subst z; exact h
/-- no table of code objects -/
def NoT (F : Hp) : Prop := ∀ b ps, F b ≠ some (.tbl ps)
/-- the defs of a law's text that make lambdas -/
def lamDefs : List Str := ["law", "_law_words"]
/-- their tables, and the name that a lambda's code object bears -/
def TabK (K : PySem.W.Frag) : List (Addr × Str) := lamDefs.filterMap fun x => match PySem.W.nsIn K mainGlobals x with
  | some (some (.ref f)) => (match K.lookup f with
    | some ⟨_, _, .func fd, _⟩ => (match fd.code with
      | .ref c => (match K.lookup c with
        | some ⟨_, _, .fields vs, _⟩ => (match vs.getD 11 .none with
          | .ref P => some (P, x ++ ".<locals>." ++ "<lambda>")
          | _ => none)
        | _ => none)
      | _ => none)
    | _ => none)
  | _ => none
/-- what others own stays; the tables of code objects are such -/
structure SameO (K : PySem.W.Frag) (O H : Hp) : Prop where
  val : Same O H
  nt : NoT O
  tb : LamX.Tabs (TabK K) H
section
variable {K : PySem.W.Frag} {O F H : Hp} {a p : Addr} {u u0 : HO}
theorem SameO.free (h : SameO K O H) (n : H p = none) : O p = none := h.val.free n
theorem SameO.new (h : SameO K O H) (n : H p = none) : SameO K O (upd H p u) :=
  ⟨fun b x q => by rw [upd_ne (ne_of_none (h.val b x q) n)]; exact h.val b x q, h.nt, h.tb.ext fun c x e => by rw [upd_ne (ne_of_none e n)]; exact e⟩
/-- a change elsewhere -/
theorem tabs_chg {T : List (Addr × Str)} (h : LamX.Tabs T H) (ha : H a = some u0) (s0 : Soft u0) : LamX.Tabs T (upd H a u) := fun r hr => by
  obtain ⟨ps', h1, h2, h3⟩ := h r hr
  have na : ∀ {c : Addr} {x : HO}, H c = some x → (∀ q, u0 ≠ q ∨ q ≠ x) → c ≠ a := fun {c x} e q z => by
    subst z
    rw [ha] at e
    cases e
    rcases q u0 with y | y <;> exact y rfl
  refine ⟨ps', by rw [upd_ne (na h1 fun q => (Classical.em (u0 = q)).elim (fun z => .inr (z ▸ s0.nt _)) .inl)]; exact h1, h2, fun pos cv hc => ?_⟩
  obtain ⟨c, e1, e2⟩ := h3 pos cv hc
  exact ⟨c, e1, by rw [upd_ne (na e2 fun q => (Classical.em (u0 = q)).elim (fun z => .inr (z ▸ s0.nc _ _)) .inl)]; exact e2⟩
theorem SameO.chg (h : SameO K O H) (nO : O a = none) (ha : H a = some u0) (s0 : Soft u0) : SameO K O (upd H a u) :=
  ⟨fun b x q => by rw [upd_ne (ne_of_none q nO)]; exact h.val b x q, h.nt, tabs_chg h.tb ha s0⟩
theorem NoT.new (h : NoT F) (nu : ∀ ps, u ≠ .tbl ps) : NoT (upd F p u) := fun b ps q => by
  by_cases hb : b = p
  · subst hb; rw [upd_same] at q; cases q; exact nu ps rfl
  · rw [upd_ne hb] at q; exact h b ps q
/-- more is others' -/
theorem SameO.more (h : SameO K O H) (ha : H a = some u) (nu : ∀ ps, u ≠ .tbl ps) : SameO K (upd O a u) H :=
  ⟨fun b x q => by
    by_cases hb : b = a
    · subst hb; rw [upd_same] at q; cases q; exact ha
    · rw [upd_ne hb] at q; exact h.val b x q, h.nt.new nu, h.tb⟩
theorem SameO.sub {O' : Hp} (h : SameO K O H) (s : ∀ b x, O' b = some x → O b = some x) : SameO K O' H := ⟨fun b x q => h.val b x (s b x q), fun b ps q => h.nt b ps (s b _ q), h.tb⟩
/-- a lambda was made -/
theorem SameO.lam {H1 : Hp} (h : SameO K O H) (e : LamX.ExtN H H1) (t : LamX.Tabs (TabK K) H1) : SameO K O H1 := ⟨fun b x q => e b x (h.val b x q) fun ps z => h.nt b ps (z ▸ q), h.nt, t⟩
end
inductive RpV (K : PySem.W.Frag) (F : Hp) : List (Key × V) → List (Key × PyData) → Prop
  | nil : RpV K F [] []
  | cons {k : Key} {v : V} {ys : List (Key × V)} {d : PyData} {es : List (Key × PyData)} : Rp K F v d → RpV K F ys es → RpV K F ((k, v) :: ys) ((k, d) :: es)
def OwnAt (K : PySem.W.Frag) (F H : Hp) (a : Addr) : Own → Prop
  | .lst ds => ∃ xs, H a = some (.lst xs) ∧ RpL K F xs ds
  | .dct kvs => ∃ ys, H a = some (.dK ys) ∧ RpV K F ys kvs
section
variable {K : PySem.W.Frag} {F F' H H' : Hp} {a : Addr} {o : Own}
theorem RpV.mono (e : Same F F') : ∀ {ys : List (Key × V)} {es : List (Key × PyData)}, RpV K F ys es → RpV K F' ys es
  | _, _, .nil => .nil
  | _, _, .cons h r => .cons (Rp.mono e _ _ h) (r.mono e)
theorem RpV.rpK : ∀ {ys : List (Key × V)} {es : List (Key × PyData)}, RpV K F ys es → RpK K F ys (es.map fun p => (kD p.1, p.2))
  | _, _, .nil => .nil
  | _, _, .cons h r => .cons h r.rpK
theorem OwnAt.mono (e : Same F F') (g : H' a = H a) (h : OwnAt K F H a o) : OwnAt K F' H' a o := by
  cases o with
  | lst ds =>
    obtain ⟨xs, h1, h2⟩ := h
    exact ⟨xs, g.trans h1, RpL.mono e _ _ h2⟩
  | dct kvs =>
    obtain ⟨ys, h1, h2⟩ := h
    exact ⟨ys, g.trans h1, h2.mono e⟩
theorem OwnAt.soft (h : OwnAt K F H a o) : ∃ u, H a = some u ∧ Soft u := by
  cases o with
  | lst ds => obtain ⟨xs, h1, _⟩ := h; exact ⟨_, h1, trivial⟩
  | dct kvs => obtain ⟨ys, h1, _⟩ := h; exact ⟨_, h1, trivial⟩
theorem OwnAt.there (h : OwnAt K F H a o) : ∃ u, H a = some u := by
  cases o with
  | lst ds => obtain ⟨xs, h1, _⟩ := h; exact ⟨_, h1⟩
  | dct kvs => obtain ⟨ys, h1, _⟩ := h; exact ⟨_, h1⟩
/-- frozen, it is a deep value -/
theorem OwnAt.rp {u : HO} (h : OwnAt K F H a o) (e : H a = some u) (n : F a = none) : Rp K (upd F a u) (.ref a) o.d := by
  have s : Same F (upd F a u) := fun b x q => by rw [upd_ne (ne_of_none q n)]; exact q
  cases o with
  | lst ds =>
    obtain ⟨xs, h1, h2⟩ := h
    rw [h1] at e; cases e
    exact .lst (.inl upd_same) (RpL.mono s _ _ h2)
  | dct kvs =>
    obtain ⟨ys, h1, h2⟩ := h
    rw [h1] at e; cases e
    exact .dct upd_same (RpK.mono s _ _ h2.rpK)
end
def SlotOk (K : PySem.W.Frag) (F H O : Hp) (P : Nat → Option Addr) (i : Nat) (s : Sl) (v : V) : Prop :=
  match s with
  | .val d => Rp K F v d
  | .own o => ∃ a, v = .ref a ∧ F a = none ∧ O a = none ∧ OwnAt K F H a o
  | .pen o => ∃ a, v = .ref a ∧ P i = some a ∧ F a = none ∧ O a = none ∧ OwnAt K F H a o
  | .al j => v = .ref j
def TmpOk (K : PySem.W.Frag) (F : Hp) (env : EnvD) (σ : L2.St) (s : Sl) (v : V) : Prop :=
  match s with
  | .val d => Rp K F v d
  | .al i => σ[i]? = some (some v)
  | _ => False
/-- what a def's state is: G what stayed when it began, F what stays now (a part of the heap H), O what others own, P where the lists lie that it got to change -/
structure SR (K : PySem.W.Frag) (G O : Hp) (P : Nat → Option Addr) (ts : List (Sl × V)) (env : EnvD) (σ : L2.St) (F H : Hp) : Prop where
  gf : Same G F
  fh : Same F H
  oh : SameO K O H
  dj : ∀ a o, O a = some o → F a = none
  len : env.length = σ.length
  slot : ∀ i s, env[i]? = some (some s) → ∃ v, σ[i]? = some (some v) ∧ SlotOk K F H O P i s v
  tmp : ∀ p ∈ ts, TmpOk K F env σ p.1 p.2
  sep : ∀ (i j : Nat) (s t : Sl) (a : Addr), env[i]? = some (some s) → env[j]? = some (some t) → s.owns → t.owns → σ[i]? = some (some (.ref a)) → σ[j]? = some (some (.ref a)) → i = j
  nt : NoT F
/-- what an expression's value is -/
def RsOk (K : PySem.W.Frag) (F H O : Hp) (env : EnvD) (σ : L2.St) (s : Sl) (v : V) : Prop :=
  match s with
  | .val d => Rp K F v d
  | .own o => ∃ a, v = .ref a ∧ F a = none ∧ O a = none ∧ OwnAt K F H a o ∧ ∀ (i : Nat) (s' : Sl), env[i]? = some (some s') → s'.owns → σ[i]? ≠ some (some (.ref a))
  | .pen _ => False
  | .al i => σ[i]? = some (some v)

section
variable {K : PySem.W.Frag} {G O F H : Hp} {P : Nat → Option Addr} {ts : List (Sl × V)} {env : EnvD} {σ : L2.St} {s : Sl} {v : V} {p : Addr} {u : HO}
theorem same_new (n : H p = none) : Same H (upd H p u) := fun b x q => by rw [upd_ne (ne_of_none q n)]; exact q
theorem SR.sub (h : SR K G O P ts env σ F H) {ts' : List (Sl × V)} (q : ∀ p ∈ ts', p ∈ ts) : SR K G O P ts' env σ F H :=
  ⟨h.gf, h.fh, h.oh, h.dj, h.len, h.slot, fun p hp => h.tmp p (q p hp), h.sep, h.nt⟩
theorem SR.pop {t : Sl × V} (h : SR K G O P (t :: ts) env σ F H) : SR K G O P ts env σ F H := h.sub fun _ hp => List.mem_cons_of_mem _ hp
theorem SR.push (h : SR K G O P ts env σ F H) (t : TmpOk K F env σ s v) : SR K G O P ((s, v) :: ts) env σ F H :=
  ⟨h.gf, h.fh, h.oh, h.dj, h.len, h.slot, fun p hp => by
    rcases List.mem_cons.mp hp with rfl | hp
    · exact t
    · exact h.tmp p hp, h.sep, h.nt⟩
theorem SR.ofree (h : SR K G O P ts env σ F H) (n : H p = none) : F p = none ∧ O p = none := ⟨h.fh.free n, h.oh.free n⟩
theorem SlotOk.mono {F' H' : Hp} {i : Nat} (e : Same F F') (g : ∀ a, F a = none → O a = none → (∃ u, H a = some u) → F' a = none ∧ H' a = H a) (h : SlotOk K F H O P i s v) : SlotOk K F' H' O P i s v := by
  cases s with
  | val d => exact Rp.mono e _ _ h
  | own o =>
    obtain ⟨a, rfl, h1, h2, h3⟩ := h
    have g' := g a h1 h2 h3.there
    exact ⟨a, rfl, g'.1, h2, h3.mono e g'.2⟩
  | pen o =>
    obtain ⟨a, rfl, h0, h1, h2, h3⟩ := h
    have g' := g a h1 h2 h3.there
    exact ⟨a, rfl, h0, g'.1, h2, h3.mono e g'.2⟩
  | al i => exact h
theorem TmpOk.mono {F' : Hp} (e : Same F F') (h : TmpOk K F env σ s v) : TmpOk K F' env σ s v := by
  cases s with
  | val d => exact Rp.mono e _ _ h
  | own o => exact h
  | pen o => exact h
  | al i => exact h
/-- a new object, that stays -/
theorem SR.newF (h : SR K G O P ts env σ F H) (n : H p = none) (nu : ∀ ps, u ≠ .tbl ps) : SR K G O P ts env σ (upd F p u) (upd H p u) := by
  have nF := (h.ofree n).1
  have nO := (h.ofree n).2
  refine ⟨h.gf.trans (same_new nF), fun b x q => ?_, h.oh.new n, fun a o q => ?_, h.len, fun i s e => ?_, fun p hp => (h.tmp p hp).mono (same_new nF), h.sep, h.nt.new nu⟩
  · by_cases hb : b = p
    · subst hb; rw [upd_same] at q ⊢; exact q
    · rw [upd_ne hb] at q ⊢; exact h.fh _ _ q
  · rw [upd_ne (ne_of_none q nO)]; exact h.dj a o q
  · obtain ⟨v, e1, e2⟩ := h.slot i s e
    refine ⟨v, e1, e2.mono (same_new nF) fun a h1 h2 ⟨w, h3⟩ => ?_⟩
    have ne : a ≠ p := ne_of_none h3 n
    rw [upd_ne ne, upd_ne ne]
    exact ⟨h1, rfl⟩
/-- a new object, the def's own -/
theorem SR.newH (h : SR K G O P ts env σ F H) (n : H p = none) : SR K G O P ts env σ F (upd H p u) := by
  refine ⟨h.gf, h.fh.trans (same_new n), h.oh.new n, h.dj, h.len, fun i s e => ?_, h.tmp, h.sep, h.nt⟩
  obtain ⟨v, e1, e2⟩ := h.slot i s e
  refine ⟨v, e1, e2.mono (Same.refl _) fun a h1 h2 ⟨w, h3⟩ => ⟨h1, ?_⟩⟩
  rw [upd_ne (ne_of_none h3 n)]
theorem SR.fresh (h : SR K G O P ts env σ F H) (n : H p = none) {i : Nat} {s' : Sl} (e : env[i]? = some (some s')) (w : s'.owns) : σ[i]? ≠ some (some (.ref p)) := fun z => by
  obtain ⟨v, e1, e2⟩ := h.slot i s' e
  rw [z] at e1
  cases e1
  cases s' with
  | val d => exact w
  | own o =>
    obtain ⟨a, q, _, _, h3⟩ := e2
    cases q
    obtain ⟨u, h4⟩ := h3.there
    rw [n] at h4; cases h4
  | pen o =>
    obtain ⟨a, q, _, _, _, h3⟩ := e2
    cases q
    obtain ⟨u, h4⟩ := h3.there
    rw [n] at h4; cases h4
  | al i => exact w
/-- a new list is a value of its own -/
theorem SR.ownL (h : SR K G O P ts env σ F H) (n : H p = none) {xs : List V} {ds : List PyData} (r : RpL K F xs ds) : SR K G O P ts env σ F (upd H p (.lst xs)) ∧ RsOk K F (upd H p (.lst xs)) O env σ (.own (.lst ds)) (.ref p) :=
  ⟨h.newH n, p, rfl, (h.ofree n).1, (h.ofree n).2, ⟨xs, upd_same, r⟩, fun _ _ e w => h.fresh n e w⟩
theorem SR.ownD (h : SR K G O P ts env σ F H) (n : H p = none) {ys : List (Key × V)} {ds : List (Key × PyData)} (r : RpV K F ys ds) : SR K G O P ts env σ F (upd H p (.dK ys)) ∧ RsOk K F (upd H p (.dK ys)) O env σ (.own (.dct ds)) (.ref p) :=
  ⟨h.newH n, p, rfl, (h.ofree n).1, (h.ofree n).2, ⟨ys, upd_same, r⟩, fun _ _ e w => h.fresh n e w⟩
/-- a new tuple -/
theorem SR.valT (h : SR K G O P ts env σ F H) (n : H p = none) {xs : List V} {ds : List PyData} (r : RpL K F xs ds) : SR K G O P ts env σ (upd F p (.tup xs)) (upd H p (.tup xs)) ∧ RsOk K (upd F p (.tup xs)) (upd H p (.tup xs)) O env σ (.val (.tuple ds)) (.ref p) :=
  ⟨h.newF n (fun _ z => by cases z), .tup (.inl (.inl upd_same)) (RpL.mono (same_new (h.ofree n).1) _ _ r)⟩
/-- what is to be kept stays from now on -/
theorem SR.keep (h : SR K G O P ts env σ F H) (r : RsOk K F H O env σ s v) : ∃ F', Same F F' ∧ SR K G O P ((fz s, v) :: ts) env σ F' H := by
  cases s with
  | val d => exact ⟨F, Same.refl _, h.push r⟩
  | pen o => exact r.elim
  | al i => exact ⟨F, Same.refl _, h.push r⟩
  | own o =>
    obtain ⟨a, rfl, nF, nO, ow, ns⟩ := r
    obtain ⟨u, hu, su⟩ := ow.soft
    refine ⟨upd F a u, same_new nF, ?_⟩
    have e : Same F (upd F a u) := same_new nF
    refine ⟨h.gf.trans e, fun b x q => ?_, h.oh, fun b x q => ?_, h.len, fun i s q => ?_, fun p hp => ?_, h.sep, h.nt.new su.nt⟩
    · by_cases hb : b = a
      · subst hb; rw [upd_same] at q; rw [hu]; exact q
      · rw [upd_ne hb] at q; exact h.fh _ _ q
    · rw [upd_ne (ne_of_none q nO)]; exact h.dj b x q
    · obtain ⟨v, e1, e2⟩ := h.slot i s q
      refine ⟨v, e1, ?_⟩
      cases s with
      | val d => exact Rp.mono e _ _ e2
      | own o' =>
        obtain ⟨b, rfl, h1, h2, h3⟩ := e2
        have ne : b ≠ a := fun z => ns i _ q trivial (by rw [e1, z])
        exact ⟨b, rfl, by rw [upd_ne ne]; exact h1, h2, h3.mono e rfl⟩
      | pen o' =>
        obtain ⟨b, rfl, h0, h1, h2, h3⟩ := e2
        have ne : b ≠ a := fun z => ns i _ q trivial (by rw [e1, z])
        exact ⟨b, rfl, h0, by rw [upd_ne ne]; exact h1, h2, h3.mono e rfl⟩
      | al j => exact e2
    · rcases List.mem_cons.mp hp with rfl | hp
      · exact ow.rp hu nF
      · exact (h.tmp p hp).mono e
end

/-! ### what is told: nothing, a value, or an exception of the class of a name -/
inductive Out (α : Type) where
  | ok (a : α) | err (c : Str) (env : EnvD)
abbrev M (α : Type) := Option (Out α)
@[reducible] def M.ok {α : Type} (a : α) : M α := some (.ok a)
def M.bind {α β : Type} (m : M α) (f : α → M β) : M β :=
  match m with
  | none => none
  | some (.err c e) => some (.err c e)
  | some (.ok a) => f a
abbrev FE := EnvD → M (Sl × EnvD)
abbrev FA := EnvD → M (List Sl × EnvD)
abbrev FT := EnvD → M (Bool × EnvD)
/-- what a temporary is now -/
def rd (s : Sl) (env : EnvD) : Option PyData :=
  match s with
  | .val d => some d
  | .al i => match env[i]? with
    | some (some (.val d)) => some d
    | some (some (.own o)) => some o.d
    | some (some (.pen o)) => some o.d
    | _ => none
  | _ => none
def PErr (K : PySem.W.Frag) (mg : Str → Option Value) (W : WX) (G O : Hp) (P : Nat → Option Addr) (σ : L2.St) (c : Str) (env' : EnvD) : Prop :=
  ∀ C F' H', mg c = some (.ref C) → SR K G O P [] env' σ F' H' → W (.ref C) none σ H'
def PostE (K : PySem.W.Frag) (mg : Str → Option Value) (W : WX) (G O : Hp) (P : Nat → Option Addr) (ts : List (Sl × V)) (σ : L2.St) (Q : VK) : M (Sl × EnvD) → Prop
  | none => False
  | some (.ok (s, env')) => ∀ v F' H', SR K G O P ts env' σ F' H' → RsOk K F' H' O env' σ s v → Q v H'
  | some (.err c env') => PErr K mg W G O P σ c env'
def PostT (K : PySem.W.Frag) (mg : Str → Option Value) (W : WX) (G O : Hp) (P : Nat → Option Addr) (ts : List (Sl × V)) (σ : L2.St) (Q : Bool → Hp → Prop) : M (Bool × EnvD) → Prop
  | none => False
  | some (.ok (b, env')) => ∀ F' H', SR K G O P ts env' σ F' H' → Q b H'
  | some (.err c env') => PErr K mg W G O P σ c env'
def PostA (K : PySem.W.Frag) (mg : Str → Option Value) (W : WX) (G O : Hp) (P : Nat → Option Addr) (ts : List (Sl × V)) (σ : L2.St) (Q : List V → Hp → Prop) : M (List Sl × EnvD) → Prop
  | none => False
  | some (.ok (ss, env')) => ∀ vs F' H', ss.length = vs.length → SR K G O P (ss.zip vs ++ ts) env' σ F' H' → Q vs H'
  | some (.err c env') => PErr K mg W G O P σ c env'
def SndE (K : PySem.W.Frag) (mg : Str → Option Value) (W : WX) (t : TE) (f : FE) : Prop :=
  ∀ G O P ts env σ F H Q, SR K G O P ts env σ F H → PostE K mg W G O P ts σ Q (f env) → t σ H Q
def SndT (K : PySem.W.Frag) (mg : Str → Option Value) (W : WX) (t : TT) (f : FT) : Prop :=
  ∀ G O P ts env σ F H Q, SR K G O P ts env σ F H → PostT K mg W G O P ts σ Q (f env) → t σ H Q
def SndA (K : PySem.W.Frag) (mg : Str → Option Value) (W : WX) (t : TA) (f : FA) : Prop :=
  ∀ G O P ts env σ F H Q, SR K G O P ts env σ F H → PostA K mg W G O P ts σ Q (f env) → t σ H Q
structure DE (X : Cx) (W : WX) (e : Expr) (f : FE) : Prop where
  ex : ∃ t, PE X e t ∧ SndE X.K X.mg W t f
structure DT (X : Cx) (W : WX) (e : Expr) (f : FT) : Prop where
  ex : ∃ t, PT X e t ∧ SndT X.K X.mg W t f
structure DW (X : Cx) (W : WX) (e : Expr) (f : FT) : Prop where
  ex : ∃ t, PW X e t ∧ SndT X.K X.mg W t f
structure DA (X : Cx) (W : WX) (es : List Expr) (f : FA) : Prop where
  ex : ∃ t, PA X es t ∧ SndA X.K X.mg W t f

/-! ### one value behind another -/
section
variable {K : PySem.W.Frag} {mg : Str → Option Value} {W : WX} {G O F H : Hp} {P : Nat → Option Addr} {ts : List (Sl × V)} {env : EnvD} {σ : L2.St}
theorem PostE.imp {Q Q' : VK} : ∀ {m : M (Sl × EnvD)}, PostE K mg W G O P ts σ Q m → (∀ v H', Q v H' → Q' v H') → PostE K mg W G O P ts σ Q' m
  | none, h, _ => h
  | some (.ok _), h, f => fun v F' H' a b => f v H' (h v F' H' a b)
  | some (.err _ _), h, _ => h
/-- first a, kept; then what goes on -/
theorem SndE.thn {t0 : List (Sl × V)} {t : TE} {f : FE} (h : SndE K mg W t f) {R : VK} {k : Sl → EnvD → M (Sl × EnvD)} {Q : VK} (S : SR K G O P ts env σ F H)
    (hp : PostE K mg W G O P t0 σ Q (M.bind (f env) fun p => k (fz p.1) p.2))
    (hk : ∀ s env' v F' H', SR K G O P ((s, v) :: ts) env' σ F' H' → PostE K mg W G O P t0 σ Q (k s env') → R v H') : t σ H R := by
  refine h G O P ts env σ F H R S ?_
  cases e : f env with
  | none => rw [e] at hp; exact hp
  | some o =>
    rw [e] at hp
    cases o with
    | err c env' => exact hp
    | ok p =>
      intro v F' H' S' r
      obtain ⟨F2, _, S2⟩ := S'.keep r
      exact hk _ _ v F2 H' S2 hp
theorem SndE.thnT {t0 : List (Sl × V)} {t : TE} {f : FE} (h : SndE K mg W t f) {R : VK} {k : Sl → EnvD → M (Bool × EnvD)} {Q : Bool → Hp → Prop} (S : SR K G O P ts env σ F H)
    (hp : PostT K mg W G O P t0 σ Q (M.bind (f env) fun p => k (fz p.1) p.2))
    (hk : ∀ s env' v F' H', SR K G O P ((s, v) :: ts) env' σ F' H' → PostT K mg W G O P t0 σ Q (k s env') → R v H') : t σ H R := by
  refine h G O P ts env σ F H R S ?_
  cases e : f env with
  | none => rw [e] at hp; exact hp
  | some o =>
    rw [e] at hp
    cases o with
    | err c env' => exact hp
    | ok p =>
      intro v F' H' S' r
      obtain ⟨F2, _, S2⟩ := S'.keep r
      exact hk _ _ v F2 H' S2 hp
/-- a test, then what goes on -/
theorem SndT.thn {t0 : List (Sl × V)} {t : TT} {f : FT} (h : SndT K mg W t f) {R : Bool → Hp → Prop} {k : Bool → EnvD → M (Sl × EnvD)} {Q : VK} (S : SR K G O P ts env σ F H)
    (hp : PostE K mg W G O P t0 σ Q (M.bind (f env) fun p => k p.1 p.2))
    (hk : ∀ b env' F' H', SR K G O P ts env' σ F' H' → PostE K mg W G O P t0 σ Q (k b env') → R b H') : t σ H R := by
  refine h G O P ts env σ F H R S ?_
  cases e : f env with
  | none => rw [e] at hp; exact hp
  | some o =>
    rw [e] at hp
    cases o with
    | err c env' => exact hp
    | ok p =>
      intro F' H' S'
      exact hk _ _ F' H' S' hp
theorem SndT.thnT {t0 : List (Sl × V)} {t : TT} {f : FT} (h : SndT K mg W t f) {R : Bool → Hp → Prop} {k : Bool → EnvD → M (Bool × EnvD)} {Q : Bool → Hp → Prop} (S : SR K G O P ts env σ F H)
    (hp : PostT K mg W G O P t0 σ Q (M.bind (f env) fun p => k p.1 p.2))
    (hk : ∀ b env' F' H', SR K G O P ts env' σ F' H' → PostT K mg W G O P t0 σ Q (k b env') → R b H') : t σ H R := by
  refine h G O P ts env σ F H R S ?_
  cases e : f env with
  | none => rw [e] at hp; exact hp
  | some o =>
    rw [e] at hp
    cases o with
    | err c env' => exact hp
    | ok p =>
      intro F' H' S'
      exact hk _ _ F' H' S' hp
theorem SndA.thn {t0 : List (Sl × V)} {t : TA} {f : FA} (h : SndA K mg W t f) {R : List V → Hp → Prop} {k : List Sl → EnvD → M (Sl × EnvD)} {Q : VK} (S : SR K G O P ts env σ F H)
    (hp : PostE K mg W G O P t0 σ Q (M.bind (f env) fun p => k p.1 p.2))
    (hk : ∀ ss env' vs F' H', ss.length = vs.length → SR K G O P (ss.zip vs ++ ts) env' σ F' H' → PostE K mg W G O P t0 σ Q (k ss env') → R vs H') : t σ H R := by
  refine h G O P ts env σ F H R S ?_
  cases e : f env with
  | none => rw [e] at hp; exact hp
  | some o =>
    rw [e] at hp
    cases o with
    | err c env' => exact hp
    | ok p =>
      intro vs F' H' hl S'
      exact hk _ _ vs F' H' hl S' hp
end
end DL
set_option Elab.async false
set_option linter.all false
set_option maxRecDepth 100000
set_option maxHeartbeats 4000000
namespace DL
open PySem PySem.Spec PyProof.Rows L2

/-! ### values that are read -/
/-- v shows d now: a list or dict as it stands, its parts deep values -/
def Sh (K : PySem.W.Frag) (F H : Hp) (v : V) (d : PyData) : Prop :=
  match d with
  | .list ds => ∃ a xs, v = .ref a ∧ Rd H a (.lst xs) ∧ RpL K F xs ds
  | .dict es => ∃ a ys, v = .ref a ∧ H a = some (.dK ys) ∧ RpK K F ys es
  | d => Rp K F v d
section
variable {K : PySem.W.Frag} {G O F H : Hp} {P : Nat → Option Addr} {ts : List (Sl × V)} {env : EnvD} {σ : L2.St} {s : Sl} {v : V} {d : PyData} {a : Addr} {o : Own}
theorem Rp.sh (e : Same F H) (h : Rp K F v d) : Sh K F H v d := by
  cases d with
  | list ds =>
    cases h with
    | lst h1 h2 => exact ⟨_, _, rfl, same_rd e h1, h2⟩
  | dict es =>
    cases h with
    | dct h1 h2 => exact ⟨_, _, rfl, e _ _ h1, h2⟩
  | none => exact h
  | bool b => exact h
  | int i => exact h
  | str x => exact h
  | tuple ds => exact h
theorem OwnAt.sh (h : OwnAt K F H a o) : Sh K F H (.ref a) o.d := by
  cases o with
  | lst ds =>
    obtain ⟨xs, h1, h2⟩ := h
    exact ⟨a, xs, rfl, .inl h1, h2⟩
  | dct kvs =>
    obtain ⟨ys, h1, h2⟩ := h
    exact ⟨a, ys, rfl, h1, h2.rpK⟩
theorem SR.sh (h : SR K G O P ts env σ F H) (m : (s, v) ∈ ts) (e : rd s env = some d) : Sh K F H v d := by
  have q : TmpOk K F env σ s v := h.tmp _ m
  cases s with
  | val x =>
    cases e
    exact Rp.sh h.fh q
  | own o => cases e
  | pen o => cases e
  | al i =>
    have q1 : σ[i]? = some (some v) := q
    unfold rd at e
    cases q2 : env[i]? with
    | none => simp only [q2] at e; cases e
    | some o2 =>
    cases o2 with
    | none => simp only [q2] at e; cases e
    | some s' =>
    obtain ⟨u, e1, e2⟩ := h.slot i s' q2
    rw [q1] at e1
    cases e1
    simp only [q2] at e
    cases s' with
    | val x =>
      cases e
      exact Rp.sh h.fh e2
    | own o =>
      cases e
      obtain ⟨b, rfl, _, _, z⟩ := e2
      exact z.sh
    | pen o =>
      cases e
      obtain ⟨b, rfl, _, _, _, z⟩ := e2
      exact z.sh
    | al j => cases e
/-- .. as data of the layer (no dict within) -/
def noDict : PyData → Bool
  | .dict _ => false
  | .list ds => noDictAll ds
  | .tuple ds => noDictAll ds
  | _ => true
where noDictAll : List PyData → Bool
  | [] => true
  | d :: ds => noDict d && noDictAll ds
end

/-! ### forms of the functions -/
def eC (d : PyData) : FE := fun env => M.ok (.val d, env)
def eVar (i : Nat) : FE := fun env =>
  match env[i]? with
  | some (some (.val d)) => M.ok (.val d, env)
  | some (some (.own _)) => M.ok (.al i, env)
  | some (some (.pen _)) => M.ok (.al i, env)
  | _ => none
def fin (o : Option Sl) (env : EnvD) : M (Sl × EnvD) :=
  match o with
  | some s => M.ok (s, env)
  | none => none
def g1 (g : PyData → Option Sl) (a : Option PyData) : Option Sl :=
  match a with
  | some d => g d
  | none => none
def g2 (g : PyData → PyData → Option Sl) (a b : Option PyData) : Option Sl :=
  match a with
  | some d => match b with
    | some e => g d e
    | none => none
  | none => none
def e1 (g : PyData → Option Sl) (fa : FE) : FE := fun env => M.bind (fa env) fun p => fin (g1 g (rd (fz p.1) p.2)) p.2
def e2 (g : PyData → PyData → Option Sl) (fa fb : FE) : FE := fun env => M.bind (fa env) fun p => M.bind (fb p.2) fun q => fin (g2 g (rd (fz p.1) q.2) (rd (fz q.1) q.2)) q.2
def asB (s : Sl) : Option Bool :=
  match s with
  | .val (.bool b) => some b
  | _ => none
def eT (f : FE) : FT := fun env => M.bind (f env) fun p => match asB p.1 with
  | some b => M.ok (b, p.2)
  | none => none
def eAnd (fa fb : FE) : FE := fun env => M.bind (fa env) fun p => match asB p.1 with
  | some true => fb p.2
  | some false => M.ok (.val (.bool false), p.2)
  | none => none
def eOr (fa fb : FE) : FE := fun env => M.bind (fa env) fun p => match asB p.1 with
  | some true => M.ok (.val (.bool true), p.2)
  | some false => fb p.2
  | none => none
def eNot (fa : FE) : FE := fun env => M.bind (fa env) fun p => match asB p.1 with
  | some b => M.ok (.val (.bool (!b)), p.2)
  | none => none
def tAndF (fa fb : FT) : FT := fun env => M.bind (fa env) fun p => match p.1 with
  | true => fb p.2
  | false => M.ok (false, p.2)
def tOrF (fa fb : FT) : FT := fun env => M.bind (fa env) fun p => match p.1 with
  | true => M.ok (true, p.2)
  | false => fb p.2
def tNotF (fa : FT) : FT := fun env => M.bind (fa env) fun p => M.ok (!p.1, p.2)
def eIf (fc : FT) (fa fb : FE) : FE := fun env => M.bind (fc env) fun p => match p.1 with
  | true => fa p.2
  | false => fb p.2
def aNil : FA := fun env => M.ok ([], env)
def aCons (fa : FE) (fr : FA) : FA := fun env => M.bind (fa env) fun p => M.bind (fr p.2) fun q => M.ok (fz p.1 :: q.1, q.2)

section
variable {X : Cx} {W : WX} {e a b c : Expr} {es rest : List Expr} {f fa fb fc : FE} {pos : Pos}

/-! ### names and constants -/
theorem de_var (i : Nat) {x : Str} {pos : Pos} (hN : X.N[i]? = some x := by rfl) (hv : Vis X.env.scope x := by first | exact Or.inl rfl | exact Or.inr (Or.inl rfl) | exact Or.inr (Or.inr rfl)) (hd : (x == ("__debug__" : Str)) = false := by decide)
    (hcd : (x == ("__classdict__" : Str)) = false := by decide) : DE X W (.Name x pos) (eVar i) := by
  refine ⟨_, pe_var hN hv hd hcd, fun G O P ts env σ F H Q S hp => ?_⟩
  unfold eVar at hp
  cases q : env[i]? with
  | none => rw [q] at hp; exact hp.elim
  | some o =>
    cases o with
    | none => rw [q] at hp; exact hp.elim
    | some s =>
      rw [q] at hp
      obtain ⟨v, e1, e2⟩ := S.slot i s q
      refine ⟨v, e1, ?_⟩
      cases s with
      | val d => exact hp v F H S e2
      | own o => exact hp v F H S e1
      | pen o => exact hp v F H S e1
      | al j => exact hp.elim
theorem de_const {v : V} {d : PyData} (h : PE X e (tC v)) (r : ∀ F, Rp X.K F v d) : DE X W e (eC d) :=
  ⟨_, h, fun _ _ _ _ _ _ F H _ S hp => hp v F H S (r F)⟩
theorem de_int {i : Int} {j : Nat} {pos : Pos} : DE X W (.Constant (.int i) j pos) (eC (.int i)) := de_const pe_int fun _ => .int i
theorem de_bl {i : Bool} {j : Nat} {pos : Pos} : DE X W (.Constant (.bool i) j pos) (eC (.bool i)) := de_const pe_bl fun _ => .bl i
theorem de_non {j : Nat} {pos : Pos} : DE X W (.Constant .none j pos) (eC .none) := de_const pe_non fun _ => .non
theorem de_str {x : Str} {j : Nat} {pos : Pos} : DE X W (.Constant (.str x) j pos) (eC (.str x)) := de_const pe_str fun _ => .str x

/-! ### operators -/
/-- an operator by deep values -/
def OpD (X : Cx) (r : R2) (g : PyData → PyData → Option Sl) : Prop := ∀ (G O : Hp) (P : Nat → Option Addr) (ts : List (Sl × V)) (env : EnvD) (σ : L2.St) (F H : Hp) (x y : V) (d1 d2 : PyData) (s : Sl) (Q : VK),
  SR X.K G O P ts env σ F H → Sh X.K F H x d1 → Sh X.K F H y d2 → g d1 d2 = some s → (∀ v F' H', SR X.K G O P ts env σ F' H' → RsOk X.K F' H' O env σ s v → Q v H') → r x y H Q
def UnD (X : Cx) (r : V → Hp → VK → Prop) (g : PyData → Option Sl) : Prop := ∀ (G O : Hp) (P : Nat → Option Addr) (ts : List (Sl × V)) (env : EnvD) (σ : L2.St) (F H : Hp) (x : V) (d1 : PyData) (s : Sl) (Q : VK),
  SR X.K G O P ts env σ F H → Sh X.K F H x d1 → g d1 = some s → (∀ v F' H', SR X.K G O P ts env σ F' H' → RsOk X.K F' H' O env σ s v → Q v H') → r x H Q
theorem fin_ok {K : PySem.W.Frag} {mg : Str → Option Value} {G O : Hp} {P : Nat → Option Addr} {ts : List (Sl × V)} {σ : L2.St} {Q : VK} {o : Option Sl} {env : EnvD} (h : PostE K mg W G O P ts σ Q (fin o env)) :
    ∃ s, o = some s ∧ ∀ v F' H', SR K G O P ts env σ F' H' → RsOk K F' H' O env σ s v → Q v H' := by
  cases o with
  | none => exact h.elim
  | some s => exact ⟨s, rfl, h⟩
theorem g1_ok {g : PyData → Option Sl} {a : Option PyData} {s : Sl} (h : g1 g a = some s) : ∃ d, a = some d ∧ g d = some s := by
  cases a with
  | none => cases h
  | some d => exact ⟨d, rfl, h⟩
theorem g2_ok {g : PyData → PyData → Option Sl} {a b : Option PyData} {s : Sl} (h : g2 g a b = some s) : ∃ d e, a = some d ∧ b = some e ∧ g d e = some s := by
  cases a with
  | none => cases h
  | some d =>
    cases b with
    | none => cases h
    | some e => exact ⟨d, e, rfl, rfl, h⟩
theorem snd_op {K : PySem.W.Frag} {r : R2} {g : PyData → PyData → Option Sl} {ta tb : TE} (hg : OpD X r g) (ha : SndE X.K X.mg W ta fa) (hb : SndE X.K X.mg W tb fb) : SndE X.K X.mg W (tOp r ta tb) (e2 g fa fb) := by
  intro G O P ts env σ F H Q S hp
  refine ha.thn (k := fun s env' => M.bind (fb env') fun q => fin (g2 g (rd s q.2) (rd (fz q.1) q.2)) q.2) S hp fun s env' v F' H' S' hp' => ?_
  refine hb.thn (k := fun s2 env2 => fin (g2 g (rd s env2) (rd s2 env2)) env2) S' hp' fun s2 env2 v2 F2 H2 S2 hp2 => ?_
  obtain ⟨z, e0, q⟩ := fin_ok hp2
  obtain ⟨d1, d2, e1, e2, e3⟩ := g2_ok e0
  exact hg G O P ts env2 σ F2 H2 v v2 d1 d2 z Q S2.pop.pop (S2.sh (by simp) e1) (S2.sh (by simp) e2) e3 q
theorem de_op {op : Operator} {r : R2} {g : PyData → PyData → Option Sl} (ho : OpR X (binaryOp op) r) (hg : OpD X r g) (ha : DE X W a fa) (hb : DE X W b fb) : DE X W (.BinOp a op b pos) (e2 g fa fb) := by
  obtain ⟨ta, pa, sa⟩ := ha.ex
  obtain ⟨tb, pb, sb⟩ := hb.ex
  exact ⟨_, pe_op ho pa pb, snd_op (K := X.K) hg sa sb⟩
theorem de_cmp {op : CmpOp} {r : R2} {g : PyData → PyData → Option Sl} (ho : OpR X (compareOp op) r) (hg : OpD X r g) (ha : DE X W a fa) (hb : DE X W b fb) (hm : behindInMarks op b = false := by first | rfl | exact nomark _) : DE X W (.Compare a [op] [b] pos) (e2 g fa fb) := by
  obtain ⟨ta, pa, sa⟩ := ha.ex
  obtain ⟨tb, pb, sb⟩ := hb.ex
  exact ⟨_, pe_cmpR ho pa pb hm, snd_op (K := X.K) hg sa sb⟩
theorem asB_ok {K : PySem.W.Frag} {F H O : Hp} {env : EnvD} {σ : L2.St} {s : Sl} {v : V} {b : Bool} (h : asB s = some b) (r : RsOk K F H O env σ s v) : v = .bl b := by
  unfold asB at h
  split at h
  · cases h
    cases r
    rfl
  · cases h
theorem snd_test {K : PySem.W.Frag} {mg : Str → Option Value} {t : TE} (h : SndE K mg W t f) : SndT K mg W (tTest t) (eT f) := by
  intro G O P ts env σ F H Q S hp
  refine h G O P ts env σ F H _ S ?_
  unfold eT at hp
  cases q : f env with
  | none => rw [q] at hp; exact hp
  | some o =>
    rw [q] at hp
    cases o with
    | err c env' => exact hp
    | ok p =>
      intro v F' H' S' r
      change PostT K mg W G O P ts σ Q (match asB p.1 with | some b => M.ok (b, p.2) | none => none) at hp
      cases z : asB p.1 with
      | none => rw [z] at hp; exact hp.elim
      | some b =>
        rw [z] at hp
        exact ⟨b, asB_ok z r, hp F' H' S'⟩
theorem dt_cmp {op : CmpOp} {r : R2} {g : PyData → PyData → Option Sl} (ho : OpR X (compareOp op) r) (hg : OpD X r g) (ha : DE X W a fa) (hb : DE X W b fb) (hm : behindInMarks op b = false := by first | rfl | exact nomark _) : DT X W (.Compare a [op] [b] pos) (eT (e2 g fa fb)) := by
  obtain ⟨ta, pa, sa⟩ := ha.ex
  obtain ⟨tb, pb, sb⟩ := hb.ex
  exact ⟨_, pt_cmpR ho pa pb hm, snd_test (snd_op (K := X.K) hg sa sb)⟩
theorem dt_val (h : DE X W e f) (he : ∀ whole, isTrue e X.env whole = (do let v ← whole; standAt e.pos; holding [v] (truthy v)) := by intro _; rfl) : DT X W e (eT f) := by
  obtain ⟨t, p, s⟩ := h.ex
  exact ⟨_, pt_val p he, snd_test s⟩
theorem de_un {op : UnaryOp} {r : V → Hp → VK → Prop} {g : PyData → Option Sl} (ho : UnR X (unaryOp op) r) (hg : UnD X r g) (ha : DE X W a fa) : DE X W (.UnaryOp op a pos) (e1 g fa) := by
  obtain ⟨ta, pa, sa⟩ := ha.ex
  refine ⟨_, pe_un ho pa, fun G O P ts env σ F H Q S hp => ?_⟩
  refine sa.thn (k := fun s env' => fin (g1 g (rd s env')) env') S hp fun s env' v F' H' S' hp' => ?_
  obtain ⟨z, e0, q⟩ := fin_ok hp'
  obtain ⟨d1, e1, e3⟩ := g1_ok e0
  exact hg G O P ts env' σ F' H' v d1 z Q S'.pop (S'.sh (by simp) e1) e3 q

/-! ### and, or, not, a if t else b -/
theorem de_one {op : BoolOp} (ha : DE X W a fa) : DE X W (.BoolOp op [a] pos) fa := by
  obtain ⟨ta, pa, sa⟩ := ha.ex
  exact ⟨_, pe_one pa, sa⟩
theorem snd_bool {K : PySem.W.Frag} {mg : Str → Option Value} {t : TE} {k : Bool → EnvD → M (Sl × EnvD)} {T : Bool → Hp → VK → L2.St → Prop} (h : SndE K mg W t f)
    (hk : ∀ (b : Bool) G O P ts env σ F H Q, SR K G O P ts env σ F H → PostE K mg W G O P ts σ Q (k b env) → T b H Q σ) :
    SndE K mg W (fun σ H Q => t σ H fun x H1 => ∃ c, x = .bl c ∧ T c H1 Q σ) (fun env => M.bind (f env) fun p => match asB p.1 with | some b => k b p.2 | none => none) := by
  intro G O P ts env σ F H Q S hp
  refine h G O P ts env σ F H _ S ?_
  dsimp only at hp
  cases q : f env with
  | none => rw [q] at hp; exact hp
  | some o =>
    rw [q] at hp
    cases o with
    | err c env' => exact hp
    | ok p =>
      intro v F' H' S' r
      change PostE K mg W G O P ts σ Q (match asB p.1 with | some b => k b p.2 | none => none) at hp
      cases z : asB p.1 with
      | none => rw [z] at hp; exact hp.elim
      | some b =>
        rw [z] at hp
        exact ⟨b, asB_ok z r, hk b G O P ts p.2 σ F' H' Q S' hp⟩
theorem de_and (ha : DE X W a fa) (hb : DE X W (.BoolOp .And (b :: rest) pos) fb) : DE X W (.BoolOp .And (a :: b :: rest) pos) (eAnd fa fb) := by
  obtain ⟨ta, pa, sa⟩ := ha.ex
  obtain ⟨tb, pb, sb⟩ := hb.ex
  refine ⟨_, pe_and pa pb, ?_⟩
  have z := snd_bool (k := fun c env => match c with | true => fb env | false => M.ok (.val (.bool false), env)) (T := fun c H Q σ => if c = true then tb σ H Q else Q (.bl false) H) sa (fun c G O P ts env σ F H Q S hp => by
    cases c with
    | true => exact sb G O P ts env σ F H Q S hp
    | false => exact hp _ F H S (.bl false))
  intro G O P ts env σ F H Q S hp
  refine z G O P ts env σ F H Q S ?_
  have e : (fun p : Sl × EnvD => match asB p.1 with | some true => fb p.2 | some false => M.ok (.val (.bool false), p.2) | none => none) = fun p : Sl × EnvD => match asB p.1 with | some c => (match c with | true => fb p.2 | false => M.ok (.val (.bool false), p.2)) | none => none := by
    funext p
    cases asB p.1 with
    | none => rfl
    | some c => cases c <;> rfl
  unfold eAnd at hp
  rw [e] at hp
  exact hp
theorem de_or (ha : DE X W a fa) (hb : DE X W (.BoolOp .Or (b :: rest) pos) fb) : DE X W (.BoolOp .Or (a :: b :: rest) pos) (eOr fa fb) := by
  obtain ⟨ta, pa, sa⟩ := ha.ex
  obtain ⟨tb, pb, sb⟩ := hb.ex
  refine ⟨_, pe_or pa pb, ?_⟩
  have z := snd_bool (k := fun c env => match c with | false => fb env | true => M.ok (.val (.bool true), env)) (T := fun c H Q σ => if c = true then Q (.bl true) H else tb σ H Q) sa (fun c G O P ts env σ F H Q S hp => by
    cases c with
    | false => exact sb G O P ts env σ F H Q S hp
    | true => exact hp _ F H S (.bl true))
  intro G O P ts env σ F H Q S hp
  refine z G O P ts env σ F H Q S ?_
  have e : (fun p : Sl × EnvD => match asB p.1 with | some true => M.ok (.val (.bool true), p.2) | some false => fb p.2 | none => none) = fun p : Sl × EnvD => match asB p.1 with | some c => (match c with | false => fb p.2 | true => M.ok (.val (.bool true), p.2)) | none => none := by
    funext p
    cases asB p.1 with
    | none => rfl
    | some c => cases c <;> rfl
  unfold eOr at hp
  rw [e] at hp
  exact hp
theorem de_not (ha : DE X W a fa) : DE X W (.UnaryOp .Not a pos) (eNot fa) := by
  obtain ⟨ta, pa, sa⟩ := ha.ex
  exact ⟨_, pe_not pa, snd_bool (k := fun c env => M.ok (.val (.bool (!c)), env)) (T := fun c H Q _ => Q (.bl (!c)) H) sa fun c G O P ts env σ F H Q S hp => hp _ F H S (.bl (!c))⟩
theorem dt_w {f : FT} (h : DW X W e f) : DT X W e f := by
  obtain ⟨t, p, s⟩ := h.ex
  exact ⟨_, p.pt, s⟩
theorem dw_and1 {f : FT} (h : DT X W a f) : DW X W (.BoolOp .And [a] pos) f := by
  obtain ⟨t, p, s⟩ := h.ex
  exact ⟨_, pw_and1 p, s⟩
theorem dw_or1 {f : FT} (h : DT X W a f) : DW X W (.BoolOp .Or [a] pos) f := by
  obtain ⟨t, p, s⟩ := h.ex
  exact ⟨_, pw_or1 p, s⟩
theorem dw_and {f g : FT} (ha : DT X W a f) (hb : DW X W (.BoolOp .And (b :: rest) pos) g) : DW X W (.BoolOp .And (a :: b :: rest) pos) (tAndF f g) := by
  obtain ⟨ta, pa, sa⟩ := ha.ex
  obtain ⟨tb, pb, sb⟩ := hb.ex
  refine ⟨_, pw_and pa pb, fun G O P ts env σ F H Q S hp => ?_⟩
  refine sa.thnT (k := fun c env' => match c with | true => g env' | false => M.ok (false, env')) S hp fun c env' F' H' S' hp' => ?_
  cases c with
  | true => exact sb G O P ts env' σ F' H' Q S' hp'
  | false => exact hp' F' H' S'
theorem dw_or {f g : FT} (ha : DT X W a f) (hb : DW X W (.BoolOp .Or (b :: rest) pos) g) : DW X W (.BoolOp .Or (a :: b :: rest) pos) (tOrF f g) := by
  obtain ⟨ta, pa, sa⟩ := ha.ex
  obtain ⟨tb, pb, sb⟩ := hb.ex
  refine ⟨_, pw_or pa pb, fun G O P ts env σ F H Q S hp => ?_⟩
  refine sa.thnT (k := fun c env' => match c with | true => M.ok (true, env') | false => g env') S hp fun c env' F' H' S' hp' => ?_
  cases c with
  | false => exact sb G O P ts env' σ F' H' Q S' hp'
  | true => exact hp' F' H' S'
theorem dt_not {f : FT} (ha : DT X W a f) : DT X W (.UnaryOp .Not a pos) (tNotF f) := by
  obtain ⟨ta, pa, sa⟩ := ha.ex
  refine ⟨_, pt_not pa, fun G O P ts env σ F H Q S hp => ?_⟩
  exact sa.thnT (k := fun c env' => M.ok (!c, env')) S hp fun c env' F' H' S' hp' => hp' F' H' S'
theorem de_if {f : FT} (hc : DT X W c f) (ha : DE X W a fa) (hb : DE X W b fb) : DE X W (.IfExp c a b pos) (eIf f fa fb) := by
  obtain ⟨tc, pc, sc⟩ := hc.ex
  obtain ⟨ta, pa, sa⟩ := ha.ex
  obtain ⟨tb, pb, sb⟩ := hb.ex
  refine ⟨_, pe_ifExp pc pa pb, fun G O P ts env σ F H Q S hp => ?_⟩
  refine sc.thn (k := fun c env' => match c with | true => fa env' | false => fb env') S hp fun c env' F' H' S' hp' => ?_
  cases c with
  | true => exact sa G O P ts env' σ F' H' Q S' hp'
  | false => exact sb G O P ts env' σ F' H' Q S' hp'

/-! ### arguments -/
theorem da_nil : DA X W [] aNil := ⟨_, pa_nil, fun _ _ _ _ _ _ F H _ S hp => hp [] F H rfl S⟩
theorem da_cons {fr : FA} (ha : DE X W e fa) (hr : DA X W es fr) (hs : starEach (e :: es) X.env = (false, eval e X.env) :: starEach es X.env := by rfl) : DA X W (e :: es) (aCons fa fr) := by
  obtain ⟨ta, pa, sa⟩ := ha.ex
  obtain ⟨tr, pr, sr⟩ := hr.ex
  refine ⟨_, pa_cons pa pr hs, fun G O P ts env σ F H Q S hp => ?_⟩
  refine sa G O P ts env σ F H _ S ?_
  unfold aCons at hp
  cases q : fa env with
  | none => rw [q] at hp; exact hp
  | some o =>
    rw [q] at hp
    cases o with
    | err c env' => exact hp
    | ok p =>
      intro v F' H' S' r
      obtain ⟨F2, _, S2⟩ := S'.keep r
      refine sr G O P _ p.2 σ F2 H' _ S2 ?_
      change PostA X.K X.mg W G O P ts σ Q (M.bind (fr p.2) fun q => M.ok (fz p.1 :: q.1, q.2)) at hp
      cases q2 : fr p.2 with
      | none => rw [q2] at hp; exact hp
      | some o2 =>
        rw [q2] at hp
        cases o2 with
        | err c env' => exact hp
        | ok p2 =>
          intro vs F3 H3 hl S3
          exact hp (v :: vs) F3 H3 (by simp [hl]) (S3.sub fun z hz => by
            simp only [List.zip_cons_cons, List.cons_append, List.mem_cons, List.mem_append] at hz ⊢
            rcases hz with hz | hz | hz
            · exact .inr (.inl hz)
            · exact .inl hz
            · exact .inr (.inr hz))
end
end DL
set_option Elab.async false
set_option linter.all false
set_option maxRecDepth 100000
set_option maxHeartbeats 4000000
namespace DL
open PySem PySem.Spec PyProof.Rows L2

section
variable {K : PySem.W.Frag} {G O F F' H : Hp} {P : Nat → Option Addr} {ts : List (Sl × V)} {env : EnvD} {σ : L2.St} {s : Sl} {v : V} {d : PyData} {a : Addr} {o : Own}
mutual
theorem Rp.dp (e : Same F H) : ∀ (d : PyData) (v : V), d.canLay0 = true → Rp K F v d → Dp K H v d
  | .none, _, _, h => by cases h; exact .non
  | .bool b, _, _, h => by cases h; exact .bl b
  | .int i, _, _, h => by cases h; exact .int i
  | .str x, _, _, h => by cases h; exact .str x
  | .list ds, _, c, h => by
    cases h with
    | lst h1 h2 => exact .lst (.inl (same_rd e h1)) (RpL.dp e ds _ (by simpa [PyData.canLay0] using c) h2)
  | .tuple ds, _, c, h => by
    cases h with
    | tup h1 h2 => exact .tup (same_sqT e h1) (RpL.dp e ds _ (by simpa [PyData.canLay0] using c) h2)
  | .dict es, _, c, h => by simp [PyData.canLay0] at c
theorem RpL.dp (e : Same F H) : ∀ (ds : List PyData) (vs : List V), PyData.canLayAll0 ds = true → RpL K F vs ds → DpAll K H vs ds
  | [], _, _, h => by cases h; exact .nil
  | d :: ds, _, c, h => by
    have c2 : d.canLay0 = true ∧ PyData.canLayAll0 ds = true := by simpa [PyData.canLayAll0] using c
    cases h with
    | cons h1 h2 => exact .cons (Rp.dp e d _ c2.1 h1) (RpL.dp e ds _ c2.2 h2)
end
theorem Sh.dp (e : Same F H) (c : d.canLay0 = true) (h : Sh K F H v d) : Dp K H v d := by
  cases d with
  | list ds =>
    obtain ⟨a, xs, rfl, h1, h2⟩ := h
    exact .lst (.inl h1) (RpL.dp e ds _ (by simpa [PyData.canLay0] using c) h2)
  | dict es => simp [PyData.canLay0] at c
  | none => exact Rp.dp e _ _ c h
  | bool b => exact Rp.dp e _ _ c h
  | int i => exact Rp.dp e _ _ c h
  | str x => exact Rp.dp e _ _ c h
  | tuple ds => exact Rp.dp e _ _ c h
theorem Sh.tup {ds : List PyData} (e : Same F H) (h : Sh K F H v (.tuple ds)) : ∃ a xs, v = .ref a ∧ SqT K H a xs ∧ RpL K F xs ds := by
  cases h with
  | tup h1 h2 => exact ⟨_, _, rfl, same_sqT e h1, h2⟩
theorem Sh.seq {ds : List PyData} (e : Same F H) (h : Sh K F H v (.list ds) ∨ Sh K F H v (.tuple ds)) : ∃ a xs, v = .ref a ∧ (SqL K H a xs ∨ SqT K H a xs) ∧ RpL K F xs ds := by
  rcases h with h | h
  · obtain ⟨a, xs, rfl, h1, h2⟩ := h
    exact ⟨a, xs, rfl, .inl (.inl h1), h2⟩
  · obtain ⟨a, xs, rfl, h1, h2⟩ := h.tup e
    exact ⟨a, xs, rfl, .inr h1, h2⟩
end

/-! ### the operators by deep values -/
def bigL : Nat := 100000
theorem bigL_ok {n : Nat} (h : n ≤ bigL) : n ≤ sizeLine := by rw [sizeLine_eq]; unfold bigL at h; omega
theorem bigL_lt {n : Nat} (h : n ≤ bigL) : n < sizeLine := by rw [sizeLine_eq]; unfold bigL at h; omega
def vI (i : Int) : Option Sl := some (.val (.int i))
def vB (b : Bool) : Option Sl := some (.val (.bool b))
def addD (a b : PyData) : Option Sl :=
  match a, b with
  | .int i, .int j => vI (i + j)
  | .tuple xs, .tuple ys => if xs.length + ys.length ≤ bigL then some (.val (.tuple (xs ++ ys))) else none
  | .list xs, .list ys => if xs.length + ys.length ≤ bigL then some (.own (.lst (xs ++ ys))) else none
  | _, _ => none
def subD (a b : PyData) : Option Sl :=
  match a, b with
  | .int i, .int j => vI (i - j)
  | _, _ => none
def mulD (a b : PyData) : Option Sl :=
  match a, b with
  | .int i, .int j => if i.natAbs.log2 + j.natAbs.log2 < 1000000 then vI (i * j) else none
  | .list xs, .int k => if xs.length ≤ 1000 ∧ 0 ≤ k ∧ k ≤ 100 then some (.own (.lst (List.replicate k.toNat xs).flatten)) else none
  | .tuple xs, .int k => if xs.length ≤ 1000 ∧ xs ≠ [] ∧ 2 ≤ k ∧ k ≤ 100 then some (.val (.tuple (List.replicate k.toNat xs).flatten)) else none
  | _, _ => none
def divD (a b : PyData) : Option Sl :=
  match a, b with
  | .int i, .int j => if j ≠ 0 ∧ j.natAbs.log2 < 9000 then vI (i.fdiv j) else none
  | _, _ => none
def modD (a b : PyData) : Option Sl :=
  match a, b with
  | .int i, .int j => if j ≠ 0 then vI (i.fmod j) else none
  | _, _ => none
def powD (a b : PyData) : Option Sl :=
  match a, b with
  | .int i, .int j => if 0 ≤ j ∧ j ≤ 1000 ∧ i.natAbs < 2 ^ 64 then vI (i ^ j.toNat) else none
  | _, _ => none
def shlD (a b : PyData) : Option Sl :=
  match a, b with
  | .int i, .int j => if 0 ≤ j ∧ j ≤ 1000 ∧ i.natAbs < 2 ^ 64 then vI (i * 2 ^ j.toNat) else none
  | _, _ => none
def shrD (a b : PyData) : Option Sl :=
  match a, b with
  | .int i, .int j => if 0 ≤ j then vI (i / 2 ^ j.toNat) else none
  | _, _ => none
def andD (a b : PyData) : Option Sl :=
  match a, b with
  | .int i, .int j => vI (Builtin.bitAnd i j)
  | _, _ => none
def ordD (p : Int → Int → Bool) (a b : PyData) : Option Sl :=
  match a, b with
  | .int i, .int j => vB (p i j)
  | _, _ => none
abbrev ltD := ordD fun i j => decide (i < j)
abbrev leD := ordD fun i j => decide (i ≤ j)
abbrev gtD := ordD fun i j => decide (j < i)
abbrev geD := ordD fun i j => decide (j ≤ i)
def isStrD : PyData → Bool
  | .str _ => true
  | _ => false
def eqD (a b : PyData) : Option Sl := if (SeqAt.shaped a = true ∧ SeqAt.shaped b = true) ∨ (isStrD a = true ∧ isStrD b = true) then vB (PyData.eqv a b) else none
def neD (a b : PyData) : Option Sl := if (SeqAt.shaped a = true ∧ SeqAt.shaped b = true) ∨ (isStrD a = true ∧ isStrD b = true) then vB (!PyData.eqv a b) else none
def isNon : PyData → Bool
  | .none => true
  | _ => false
def isD (a b : PyData) : Option Sl := if isNon b = true then vB (isNon a) else none
def isntD (a b : PyData) : Option Sl := if isNon b = true then vB (!isNon a) else none
def seqOf : PyData → Option (List PyData)
  | .list ds => some ds
  | .tuple ds => some ds
  | _ => none
def inD (a b : PyData) : Option Sl :=
  match seqOf b with
  | some ds => if SeqAt.shaped a = true ∧ SeqAt.shaped (.list ds) = true then vB (ds.any fun z => PyData.eqv z a) else none
  | none => none
def ninD (a b : PyData) : Option Sl :=
  match seqOf b with
  | some ds => if SeqAt.shaped a = true ∧ SeqAt.shaped (.list ds) = true then vB (!ds.any fun z => PyData.eqv z a) else none
  | none => none
section
variable {X : Cx}
/-- an operator of two ints whose answer is an int or a bool -/
theorem opd_int {C : Int → Int → Prop} {g : Int → Int → V} {gd : PyData → PyData → Option Sl} (h : ∀ d1 d2 s, gd d1 d2 = some s → ∃ i j d, d1 = .int i ∧ d2 = .int j ∧ s = .val d ∧ C i j ∧ ∀ F, Rp X.K F (g i j) d) : OpD X (rI C g) gd := by
  intro G O P ts env σ F H x y d1 d2 s Q S h1 h2 e q
  obtain ⟨i, j, d, rfl, rfl, rfl, c, r⟩ := h d1 d2 s e
  cases h1
  cases h2
  exact ⟨i, j, rfl, rfl, c, q _ F H S (r F)⟩
theorem opd_int0 {g : Int → Int → V} {gd : PyData → PyData → Option Sl} (h : ∀ d1 d2 s, gd d1 d2 = some s → ∃ i j d, d1 = .int i ∧ d2 = .int j ∧ s = .val d ∧ ∀ F, Rp X.K F (g i j) d) : OpD X (rI0 g) gd := by
  intro G O P ts env σ F H x y d1 d2 s Q S h1 h2 e q
  obtain ⟨i, j, d, rfl, rfl, rfl, r⟩ := h d1 d2 s e
  cases h1
  cases h2
  exact ⟨i, j, rfl, rfl, q _ F H S (r F)⟩
theorem od_sub : OpD X (rI0 fun i j => .int (i - j)) subD := opd_int0 fun d1 d2 s e => by
  unfold subD at e
  split at e
  · cases e; exact ⟨_, _, _, rfl, rfl, rfl, fun _ => .int _⟩
  · cases e
theorem od_div : OpR X (binaryOp .FloorDiv) (rI (fun _ j => j ≠ 0 ∧ j.natAbs.log2 < 9000) fun i j => .int (i.fdiv j)) ∧ OpD X (rI (fun _ j => j ≠ 0 ∧ j.natAbs.log2 < 9000) fun i j => .int (i.fdiv j)) divD :=
  ⟨opI fun _ _ _ _ _ _ _ hc q => floordiv_int hc.1 q (.inl (PyProof.noPylong_of_log2 hc.2)), opd_int fun d1 d2 s e => by
    unfold divD at e
    split at e
    · split at e
      · cases e; exact ⟨_, _, _, rfl, rfl, rfl, by assumption, fun _ => .int _⟩
      · cases e
    · cases e⟩
theorem od_mod : OpD X (rI (fun _ j => j ≠ 0) fun i j => .int (i.fmod j)) modD := opd_int fun d1 d2 s e => by
  unfold modD at e
  split at e
  · split at e
    · cases e; exact ⟨_, _, _, rfl, rfl, rfl, by assumption, fun _ => .int _⟩
    · cases e
  · cases e
theorem od_pow : OpD X (rI CPow fun i j => .int (i ^ j.toNat)) powD := opd_int fun d1 d2 s e => by
  unfold powD at e
  split at e
  · split at e
    · rename_i h
      cases e; exact ⟨_, _, _, rfl, rfl, rfl, ⟨h.1, by omega, h.2.2⟩, fun _ => .int _⟩
    · cases e
  · cases e
theorem od_shl : OpD X (rI CPow fun i j => .int (i * 2 ^ j.toNat)) shlD := opd_int fun d1 d2 s e => by
  unfold shlD at e
  split at e
  · split at e
    · rename_i h
      cases e; exact ⟨_, _, _, rfl, rfl, rfl, ⟨h.1, by omega, h.2.2⟩, fun _ => .int _⟩
    · cases e
  · cases e
theorem od_shr : OpD X (rI (fun _ j => 0 ≤ j) fun i j => .int (i / 2 ^ j.toNat)) shrD := opd_int fun d1 d2 s e => by
  unfold shrD at e
  split at e
  · split at e
    · cases e; exact ⟨_, _, _, rfl, rfl, rfl, by assumption, fun _ => .int _⟩
    · cases e
  · cases e
theorem od_and : OpD X (rI0 fun i j => .int (Builtin.bitAnd i j)) andD := opd_int0 fun d1 d2 s e => by
  unfold andD at e
  split at e
  · cases e; exact ⟨_, _, _, rfl, rfl, rfl, fun _ => .int _⟩
  · cases e
theorem od_ord {p : Int → Int → Bool} : OpD X (rI0 fun i j => .bl (p i j)) (ordD p) := opd_int0 fun d1 d2 s e => by
  unfold ordD at e
  split at e
  · cases e; exact ⟨_, _, _, rfl, rfl, rfl, fun _ => .bl _⟩
  · cases e
/-- list + list, list * int, where one may be the law's script -/
def rCatR : R2 := fun x y H Q => ∃ l b xs zs, x = .ref l ∧ y = .ref b ∧ Rd H l (.lst xs) ∧ Rd H b (.lst zs) ∧ xs.length + zs.length ≤ sizeLine ∧ ∀ p, H p = none → Q (.ref p) (upd H p (.lst (xs ++ zs)))
theorem op_catR : OpR X (binaryOp .Add) rCatR := by
  intro pins s σ H x y v u Q I rx ry h
  obtain ⟨l, b, xs, zs, rfl, rfl, hH, hB, hz, q⟩ := h
  cases rx
  cases ry
  obtain ⟨_, its, n, r, e⟩ := hH.ok I.hok
  obtain ⟨_, its2, n2, r2, e2⟩ := hB.ok I.hok
  have hl := r.length
  have hl2 := r2.length
  refine PySem.P.add_list e e2 ?_ (by rw [List.size_toArray, List.size_toArray]; omega)
  rw [show its.toArray ++ its2.toArray = (its ++ its2).toArray from by simp]
  exact ⟨.ref _, _, I.lnew (t' := s.toks) (r.append r2) (by rw [List.length_append]; omega), rfl, q _ I.fresh⟩
def rRepR : R2 := fun x y H Q => ∃ l k xs, x = .ref l ∧ y = .int k ∧ Rd H l (.lst xs) ∧ -(2 ^ 63) ≤ k ∧ k < 2 ^ 63 ∧ xs.length * k.toNat ≤ sizeLine ∧
  ∀ p, H p = none → Q (.ref p) (upd H p (.lst (List.replicate k.toNat xs).flatten))
theorem op_repR : OpR X (binaryOp .Mult) rRepR := by
  intro pins s σ H x y v u Q I rx ry h
  obtain ⟨l, k, xs, rfl, rfl, hH, h1, h2, hz, q⟩ := h
  cases rx
  obtain ⟨t, rfl⟩ := ry
  obtain ⟨_, its, n, r, e⟩ := hH.ok I.hok
  have hl := r.length
  have hlen : its.toArray.size * k.toNat ≤ sizeLine := by rw [List.size_toArray, ← hl]; exact hz
  have hcap : ¬ its.toArray.size * k.toNat > (2 ^ 63 - 1) / 8 := by
    have : (sizeLine : Nat) ≤ (2 ^ 63 - 1) / 8 := by decide
    omega
  have hfit : ¬ (!Builtin.List.listFitsIndex k) = true := by rw [fitsIndex_both h1 h2]; decide
  have hlong : ¬ Builtin.List.listTooLong (its.toArray.size * k.toNat) = true := by rw [notLongL hlen]; decide
  have hnew : List.foldl (fun x1 x2 => x1 ++ x2) #[] (List.replicate (if its.toArray.isEmpty = true then 0 else k.toNat) its.toArray) = (List.replicate k.toNat its).flatten.toArray := by
    have f0 : ∀ m : Nat, List.foldl (fun x1 x2 => x1 ++ x2) #[] (List.replicate m its.toArray) = (List.replicate m its).flatten.toArray := fun m => by simpa using foldl_rep its m []
    rw [f0]
    cases its with
    | nil => simp
    | cons a r' => rw [if_neg (by simp)]
  refine wpAny_binaryOp_repeat_ref (T := "list") (U := "int") (by decide) ⟨_, e, rfl⟩ (fun s' => typeIs_int s' k t) noFill_list_mul F.fills_int_mul F.slot_int_rmul repeat_list F.slot_int_index.lookup
    (call_meets F.slot_int_rmul (typeIs_int s k t) F.entry_int_rmul (F.args_int_rmul_2 _ _) (int___rmul___int_list k t l its.toArray n)
      ⟨e, rfl, ⟨_, e, rfl⟩, call_meets F.slot_list_mul ⟨_, e, rfl⟩ F.entry_list_mul (F.args_list_mul_2 _ _) (AutoListH.list___mul___list_int_3 l its.toArray n k t hfit hcap hlong) ⟨e, ?_⟩⟩)
  rw [hnew]
  exact ⟨.ref _, _, I.lnew (t' := s.toks) (r.rep k.toNat) (by rw [PyProof.Rows.lm_len_rep_flat, Nat.mul_comm]; exact hz), rfl, q _ I.fresh⟩
def rAddA (K : PySem.W.Frag) : R2 := fun x y H Q => (rI0 fun i j => .int (i + j)) x y H Q ∨ rCatA K x y H Q ∨ rCatR x y H Q
theorem or_add : OpR X (binaryOp .Add) (rAddA X.K) := op_add.or (op_catA.or op_catR)
theorem od_add : OpD X (rAddA X.K) addD := by
  intro G O P ts env σ F H x y d1 d2 s Q S h1 h2 e q
  unfold addD at e
  split at e
  · cases e; cases h1; cases h2
    exact .inl ⟨_, _, rfl, rfl, q _ F H S (.int _)⟩
  · split at e
    · rename_i hl
      cases e
      obtain ⟨a, xs, rfl, q1, r1⟩ := Sh.tup S.fh h1
      obtain ⟨b, ys, rfl, q2, r2⟩ := Sh.tup S.fh h2
      have h1' := h1
      have h2' := h2
      refine .inr (.inl ⟨a, b, xs, ys, rfl, rfl, q1, q2, by rw [r1.length, r2.length]; exact bigL_ok hl, fun e => ?_, fun _ e => ?_, fun _ _ p np => ?_⟩)
      · subst e; cases r1
        exact q _ F H S h2'
      · subst e; cases r2
        rw [List.append_nil] at q
        exact q _ F H S h1'
      · obtain ⟨S2, R2⟩ := S.valT np (r1.app r2)
        exact q _ _ _ S2 R2
    · cases e
  · split at e
    · rename_i hl
      cases e
      obtain ⟨a, xs, rfl, q1, r1⟩ := h1
      obtain ⟨b, ys, rfl, q2, r2⟩ := h2
      refine .inr (.inr ⟨a, b, xs, ys, rfl, rfl, q1, q2, by rw [r1.length, r2.length]; exact bigL_ok hl, fun p np => ?_⟩)
      obtain ⟨S2, R2⟩ := S.ownL np (r1.app r2)
      exact q _ _ _ S2 R2
    · cases e
  · cases e
def rMulA (K : PySem.W.Frag) : R2 := fun x y H Q => (rI CMulW fun i j => .int (i * j)) x y H Q ∨ rRepT K x y H Q ∨ rRepR x y H Q
theorem or_mul : OpR X (binaryOp .Mult) (rMulA X.K) := op_mulW.or (op_repT.or op_repR)
theorem od_mul : OpD X (rMulA X.K) mulD := by
  intro G O P ts env σ F H x y d1 d2 s Q S h1 h2 e q
  unfold mulD at e
  split at e
  · split at e
    · rename_i hc
      cases e; cases h1; cases h2
      exact .inl ⟨_, _, rfl, rfl, hc, q _ F H S (.int _)⟩
    · cases e
  · split at e
    · rename_i hl
      cases e; cases h2
      obtain ⟨a, xs, rfl, q1, r1⟩ := h1
      refine .inr (.inr ⟨a, _, xs, rfl, rfl, q1, by omega, by omega, ?_, fun p np => ?_⟩)
      · rename_i k
        rw [r1.length, sizeLine_eq]
        have : k.toNat ≤ 100 := by omega
        exact Nat.le_trans (Nat.mul_le_mul hl.1 this) (by decide)
      · obtain ⟨S2, R2⟩ := S.ownL np (r1.reps _)
        exact q _ _ _ S2 R2
    · cases e
  · split at e
    · rename_i hl
      cases e; cases h2
      obtain ⟨a, xs, rfl, q1, r1⟩ := Sh.tup S.fh h1
      refine .inr (.inl ⟨a, _, xs, rfl, rfl, q1, fun z => ?_, hl.2.2.1, by omega, by rw [r1.length]; exact hl.1, fun p np => ?_⟩)
      · subst z; cases r1; exact hl.2.1 rfl
      · obtain ⟨S2, R2⟩ := S.valT np (r1.reps _)
        exact q _ _ _ S2 R2
    · cases e
  · cases e
def rEqG (K : PySem.W.Frag) : R2 := fun x y H Q => rEqD K x y H Q ∨ rEq x y H Q
def rNeG (K : PySem.W.Frag) : R2 := fun x y H Q => rNeD K x y H Q ∨ rNe x y H Q
theorem or_eq (hu : X.A.units + 64 < cLine) : OpR X (compareOp .Eq) (rEqG X.K) := (op_eqD hu).or op_eq
theorem or_ne (hu : X.A.units + 64 < cLine) : OpR X (compareOp .NotEq) (rNeG X.K) := (op_neD hu).or op_ne
theorem isStr_ok {K : PySem.W.Frag} {F H : Hp} {v : V} {d : PyData} (e : isStrD d = true) (h : Sh K F H v d) : ∃ x, d = .str x ∧ v = .str x := by
  cases d with
  | str x => cases h; exact ⟨x, rfl, rfl⟩
  | _ => cases e
theorem od_eq : OpD X (rEqG X.K) eqD := by
  intro G O P ts env σ F H x y d1 d2 s Q S h1 h2 e q
  unfold eqD at e
  split at e
  · rename_i hs
    cases e
    rcases hs with hs | hs
    · exact .inl ⟨d1, d2, Sh.dp S.fh (SeqAt.canLay_of_shaped hs.1) h1, Sh.dp S.fh (SeqAt.canLay_of_shaped hs.2) h2, hs.1, hs.2, q _ F H S (.bl _)⟩
    · obtain ⟨a, rfl, rfl⟩ := isStr_ok hs.1 h1
      obtain ⟨b, rfl, rfl⟩ := isStr_ok hs.2 h2
      refine .inr ⟨rfl, ?_⟩
      rw [dec_str]
      exact q _ F H S (.bl _)
  · cases e
theorem od_ne : OpD X (rNeG X.K) neD := by
  intro G O P ts env σ F H x y d1 d2 s Q S h1 h2 e q
  unfold neD at e
  split at e
  · rename_i hs
    cases e
    rcases hs with hs | hs
    · exact .inl ⟨d1, d2, Sh.dp S.fh (SeqAt.canLay_of_shaped hs.1) h1, Sh.dp S.fh (SeqAt.canLay_of_shaped hs.2) h2, hs.1, hs.2, q _ F H S (.bl _)⟩
    · obtain ⟨a, rfl, rfl⟩ := isStr_ok hs.1 h1
      obtain ⟨b, rfl, rfl⟩ := isStr_ok hs.2 h2
      refine .inr ⟨rfl, ?_⟩
      rw [dec_str]
      exact q _ F H S (.bl _)
  · cases e
theorem isNon_ok {K : PySem.W.Frag} {F H : Hp} {v : V} {d : PyData} (h : Sh K F H v d) : isNon d = decide (v = .non) := by
  cases d with
  | none => cases h; rfl
  | bool b => cases h; rfl
  | int b => cases h; rfl
  | str b => cases h; rfl
  | list b => obtain ⟨a, xs, rfl, _⟩ := h; rfl
  | tuple b => cases h; rfl
  | dict b => obtain ⟨a, xs, rfl, _⟩ := h; rfl
theorem isNon_v {K : PySem.W.Frag} {F H : Hp} {v : V} {d : PyData} (h : Sh K F H v d) (e : isNon d = true) : v = .non := by
  rw [isNon_ok h] at e
  exact of_decide_eq_true e
theorem od_is : OpD X (fun x y H Q => y = .non ∧ Q (.bl (decide (x = .non))) H) isD := by
  intro G O P ts env σ F H x y d1 d2 s Q S h1 h2 e q
  unfold isD at e
  split at e
  · cases e
    exact ⟨isNon_v h2 (by assumption), by rw [← isNon_ok h1]; exact q _ F H S (.bl _)⟩
  · cases e
theorem od_isnt : OpD X (fun x y H Q => y = .non ∧ Q (.bl (!decide (x = .non))) H) isntD := by
  intro G O P ts env σ F H x y d1 d2 s Q S h1 h2 e q
  unfold isntD at e
  split at e
  · cases e
    exact ⟨isNon_v h2 (by assumption), by rw [← isNon_ok h1]; exact q _ F H S (.bl _)⟩
  · cases e
def rInG (K : PySem.W.Frag) (neg : Bool) : R2 := fun x y H Q => ∃ d ds, Dp K H x d ∧ (Dp K H y (.list ds) ∨ Dp K H y (.tuple ds)) ∧ SeqAt.shaped d = true ∧ SeqAt.shaped (.list ds) = true ∧ Q (.bl (if neg then !ds.any fun z => PyData.eqv z d else ds.any fun z => PyData.eqv z d)) H
theorem shaped_items {ds : List PyData} (h : SeqAt.shaped (.list ds) = true) : PyData.canLayAll0 ds = true ∧ PyData.depthAll ds ≤ 64 := by
  have h1 := SeqAt.canLay_of_shaped h
  have h2 := SeqAt.depth_of_shaped h
  simp only [PyData.canLay0] at h1
  simp only [PyData.depth] at h2
  exact ⟨h1, by omega⟩
theorem or_in (hu : X.A.units + 128 < cLine) : OpR X (compareOp .In) (rInG X.K false) := by
  intro pins s σ H x y v u Q I rx ry h
  obtain ⟨d, ds, hd, he, sd, se, q⟩ := h
  obtain ⟨as, r1⟩ := Dp.reads I d x v hd rx
  have sh := shaped_items se
  have dd := SeqAt.depth_of_shaped sd
  have cc := SeqAt.canLay_of_shaped sd
  rcases he with he | he
  · obtain ⟨bs, r2⟩ := Dp.reads I _ y u he ry
    exact SeqAt.in_list_reads r2 r1 sh.1 cc (by omega) ⟨.bl _, H, I, rfl, q⟩
  · obtain ⟨bs, r2⟩ := Dp.reads I _ y u he ry
    exact SeqAt.in_tuple_reads r2 r1 sh.1 cc (by omega) ⟨.bl _, H, I, rfl, q⟩
theorem or_nin (hu : X.A.units + 128 < cLine) : OpR X (compareOp .NotIn) (rInG X.K true) := by
  intro pins s σ H x y v u Q I rx ry h
  obtain ⟨d, ds, hd, he, sd, se, q⟩ := h
  obtain ⟨as, r1⟩ := Dp.reads I d x v hd rx
  have sh := shaped_items se
  have dd := SeqAt.depth_of_shaped sd
  have cc := SeqAt.canLay_of_shaped sd
  rcases he with he | he
  · obtain ⟨bs, r2⟩ := Dp.reads I _ y u he ry
    exact SeqAt.notIn_list_reads r2 r1 sh.1 cc (by omega) ⟨.bl _, H, I, rfl, q⟩
  · obtain ⟨bs, r2⟩ := Dp.reads I _ y u he ry
    exact SeqAt.notIn_tuple_reads r2 r1 sh.1 cc (by omega) ⟨.bl _, H, I, rfl, q⟩
theorem seqOf_ok {K : PySem.W.Frag} {F H : Hp} {v : V} {d : PyData} {ds : List PyData} (h : seqOf d = some ds) (S : Sh K F H v d) : Sh K F H v (.list ds) ∨ Sh K F H v (.tuple ds) := by
  unfold seqOf at h
  split at h
  · cases h; exact .inl S
  · cases h; exact .inr S
  · cases h
theorem in_dp {K : PySem.W.Frag} {F H : Hp} {v : V} {ds : List PyData} (e : Same F H) (c : SeqAt.shaped (.list ds) = true) (h : Sh K F H v (.list ds) ∨ Sh K F H v (.tuple ds)) : Dp K H v (.list ds) ∨ Dp K H v (.tuple ds) := by
  have cc := SeqAt.canLay_of_shaped c
  rcases h with h | h
  · exact .inl (Sh.dp e cc h)
  · exact .inr (Sh.dp e (by simpa [PyData.canLay0] using cc) h)
theorem od_in : OpD X (rInG X.K false) inD := by
  intro G O P ts env σ F H x y d1 d2 s Q S h1 h2 e q
  unfold inD at e
  split at e
  · rename_i ds hq
    split at e
    · rename_i hs
      cases e
      exact ⟨d1, ds, Sh.dp S.fh (SeqAt.canLay_of_shaped hs.1) h1, in_dp S.fh hs.2 (seqOf_ok hq h2), hs.1, hs.2, q _ F H S (.bl _)⟩
    · cases e
  · cases e
theorem od_nin : OpD X (rInG X.K true) ninD := by
  intro G O P ts env σ F H x y d1 d2 s Q S h1 h2 e q
  unfold ninD at e
  split at e
  · rename_i ds hq
    split at e
    · rename_i hs
      cases e
      exact ⟨d1, ds, Sh.dp S.fh (SeqAt.canLay_of_shaped hs.1) h1, in_dp S.fh hs.2 (seqOf_ok hq h2), hs.1, hs.2, q _ F H S (.bl _)⟩
    · cases e
  · cases e
end
end DL
set_option Elab.async false
set_option linter.all false
set_option maxRecDepth 100000
set_option maxHeartbeats 4000000
namespace DL
open PySem PySem.Spec PyProof.Rows L2

/-! ### what is kept for good -/
def frz1 (s : Sl) (env : EnvD) : Option (PyData × EnvD) :=
  match s with
  | .val d => some (d, env)
  | .al i => match env[i]? with
    | some (some (.val d)) => some (d, env)
    | some (some (.own o)) => some (o.d, env.set i (some (.val o.d)))
    | _ => none
  | _ => none
def frzAll : List Sl → EnvD → Option (List PyData × EnvD)
  | [], env => some ([], env)
  | s :: ss, env => match frz1 s env with
    | some (d, env1) => match frzAll ss env1 with
      | some (ds, env2) => some (d :: ds, env2)
      | none => none
    | none => none
section
variable {K : PySem.W.Frag} {G O F F' H : Hp} {P : Nat → Option Addr} {ts : List (Sl × V)} {env env2 : EnvD} {σ : L2.St} {s : Sl} {v : V} {d : PyData} {a : Addr} {o : Own}
theorem upd_same_of {u : HO} (h : H a = some u) : Same (upd F a u) H ↔ (∀ b x, b ≠ a → F b = some x → H b = some x) := by
  constructor
  · intro s b x nb e
    exact s b x (by rw [upd_ne nb]; exact e)
  · intro s b x e
    by_cases hb : b = a
    · subst hb; rw [upd_same] at e; rw [h]; exact e
    · rw [upd_ne hb] at e; exact s b x hb e
/-- a slot's own list stays from now on -/
theorem SR.freeze {i : Nat} (h : SR K G O P ts env σ F H) (e : env[i]? = some (some (.own o))) (hv : σ[i]? = some (some v)) :
    ∃ F2, Same F F2 ∧ SR K G O P ts (env.set i (some (.val o.d))) σ F2 H ∧ Rp K F2 v o.d := by
  obtain ⟨u0, e1, e2⟩ := h.slot i _ e
  rw [hv] at e1
  cases e1
  obtain ⟨a, rfl, nF, nO, ow⟩ := e2
  obtain ⟨u, hu, su⟩ := ow.soft
  have sm : Same F (upd F a u) := same_new nF
  have rp := ow.rp hu nF
  refine ⟨upd F a u, sm, ⟨h.gf.trans sm, (upd_same_of hu).mpr fun b x _ q => h.fh b x q, h.oh, fun b x q => ?_, by rw [List.length_set]; exact h.len, fun j t q => ?_, fun p hp => ?_, fun j k t t' b q1 q2 w1 w2 r1 r2 => ?_, h.nt.new su.nt⟩, rp⟩
  · rw [upd_ne (ne_of_none q nO)]; exact h.dj b x q
  · rw [List.getElem?_set] at q
    split at q
    · rename_i hij
      subst hij
      split at q
      · cases q
        exact ⟨_, hv, rp⟩
      · cases q
    · rename_i hij
      obtain ⟨w, f1, f2⟩ := h.slot j t q
      refine ⟨w, f1, ?_⟩
      cases t with
      | val x => exact Rp.mono sm _ _ f2
      | own x =>
        obtain ⟨b, rfl, g1, g2, g3⟩ := f2
        have ne : b ≠ a := fun z => hij (h.sep i j _ _ a e q trivial trivial hv (by rw [f1, z]))
        exact ⟨b, rfl, by rw [upd_ne ne]; exact g1, g2, g3.mono sm rfl⟩
      | pen x =>
        obtain ⟨b, rfl, g0, g1, g2, g3⟩ := f2
        have ne : b ≠ a := fun z => hij (h.sep i j _ _ a e q trivial trivial hv (by rw [f1, z]))
        exact ⟨b, rfl, g0, by rw [upd_ne ne]; exact g1, g2, g3.mono sm rfl⟩
      | al k => exact f2
  · have z := h.tmp p hp
    obtain ⟨s0, v0⟩ := p
    cases s0 with
    | val x => exact Rp.mono sm _ _ z
    | own x => exact z
    | pen x => exact z
    | al k => exact z
  · rw [List.getElem?_set] at q1 q2
    split at q1
    · split at q1
      · cases q1; exact w1.elim
      · cases q1
    · split at q2
      · split at q2
        · cases q2; exact w2.elim
        · cases q2
      · exact h.sep j k t t' b q1 q2 w1 w2 r1 r2
theorem SR.frz1 (h : SR K G O P ts env σ F H) (t : TmpOk K F env σ s v) (e : frz1 s env = some (d, env2)) : ∃ F2, Same F F2 ∧ SR K G O P ts env2 σ F2 H ∧ Rp K F2 v d := by
  unfold DL.frz1 at e
  cases s with
  | val x => cases e; exact ⟨F, Same.refl _, h, t⟩
  | own o => cases e
  | pen o => cases e
  | al i =>
    have z1 : σ[i]? = some (some v) := t
    cases z2 : env[i]? with
    | none => simp only [z2] at e; cases e
    | some o2 =>
    cases o2 with
    | none => simp only [z2] at e; cases e
    | some s' =>
    simp only [z2] at e
    cases s' with
    | val x =>
      cases e
      obtain ⟨u, f1, f2⟩ := h.slot i _ z2
      rw [z1] at f1
      cases f1
      exact ⟨F, Same.refl _, h, f2⟩
    | own o => cases e; exact h.freeze z2 z1
    | pen o => cases e
    | al k => cases e
theorem SR.frzAll : ∀ {ss : List Sl} {vs : List V} {ds : List PyData} {env env2 : EnvD} {F : Hp}, SR K G O P ts env σ F H → (∀ p ∈ ss.zip vs, p ∈ ts) → ss.length = vs.length → frzAll ss env = some (ds, env2) → ∃ F2, Same F F2 ∧ SR K G O P ts env2 σ F2 H ∧ RpL K F2 vs ds
  | [], vs, ds, env, env2, F, h, m, hl, e => by
    cases vs with
    | nil => cases e; exact ⟨F, Same.refl _, h, .nil⟩
    | cons v vs => cases hl
  | s :: ss, vs, ds, env, env2, F, h, m, hl, e => by
    cases vs with
    | nil => cases hl
    | cons v vs =>
      unfold DL.frzAll at e
      cases q : DL.frz1 s env with
      | none => rw [q] at e; cases e
      | some p =>
        obtain ⟨d, env1⟩ := p
        rw [q] at e
        dsimp only at e
        obtain ⟨F1, m1, S1, r1⟩ := h.frz1 (h.tmp _ (m (s, v) (by simp))) q
        cases q2 : DL.frzAll ss env1 with
        | none => rw [q2] at e; cases e
        | some p =>
          obtain ⟨ds1, env3⟩ := p
          rw [q2] at e
          cases e
          obtain ⟨F2, m2, S2, r2⟩ := SR.frzAll (vs := vs) S1 (fun p hp => m p (by simp [hp])) (by simpa using hl) q2
          exact ⟨F2, m1.trans m2, S2, .cons (Rp.mono m2 _ _ r1) r2⟩
end

/-! ### forms -/
def fzA (f : FA) : EnvD → M (List PyData × EnvD) := fun env => M.bind (f env) fun p => match frzAll p.1 p.2 with
  | some q => M.ok q
  | none => none
def eTup (f : FA) : FE := fun env => M.bind (fzA f env) fun p => if p.1.length ≤ bigL then M.ok (.val (.tuple p.1), p.2) else none
def eLst (f : FA) : FE := fun env => M.bind (fzA f env) fun p => if p.1.length ≤ bigL then M.ok (.own (.lst p.1), p.2) else none
def ixD (a b : PyData) : Option Sl :=
  match seqOf a, b with
  | some ds, .int i => match atI ds i with
    | some d => some (.val d)
    | none => none
  | _, _ => none
def cutD (ds : List PyData) (lo hi : Option Int) : List PyData := (ds.drop (HT.sIx ds.length 0 lo)).take (HT.sIx ds.length ds.length hi - HT.sIx ds.length 0 lo)
def slD (lo hi : Option Int) (a : PyData) : Option Sl :=
  match a with
  | .list ds => some (.own (.lst (cutD ds lo hi)))
  | .tuple ds => some (.val (.tuple (cutD ds lo hi)))
  | _ => none
abbrev FO := EnvD → M (Option Int × EnvD)
def oNone : FO := fun env => M.ok (none, env)
def asI (s : Sl) : Option Int :=
  match s with
  | .val (.int i) => some i
  | _ => none
def oSome (f : FE) : FO := fun env => M.bind (f env) fun p => match asI p.1 with
  | some i => M.ok (some i, p.2)
  | none => none
def eSl (fa : FE) (fl fh : FO) : FE := fun env => M.bind (fa env) fun p => M.bind (fl p.2) fun q => M.bind (fh q.2) fun r => fin (g1 (slD q.1 r.1) (rd (fz p.1) r.2)) r.2
def PostO (K : PySem.W.Frag) (mg : Str → Option Value) (W : WX) (G O : Hp) (P : Nat → Option Addr) (ts : List (Sl × V)) (σ : L2.St) (Q : Option Int → Hp → Prop) : M (Option Int × EnvD) → Prop
  | none => False
  | some (.ok (b, env')) => ∀ F' H', SR K G O P ts env' σ F' H' → Q b H'
  | some (.err c env') => PErr K mg W G O P σ c env'
def SndO (K : PySem.W.Frag) (mg : Str → Option Value) (W : WX) (t : TO) (f : FO) : Prop :=
  ∀ G O P ts env σ F H Q, SR K G O P ts env σ F H → PostO K mg W G O P ts σ Q (f env) → t σ H Q
structure DO (X : Cx) (W : WX) (e : Option Expr) (f : FO) : Prop where
  ex : ∃ t, PO X e t ∧ SndO X.K X.mg W t f

section
variable {X : Cx} {W : WX} {e a b c : Expr} {es rest : List Expr} {f fa fb fc : FE} {pos : Pos}
theorem SndO.thn {K : PySem.W.Frag} {mg : Str → Option Value} {G O F H : Hp} {P : Nat → Option Addr} {ts t0 : List (Sl × V)} {env : EnvD} {σ : L2.St} {t : TO} {f : FO} (h : SndO K mg W t f) {R : Option Int → Hp → Prop} {k : Option Int → EnvD → M (Sl × EnvD)} {Q : VK} (S : SR K G O P ts env σ F H)
    (hp : PostE K mg W G O P t0 σ Q (M.bind (f env) fun p => k p.1 p.2))
    (hk : ∀ b env' F' H', SR K G O P ts env' σ F' H' → PostE K mg W G O P t0 σ Q (k b env') → R b H') : t σ H R := by
  refine h G O P ts env σ F H R S ?_
  cases e : f env with
  | none => rw [e] at hp; exact hp
  | some o =>
    rw [e] at hp
    cases o with
    | err c env' => exact hp
    | ok p =>
      intro F' H' S'
      exact hk _ _ F' H' S' hp
theorem do_none : DO X W none oNone := ⟨_, po_none, fun _ _ _ _ _ _ F H _ S hp => hp F H S⟩
theorem asI_ok {K : PySem.W.Frag} {F H O : Hp} {env : EnvD} {σ : L2.St} {s : Sl} {v : V} {i : Int} (h : asI s = some i) (r : RsOk K F H O env σ s v) : v = .int i := by
  unfold asI at h
  split at h
  · cases h
    cases r
    rfl
  · cases h
theorem do_some (h : DE X W e f) : DO X W (some e) (oSome f) := by
  obtain ⟨t, p, s⟩ := h.ex
  refine ⟨_, po_some p, fun G O P ts env σ F H Q S hp => ?_⟩
  refine s G O P ts env σ F H _ S ?_
  unfold oSome at hp
  cases q : f env with
  | none => rw [q] at hp; exact hp
  | some o =>
    rw [q] at hp
    cases o with
    | err c env' => exact hp
    | ok p =>
      intro v F' H' S' r
      change PostO X.K X.mg W G O P ts σ Q (match asI p.1 with | some i => M.ok (some i, p.2) | none => none) at hp
      cases z : asI p.1 with
      | none => rw [z] at hp; exact hp.elim
      | some i =>
        rw [z] at hp
        exact ⟨i, asI_ok z r, hp F' H' S'⟩
/-! ### displays -/
theorem fzA_ok {K : PySem.W.Frag} {mg : Str → Option Value} {G O F H : Hp} {P : Nat → Option Addr} {ts t0 : List (Sl × V)} {env : EnvD} {σ : L2.St} {t : TA} {fa : FA} (h : SndA K mg W t fa) {R : List V → Hp → Prop} {k : List PyData → EnvD → M (Sl × EnvD)} {Q : VK} (S : SR K G O P ts env σ F H)
    (hp : PostE K mg W G O P t0 σ Q (M.bind (fzA fa env) fun p => k p.1 p.2))
    (hk : ∀ ds env' vs F' H', SR K G O P ts env' σ F' H' → RpL K F' vs ds → PostE K mg W G O P t0 σ Q (k ds env') → R vs H') : t σ H R := by
  refine h G O P ts env σ F H R S ?_
  unfold fzA at hp
  cases q : fa env with
  | none => rw [q] at hp; exact hp
  | some o =>
    rw [q] at hp
    cases o with
    | err c env' => exact hp
    | ok p =>
      intro vs F' H' hl S'
      change PostE K mg W G O P t0 σ Q (M.bind (match frzAll p.1 p.2 with | some q => M.ok q | none => none) fun p => k p.1 p.2) at hp
      cases z : frzAll p.1 p.2 with
      | none => rw [z] at hp; exact hp.elim
      | some r =>
        rw [z] at hp
        obtain ⟨F2, _, S2, r2⟩ := SR.frzAll (vs := vs) S' (fun p hp => List.mem_append_left _ hp) hl z
        exact hk r.1 r.2 vs F2 H' (S2.sub fun p hp => List.mem_append_right _ hp) r2 hp
theorem de_tup {x1 : Nat} {fa : FA} (h : DA X W es fa) : DE X W (.Tuple es x1 pos) (eTup fa) := by
  obtain ⟨t, p, s⟩ := h.ex
  refine ⟨_, pe_tup p, fun G O P ts env σ F H Q S hp => ?_⟩
  refine fzA_ok (k := fun ds env => if ds.length ≤ bigL then M.ok (.val (.tuple ds), env) else none) s S hp fun ds env' vs F' H' S' r hp' => ?_
  split at hp'
  · refine ⟨by rw [r.length]; exact bigL_ok (by assumption), fun q nq => ?_⟩
    obtain ⟨S2, R2⟩ := S'.valT nq r
    exact hp' _ _ _ S2 R2
  · exact hp'.elim
theorem de_lst {fa : FA} (h : DA X W es fa) : DE X W (.List es pos) (eLst fa) := by
  obtain ⟨t, p, s⟩ := h.ex
  refine ⟨_, pe_lst p, fun G O P ts env σ F H Q S hp => ?_⟩
  refine fzA_ok (k := fun ds env => if ds.length ≤ bigL then M.ok (.own (.lst ds), env) else none) s S hp fun ds env' vs F' H' S' r hp' => ?_
  split at hp'
  · refine ⟨by rw [r.length]; exact bigL_ok (by assumption), fun q nq => ?_⟩
    obtain ⟨S2, R2⟩ := S'.ownL nq r
    exact hp' _ _ _ S2 R2
  · exact hp'.elim
/-! ### a[b], a[lo:hi] -/
def rIxLT (K : PySem.W.Frag) : R2 := fun x y H Q => rIxL K x y H Q ∨ rIxT K x y H Q
theorem atI_rp {K : PySem.W.Frag} {F : Hp} {xs : List V} {ds : List PyData} {i : Int} {d : PyData} (r : RpL K F xs ds) (h : atI ds i = some d) : ∃ v, atI xs i = some v ∧ Rp K F v d := by
  unfold atI at h ⊢
  rw [← r.length] at h
  cases q : ixN xs.length i with
  | none => rw [q] at h; cases h
  | some j =>
    rw [q] at h
    exact r.get (i := j) h
theorem od_ix : OpD X (rIxLT X.K) ixD := by
  intro G O P ts env σ F H x y d1 d2 s Q S h1 h2 e q
  unfold ixD at e
  split at e
  · rename_i ds i hq
    split at e
    · rename_i d hd
      cases e; cases h2
      rcases seqOf_ok hq h1 with h | h
      · obtain ⟨a, xs, rfl, z1, z2⟩ := h
        obtain ⟨v, e1, e2⟩ := atI_rp z2 hd
        exact .inl ⟨a, xs, i, v, rfl, rfl, .inl z1, e1, q v F H S e2⟩
      · obtain ⟨a, xs, rfl, z1, z2⟩ := Sh.tup S.fh h
        obtain ⟨v, e1, e2⟩ := atI_rp z2 hd
        exact .inr ⟨a, xs, i, v, rfl, rfl, z1, e1, q v F H S e2⟩
    · cases e
  · cases e
theorem de_ix (ha : DE X W a fa) (hb : DE X W b fb) (hs : PlainIx b := by exact fun _ _ => rfl) : DE X W (.Subscript a b pos) (e2 ixD fa fb) := by
  obtain ⟨ta, pa, sa⟩ := ha.ex
  obtain ⟨tb, pb, sb⟩ := hb.ex
  exact ⟨_, pe_ix (ix_list.or ix_tup) pa pb hs, snd_op (K := X.K) od_ix sa sb⟩
theorem cut_rp {K : PySem.W.Frag} {F : Hp} {xs : List V} {ds : List PyData} (r : RpL K F xs ds) (lo hi : Option Int) : RpL K F (cutV xs lo hi) (cutD ds lo hi) := by
  unfold cutV cutD
  rw [r.length]
  exact (r.drop _).take _
def rSlLT (K : PySem.W.Frag) : V → Option Int → Option Int → Hp → VK → Prop := fun x lo hi H Q => rSlL K x lo hi H Q ∨ rSlA K x lo hi H Q
theorem de_sl {lo hi : Option Expr} {fl fh : FO} {p2 : Pos} (ha : DE X W a fa) (hl : DO X W lo fl) (hh : DO X W hi fh) : DE X W (.Subscript a (.Slice lo hi none p2) pos) (eSl fa fl fh) := by
  obtain ⟨ta, pa, sa⟩ := ha.ex
  obtain ⟨tl, pl, sl⟩ := hl.ex
  obtain ⟨th, ph, sh⟩ := hh.ex
  refine ⟨_, pe_slice (r := rSlLT X.K) (sl_list.or sl_tupA) pa pl ph, fun G O P ts env σ F H Q S hp => ?_⟩
  refine sa.thn (k := fun s env' => M.bind (fl env') fun q => M.bind (fh q.2) fun r => fin (g1 (slD q.1 r.1) (rd s r.2)) r.2) S hp fun s env' v F' H' S' hp' => ?_
  refine sl.thn (k := fun l env' => M.bind (fh env') fun r => fin (g1 (slD l r.1) (rd s r.2)) r.2) S' hp' fun l env2 F2 H2 S2 hp2 => ?_
  refine sh.thn (k := fun u env' => fin (g1 (slD l u) (rd s env')) env') S2 hp2 fun u env3 F3 H3 S3 hp3 => ?_
  obtain ⟨z, e0, q⟩ := fin_ok hp3
  obtain ⟨d1, e1, e3⟩ := g1_ok e0
  have w := S3.sh (s := s) (v := v) (by simp) e1
  unfold slD at e3
  split at e3
  · cases e3
    obtain ⟨a, xs, rfl, w1, w2⟩ := w
    refine .inl ⟨a, xs, rfl, .inl w1, fun p np => ?_⟩
    obtain ⟨S4, R4⟩ := S3.pop.ownL np (cut_rp w2 l u)
    exact q _ _ _ S4 R4
  · cases e3
    have w' := w
    obtain ⟨a, xs, rfl, w1, w2⟩ := Sh.tup S3.fh w
    refine .inr ⟨a, xs, rfl, w1, fun ⟨z1, z2⟩ => ?_, fun _ p np => ?_⟩
    · have e : cutD _ l u = _ := show cutD _ l u = _ by
        unfold cutD
        rw [← w2.length, z1, z2, List.drop_zero, Nat.sub_zero, w2.length, List.take_length]
      rw [e] at q
      exact q _ F3 H3 S3.pop w'
    · obtain ⟨S4, R4⟩ := S3.pop.valT np (cut_rp w2 l u)
      exact q _ _ _ S4 R4
  · cases e3
end
end DL
set_option Elab.async false
set_option linter.all false
set_option maxRecDepth 100000
set_option maxHeartbeats 4000000
namespace DL
open PySem PySem.Spec PyProof.Rows L2

/-! ### one reading for each function -/
def tE (K : PySem.W.Frag) (mg : Str → Option Value) (W : WX) (f : FE) : TE := fun σ H Q => ∃ G O P ts env F, SR K G O P ts env σ F H ∧ PostE K mg W G O P ts σ Q (f env)
def tT (K : PySem.W.Frag) (mg : Str → Option Value) (W : WX) (f : FT) : TT := fun σ H Q => ∃ G O P ts env F, SR K G O P ts env σ F H ∧ PostT K mg W G O P ts σ Q (f env)
theorem snd_tE {K : PySem.W.Frag} {mg : Str → Option Value} {W : WX} {f : FE} : SndE K mg W (tE K mg W f) f := fun G O P ts env σ F H Q S hp => ⟨G, O, P, ts, env, F, S, hp⟩
theorem snd_tT {K : PySem.W.Frag} {mg : Str → Option Value} {W : WX} {f : FT} : SndT K mg W (tT K mg W f) f := fun G O P ts env σ F H Q S hp => ⟨G, O, P, ts, env, F, S, hp⟩
theorem DE.can {X : Cx} {W : WX} {e : Expr} {f : FE} (h : DE X W e f) : PE X e (tE X.K X.mg W f) := by
  obtain ⟨t, p, s⟩ := h.ex
  exact ⟨fun pins sh σ H Q I ⟨G, O, P, ts, env, F, S, hp⟩ => p.run pins sh σ H Q I (s G O P ts env σ F H Q S hp)⟩
theorem DT.can {X : Cx} {W : WX} {e : Expr} {f : FT} (h : DT X W e f) : PT X e (tT X.K X.mg W f) := by
  obtain ⟨t, p, s⟩ := h.ex
  exact ⟨fun pins sh σ H Q I ⟨G, O, P, ts, env, F, S, hp⟩ => p.run pins sh σ H Q I (s G O P ts env σ F H Q S hp)⟩

/-! ### built-in functions -/
def rdAll : List Sl → EnvD → Option (List PyData)
  | [], _ => some []
  | s :: ss, env => match rd s env with
    | some d => match rdAll ss env with
      | some ds => some (d :: ds)
      | none => none
    | none => none
inductive ShL (K : PySem.W.Frag) (F H : Hp) : List V → List PyData → Prop
  | nil : ShL K F H [] []
  | cons {v : V} {vs : List V} {d : PyData} {ds : List PyData} : Sh K F H v d → ShL K F H vs ds → ShL K F H (v :: vs) (d :: ds)
theorem SR.shL {K : PySem.W.Frag} {G O F H : Hp} {P : Nat → Option Addr} {ts : List (Sl × V)} {env : EnvD} {σ : L2.St} (h : SR K G O P ts env σ F H) :
    ∀ {ss : List Sl} {vs : List V} {ds : List PyData}, (∀ p ∈ ss.zip vs, p ∈ ts) → ss.length = vs.length → rdAll ss env = some ds → ShL K F H vs ds
  | [], vs, ds, m, hl, e => by
    cases vs with
    | nil => cases e; exact .nil
    | cons v vs => cases hl
  | s :: ss, vs, ds, m, hl, e => by
    cases vs with
    | nil => cases hl
    | cons v vs =>
      unfold rdAll at e
      cases q : rd s env with
      | none => rw [q] at e; cases e
      | some d =>
        rw [q] at e
        dsimp only at e
        cases q2 : rdAll ss env with
        | none => rw [q2] at e; cases e
        | some ds1 =>
          rw [q2] at e
          cases e
          exact .cons (h.sh (m (s, v) (by simp)) q) (h.shL (fun p hp => m p (by simp [hp])) (by simpa using hl) q2)
def gL (g : List PyData → Option Sl) (a : Option (List PyData)) : Option Sl :=
  match a with
  | some d => g d
  | none => none
def eCB (g : List PyData → Option Sl) (f : FA) : FE := fun env => M.bind (f env) fun p => fin (gL g (rdAll p.1 p.2)) p.2
def CallD (X : Cx) (r : List V → Hp → VK → Prop) (g : List PyData → Option Sl) : Prop := ∀ (G O : Hp) (P : Nat → Option Addr) (ts : List (Sl × V)) (env : EnvD) (σ : L2.St) (F H : Hp) (vs : List V) (ds : List PyData) (s : Sl) (Q : VK),
  SR X.K G O P ts env σ F H → ShL X.K F H vs ds → g ds = some s → (∀ v F' H', SR X.K G O P ts env σ F' H' → RsOk X.K F' H' O env σ s v → Q v H') → r vs H Q
def lenD (ds : List PyData) : Option Sl :=
  match ds with
  | [.list xs] => vI xs.length
  | [.tuple xs] => vI xs.length
  | _ => none
def absD (ds : List PyData) : Option Sl :=
  match ds with
  | [.int i] => vI (if i < 0 then -i else i)
  | _ => none
def maxD (ds : List PyData) : Option Sl :=
  match ds with
  | [.int i, .int j] => vI (if j > i then j else i)
  | _ => none
def minD (ds : List PyData) : Option Sl :=
  match ds with
  | [.int i, .int j] => vI (if j < i then j else i)
  | _ => none
def intD (ds : List PyData) : Option Sl :=
  match ds with
  | [.int i] => vI i
  | [.bool b] => vI (if b then 1 else 0)
  | _ => none
def listD (ds : List PyData) : Option Sl :=
  match ds with
  | [.list xs] => some (.own (.lst xs))
  | [.tuple xs] => some (.own (.lst xs))
  | _ => none
def tupleD (ds : List PyData) : Option Sl :=
  match ds with
  | [.list xs] => some (.val (.tuple xs))
  | [.tuple xs] => some (.val (.tuple xs))
  | _ => none
def asBool : PyData → Option Bool
  | .bool b => some b
  | _ => none
def boolsOf : List PyData → Option (List Bool)
  | [] => some []
  | d :: ds => match asBool d with
    | some b => match boolsOf ds with
      | some bs => some (b :: bs)
      | none => none
    | none => none
def allD (ds : List PyData) : Option Sl :=
  match ds with
  | [.list xs] => match boolsOf xs with
    | some bs => vB (bs.all id)
    | none => none
  | _ => none
def anyD (ds : List PyData) : Option Sl :=
  match ds with
  | [.list xs] => match boolsOf xs with
    | some bs => vB (bs.any id)
    | none => none
  | _ => none
theorem boolsOf_ok {K : PySem.W.Frag} {F : Hp} : ∀ {ds : List PyData} {xs : List V} {bs : List Bool}, RpL K F xs ds → boolsOf ds = some bs → xs = bs.map V.bl
  | [], xs, bs, r, e => by cases e; cases r; rfl
  | d :: ds, xs, bs, r, e => by
    unfold boolsOf at e
    cases q : asBool d with
    | none => rw [q] at e; cases e
    | some b =>
      rw [q] at e
      dsimp only at e
      cases q2 : boolsOf ds with
      | none => rw [q2] at e; cases e
      | some bs1 =>
        rw [q2] at e
        cases e
        cases r with
        | cons r1 r2 =>
          have := boolsOf_ok r2 q2
          subst this
          cases d with
          | bool b' => cases q; cases r1; rfl
          | none => cases q
          | int i => cases q
          | str i => cases q
          | list i => cases q
          | tuple i => cases q
          | dict i => cases q
section
variable {X : Cx} {W : WX} {e a b c : Expr} {es rest : List Expr} {f fa fb fc : FE} {pos : Pos} {x : Str} {p : Pos}
theorem snd_cb {K : PySem.W.Frag} {r : List V → Hp → VK → Prop} {g : List PyData → Option Sl} {t : TA} {fA : FA} (hg : CallD X r g) (h : SndA X.K X.mg W t fA) : SndE X.K X.mg W (tCB r t) (eCB g fA) := by
  intro G O P ts env σ F H Q S hp
  refine h.thn (k := fun ss env' => fin (gL g (rdAll ss env')) env') S hp fun ss env' vs F' H' hl S' hp' => ?_
  obtain ⟨z, e0, q⟩ := fin_ok hp'
  cases q2 : rdAll ss env' with
  | none => rw [q2] at e0; cases e0
  | some ds =>
    rw [q2] at e0
    exact hg G O P ts env' σ F' H' vs ds z Q (S'.sub fun p hp => List.mem_append_right _ hp) (S'.shL (fun p hp => List.mem_append_left _ hp) hl q2) e0 q
theorem de_cb {id : String} {r : List V → Hp → VK → Prop} {g : List PyData → Option Sl} {fA : FA} (hc : CallR X (.builtin id) r) (hD : CallD X r g) (hg : Gl X x) (hm : X.mg x = none) (hv : bootBuiltins x = some (.builtin id)) (ha : DA X W (e :: es) fA) (hn : x ≠ "__name__" := by decide) (hdb : (x == ("__debug__" : Str)) = false := by decide)
    (he : starEach (e :: es) X.env = (false, eval e X.env) :: starEach es X.env := by rfl) (hpl : (backTo pos (starEach es X.env)).any (·.1) = false := by rfl) : DE X W (.Call (.Name x p) (e :: es) [] pos) (eCB g fA) := by
  obtain ⟨t, pa, sa⟩ := ha.ex
  exact ⟨_, pe_callB hc hg hm hv pa hn hdb he hpl, snd_cb (K := X.K) hD sa⟩
theorem de_ct {T : String} {r : List V → Hp → VK → Prop} {g : List PyData → Option Sl} {fA : FA} (hc : CallR X (.type T) r) (hD : CallD X r g) (hg : Gl X x) (hm : X.mg x = none) (hv : bootBuiltins x = some (.type T)) (ha : DA X W (e :: es) fA) (hn : x ≠ "__name__" := by decide) (hdb : (x == ("__debug__" : Str)) = false := by decide)
    (he : starEach (e :: es) X.env = (false, eval e X.env) :: starEach es X.env := by rfl) (hpl : (backTo pos (starEach es X.env)).any (·.1) = false := by rfl) : DE X W (.Call (.Name x p) (e :: es) [] pos) (eCB g fA) := by
  obtain ⟨t, pa, sa⟩ := ha.ex
  exact ⟨_, pe_callTy hc hg hm hv pa hn hdb he hpl, snd_cb (K := X.K) hD sa⟩
theorem cd_len : CallD X (fun xs H Q => ∃ p ys, xs = [.ref p] ∧ (SqL X.K H p ys ∨ SqT X.K H p ys) ∧ Q (.int ys.length) H) lenD := by
  intro G O P ts env σ F H vs ds s Q S h e q
  unfold lenD at e
  split at e
  · cases e
    cases h with
    | cons h1 h2 =>
      cases h2
      obtain ⟨a, xs, rfl, z, r⟩ := Sh.seq S.fh (.inl h1)
      exact ⟨a, xs, rfl, z, by rw [r.length]; exact q _ F H S (.int _)⟩
  · cases e
    cases h with
    | cons h1 h2 =>
      cases h2
      obtain ⟨a, xs, rfl, z, r⟩ := Sh.seq S.fh (.inr h1)
      exact ⟨a, xs, rfl, z, by rw [r.length]; exact q _ F H S (.int _)⟩
  · cases e
theorem cd_abs : CallD X (fun xs H Q => ∃ i, xs = [.int i] ∧ Q (.int (if i < 0 then -i else i)) H) absD := by
  intro G O P ts env σ F H vs ds s Q S h e q
  unfold absD at e
  split at e
  · cases e
    cases h with
    | cons h1 h2 =>
      cases h2; cases h1
      exact ⟨_, rfl, q _ F H S (.int _)⟩
  · cases e
theorem cd_max : CallD X (fun xs H Q => ∃ i j, xs = [.int i, .int j] ∧ Q (.int (if j > i then j else i)) H) maxD := by
  intro G O P ts env σ F H vs ds s Q S h e q
  unfold maxD at e
  split at e
  · cases e
    cases h with
    | cons h1 h2 =>
      cases h2 with
      | cons h2 h3 =>
        cases h3; cases h1; cases h2
        exact ⟨_, _, rfl, q _ F H S (.int _)⟩
  · cases e
theorem cd_min : CallD X (fun xs H Q => ∃ i j, xs = [.int i, .int j] ∧ Q (.int (if j < i then j else i)) H) minD := by
  intro G O P ts env σ F H vs ds s Q S h e q
  unfold minD at e
  split at e
  · cases e
    cases h with
    | cons h1 h2 =>
      cases h2 with
      | cons h2 h3 =>
        cases h3; cases h1; cases h2
        exact ⟨_, _, rfl, q _ F H S (.int _)⟩
  · cases e
theorem cd_int : CallD X (fun xs H Q => (∃ i, xs = [.int i] ∧ Q (.int i) H) ∨ ∃ k, xs = [.bl k] ∧ Q (.int (if k then 1 else 0)) H) intD := by
  intro G O P ts env σ F H vs ds s Q S h e q
  unfold intD at e
  split at e
  · cases e
    cases h with
    | cons h1 h2 =>
      cases h2; cases h1
      exact .inl ⟨_, rfl, q _ F H S (.int _)⟩
  · cases e
    cases h with
    | cons h1 h2 =>
      cases h2; cases h1
      exact .inr ⟨_, rfl, q _ F H S (.int _)⟩
  · cases e
theorem cd_list : CallD X (fun xs H Q => ∃ p ys, xs = [.ref p] ∧ (SqL X.K H p ys ∨ SqT X.K H p ys) ∧ ∀ l, H l = none → Q (.ref l) (upd H l (.lst ys))) listD := by
  intro G O P ts env σ F H vs ds s Q S h e q
  have go : ∀ (v : V) (xs : List PyData), Sh X.K F H v (.list xs) ∨ Sh X.K F H v (.tuple xs) → s = .own (.lst xs) → ∃ p ys, [v] = [.ref p] ∧ (SqL X.K H p ys ∨ SqT X.K H p ys) ∧ ∀ l, H l = none → Q (.ref l) (upd H l (.lst ys)) := fun v xs z e => by
    subst e
    obtain ⟨a, ys, rfl, z, r⟩ := Sh.seq S.fh z
    refine ⟨a, ys, rfl, z, fun l nl => ?_⟩
    obtain ⟨S2, R2⟩ := S.ownL nl r
    exact q _ _ _ S2 R2
  unfold listD at e
  split at e
  · cases e
    cases h with
    | cons h1 h2 => cases h2; exact go _ _ (.inl h1) rfl
  · cases e
    cases h with
    | cons h1 h2 => cases h2; exact go _ _ (.inr h1) rfl
  · cases e
theorem cd_tuple : CallD X (fun xs H Q => ∃ p ys, xs = [.ref p] ∧ ((SqL X.K H p ys ∧ ∀ l, H l = none → Q (.ref l) (upd H l (.tup ys))) ∨ (SqT X.K H p ys ∧ Q (.ref p) H))) tupleD := by
  intro G O P ts env σ F H vs ds s Q S h e q
  unfold tupleD at e
  split at e
  · cases e
    cases h with
    | cons h1 h2 =>
      cases h2
      obtain ⟨a, ys, rfl, z, r⟩ := h1
      refine ⟨a, ys, rfl, .inl ⟨.inl z, fun l nl => ?_⟩⟩
      obtain ⟨S2, R2⟩ := S.valT nl r
      exact q _ _ _ S2 R2
  · cases e
    cases h with
    | cons h1 h2 =>
      cases h2
      have h1' := h1
      obtain ⟨a, ys, rfl, z, r⟩ := Sh.tup S.fh h1
      exact ⟨a, ys, rfl, .inr ⟨z, q _ F H S h1'⟩⟩
  · cases e
theorem cd_all : CallD X (rAll X.K) allD := by
  intro G O P ts env σ F H vs ds s Q S h e q
  unfold allD at e
  split at e
  · split at e
    · rename_i bs hb
      cases e
      cases h with
      | cons h1 h2 =>
        cases h2
        obtain ⟨a, ys, rfl, z, r⟩ := h1
        have := boolsOf_ok r hb
        subst this
        exact ⟨a, bs, rfl, .inl z, q _ F H S (.bl _)⟩
    · cases e
  · cases e
theorem cd_any : CallD X (rAny X.K) anyD := by
  intro G O P ts env σ F H vs ds s Q S h e q
  unfold anyD at e
  split at e
  · split at e
    · rename_i bs hb
      cases e
      cases h with
      | cons h1 h2 =>
        cases h2
        obtain ⟨a, ys, rfl, z, r⟩ := h1
        have := boolsOf_ok r hb
        subst this
        exact ⟨a, bs, rfl, .inl z, q _ F H S (.bl _)⟩
    · cases e
  · cases e
/-! ### isinstance with a built-in type -/
inductive BT where
  | int | bool | tuple | str | list
def BT.nm : BT → String
  | .int => "int" | .bool => "bool" | .tuple => "tuple" | .str => "str" | .list => "list"
def isiB (T : BT) (d : PyData) : Bool :=
  match T, d with
  | .int, .int _ => true
  | .int, .bool _ => true
  | .bool, .bool _ => true
  | .tuple, .tuple _ => true
  | .str, .str _ => true
  | .list, .list _ => true
  | _, _ => false
def isiD (T : BT) (d : PyData) : Option Sl := vB (isiB T d)
def tyN : PyData → String
  | .none => "NoneType" | .bool _ => "bool" | .int _ => "int" | .str _ => "str" | .list _ => "list" | .tuple _ => "tuple" | .dict _ => "dict"
theorem kit_bt (T : BT) (d : PyData) : kitB (tyN d) T.nm = some (isiB T d) := by
  cases T <;> cases d <;> simp only [tyN, BT.nm, isiB] <;> decide +kernel
theorem ty_of {K : PySem.W.Frag} {F H : Hp} {v : V} {d : PyData} (e : Same F H) (h : Sh K F H v d) : TyX K H v (.type (tyN d)) := by
  cases d with
  | none => cases h; exact .base .non
  | bool b => cases h; exact .base (.bl _)
  | int b => cases h; exact .base (.int _)
  | str b => cases h; exact .base (.str _)
  | list b =>
    obtain ⟨a, xs, rfl, h1 | ⟨o, h1⟩, _⟩ := h
    · exact .base (.lst h1)
    · exact .base (.frz h1)
  | tuple b =>
    obtain ⟨a, xs, rfl, (h1 | ⟨o, h1⟩) | ⟨o, its, n, h1, h2, _⟩, _⟩ := Sh.tup e h
    · exact .base (.tup h1)
    · exact .fTuple h1
    · exact .kTuple h1 h2
  | dict b => obtain ⟨a, xs, rfl, h1, _⟩ := h; exact .base (.dK h1)
theorem de_isi (T : BT) {n : Str} {pn : Pos} (hg : Gl X "isinstance") (hm : X.mg "isinstance" = none) (hg2 : Gl X n) (hm2 : X.mg n = none) (hv2 : bootBuiltins n = some (.type T.nm)) (ha : DE X W a fa) (hn2 : n ≠ "__name__" := by decide) (hdb2 : (n == ("__debug__" : Str)) = false := by decide)
    (he : starEach [a, .Name n pn] X.env = (false, eval a X.env) :: starEach [.Name n pn] X.env := by rfl) (he2 : starEach [.Name n pn] X.env = (false, eval (.Name n pn) X.env) :: starEach [] X.env := by rfl) (hpl : (backTo pos (starEach [.Name n pn] X.env)).any (·.1) = false := by rfl) :
    DE X W (.Call (.Name "isinstance" p) [a, .Name n pn] [] pos) (e1 (isiD T) fa) := by
  obtain ⟨ta, pa, sa⟩ := ha.ex
  refine ⟨_, pe_callB call_isi hg hm (by decide +kernel) (pa_cons pa (pa_cons (pe_bltn (v := .ty T.nm) hg2 hm2 hv2 rfl hn2 hdb2) pa_nil he2) he) (by decide) (by decide) he hpl, fun G O P ts env σ F H Q S hp => ?_⟩
  refine sa.thn (k := fun s env' => fin (g1 (isiD T) (rd s env')) env') S hp fun s env' v F' H' S' hp' => ?_
  obtain ⟨z, e0, q⟩ := fin_ok hp'
  obtain ⟨d1, e1, e3⟩ := g1_ok e0
  cases e3
  exact ⟨v, .ty T.nm, .type (tyN d1), .type T.nm, _, rfl, .ty _, ty_of S'.fh (S'.sh (by simp) e1), kit_ty (kit_bt T d1), q _ F' H' S'.pop (.bl _)⟩
end
end DL
set_option Elab.async false
set_option linter.all false
set_option maxRecDepth 100000
set_option maxHeartbeats 4000000
namespace DL
open PySem PySem.Spec PyProof.Rows L2

/-! ### changes of one's own -/
def reO (s : Sl) (o : Own) : Sl :=
  match s with
  | .pen _ => .pen o
  | _ => .own o
def ownOf (s : Sl) : Option Own :=
  match s with
  | .own o => some o
  | .pen o => some o
  | _ => none
/-- slot i's own, if it is one -/
def slotO (i : Nat) (env : EnvD) : Option (Sl × Own) :=
  match env[i]? with
  | some (some (.own o)) => some (.own o, o)
  | some (some (.pen o)) => some (.pen o, o)
  | _ => none
section
variable {K : PySem.W.Frag} {G O F F' H : Hp} {P : Nat → Option Addr} {ts : List (Sl × V)} {env env2 : EnvD} {σ : L2.St} {s : Sl} {v : V} {d : PyData} {a : Addr} {o o' : Own}
theorem slotO_ok {i : Nat} (h : slotO i env = some (s, o)) : env[i]? = some (some s) ∧ (s = .own o ∨ s = .pen o) := by
  unfold slotO at h
  split at h
  · cases h; exact ⟨by assumption, .inl rfl⟩
  · cases h; exact ⟨by assumption, .inr rfl⟩
  · cases h
theorem SR.slO {i : Nat} (h : SR K G O P ts env σ F H) (e : slotO i env = some (s, o)) : ∃ a, σ[i]? = some (some (.ref a)) ∧ F a = none ∧ O a = none ∧ OwnAt K F H a o ∧ s.owns := by
  obtain ⟨e1, e2⟩ := slotO_ok e
  obtain ⟨v, f1, f2⟩ := h.slot i s e1
  rcases e2 with rfl | rfl
  · obtain ⟨a, rfl, g1, g2, g3⟩ := f2
    exact ⟨a, f1, g1, g2, g3, trivial⟩
  · obtain ⟨a, rfl, _, g1, g2, g3⟩ := f2
    exact ⟨a, f1, g1, g2, g3, trivial⟩
theorem SR.reown {i : Nat} {u : HO} (h : SR K G O P ts env σ F H) (e : slotO i env = some (s, o)) (hv : σ[i]? = some (some (.ref a))) (hw : OwnAt K F (upd H a u) a o') :
    SR K G O P ts (env.set i (some (reO s o'))) σ F (upd H a u) := by
  obtain ⟨b, f1, f2, f3, f4, f5⟩ := h.slO e
  rw [hv] at f1
  cases f1
  obtain ⟨e1, e2⟩ := slotO_ok e
  have hlt : i < env.length := (List.getElem?_eq_some_iff.mp e1).1
  have ow : ∀ (j : Nat) (t : Sl), (env.set i (some (reO s o')))[j]? = some (some t) → t.owns → ∃ t', env[j]? = some (some t') ∧ t'.owns := fun j t q w => by
    by_cases hij : i = j
    · subst hij
      exact ⟨s, e1, f5⟩
    · rw [List.getElem?_set_ne hij] at q
      exact ⟨t, q, w⟩
  obtain ⟨u0, hu0, su0⟩ := f4.soft
  refine ⟨h.gf, fun b x q => ?_, h.oh.chg f3 hu0 su0, h.dj, by rw [List.length_set]; exact h.len, fun j t q => ?_, fun p hp => ?_, fun j k t t' b q1 q2 w1 w2 r1 r2 => ?_, h.nt⟩
  · rw [upd_ne (ne_of_none q f2)]; exact h.fh b x q
  · by_cases hij : i = j
    · subst hij
      rw [List.getElem?_set_self hlt] at q
      cases q
      refine ⟨_, hv, ?_⟩
      rcases e2 with rfl | rfl
      · exact ⟨a, rfl, f2, f3, hw⟩
      · obtain ⟨w, g1, g2⟩ := h.slot i _ e1
        rw [hv] at g1
        cases g1
        obtain ⟨c, z, z2, _⟩ := g2
        cases z
        exact ⟨a, rfl, z2, f2, f3, hw⟩
    · rw [List.getElem?_set_ne hij] at q
      obtain ⟨w, g1, g2⟩ := h.slot j t q
      refine ⟨w, g1, ?_⟩
      cases t with
      | val x => exact g2
      | own x =>
        obtain ⟨c, rfl, z1, z2, z3⟩ := g2
        have ne : c ≠ a := fun z => hij (h.sep i j _ _ a e1 q f5 trivial hv (by rw [g1, z]))
        exact ⟨c, rfl, z1, z2, z3.mono (Same.refl _) (upd_ne ne)⟩
      | pen x =>
        obtain ⟨c, rfl, z0, z1, z2, z3⟩ := g2
        have ne : c ≠ a := fun z => hij (h.sep i j _ _ a e1 q f5 trivial hv (by rw [g1, z]))
        exact ⟨c, rfl, z0, z1, z2, z3.mono (Same.refl _) (upd_ne ne)⟩
      | al k => exact g2
  · have z := h.tmp p hp
    obtain ⟨s0, v0⟩ := p
    cases s0 with
    | val x => exact z
    | own x => exact z
    | pen x => exact z
    | al k => exact z
  · obtain ⟨t1, g1, g2⟩ := ow j t q1 w1
    obtain ⟨t2, g3, g4⟩ := ow k t' q2 w2
    exact h.sep j k t1 t2 b g1 g3 g2 g4 r1 r2
/-- a result put into a slot -/
def putS (i : Nat) (s : Sl) (env : EnvD) : Option EnvD :=
  match s with
  | .al _ => none
  | .pen _ => none
  | s => match env[i]? with
    | some (some (.pen _)) => none
    | some _ => some (env.set i (some s))
    | none => none
theorem SR.put {i : Nat} (h : SR K G O P [] env σ F H) (r : RsOk K F H O env σ s v) (e : putS i s env = some env2) : SR K G O P [] env2 (σ.set i (some v)) F H := by
  have key : ∀ (hs : (∃ d, s = .val d) ∨ ∃ o, s = .own o), i < env.length → env2 = env.set i (some s) → (∀ o, env[i]? ≠ some (some (.pen o))) → SR K G O P [] env2 (σ.set i (some v)) F H := fun hs hlt he np => by
    subst he
    have hls : i < σ.length := by rw [← h.len]; exact hlt
    refine ⟨h.gf, h.fh, h.oh, h.dj, by rw [List.length_set, List.length_set]; exact h.len, fun j t q => ?_, fun p hp => absurd hp (by simp), fun j k t t' b q1 q2 w1 w2 r1 r2 => ?_, h.nt⟩
    · by_cases hij : i = j
      · subst hij
        rw [List.getElem?_set_self hlt] at q
        cases q
        refine ⟨v, List.getElem?_set_self hls, ?_⟩
        rcases hs with ⟨d, rfl⟩ | ⟨o, rfl⟩
        · exact r
        · obtain ⟨a, rfl, z1, z2, z3, _⟩ := r
          exact ⟨a, rfl, z1, z2, z3⟩
      · rw [List.getElem?_set_ne hij] at q
        obtain ⟨w, g1, g2⟩ := h.slot j t q
        exact ⟨w, by rw [List.getElem?_set_ne hij]; exact g1, g2⟩
    · have side : ∀ (k : Nat) (t' : Sl), i ≠ k → (env.set i (some s))[k]? = some (some t') → t'.owns → (σ.set i (some v))[k]? = some (some (.ref b)) → (env.set i (some s))[i]? = some (some s) → s.owns → (σ.set i (some v))[i]? = some (some (.ref b)) → False := fun k t' hik q w rr q0 w0 r0 => by
        rw [List.getElem?_set_ne hik] at q rr
        rw [List.getElem?_set_self hls] at r0
        cases r0
        rcases hs with ⟨d, rfl⟩ | ⟨o, rfl⟩
        · exact w0
        · obtain ⟨a, z, _, _, _, ns⟩ := r
          cases z
          exact ns k t' q w rr
      by_cases hij : i = j
      · by_cases hik : i = k
        · omega
        · subst hij
          have q1' := q1
          rw [List.getElem?_set_self hlt] at q1'
          cases q1'
          exact (side k t' hik q2 w2 r2 q1 w1 r1).elim
      · by_cases hik : i = k
        · subst hik
          have q2' := q2
          rw [List.getElem?_set_self hlt] at q2'
          cases q2'
          exact (side j t hij q1 w1 r1 q2 w2 r2).elim
        · rw [List.getElem?_set_ne hij] at q1 r1
          rw [List.getElem?_set_ne hik] at q2 r2
          exact h.sep j k t t' b q1 q2 w1 w2 r1 r2
  have fin : ∀ (hs : (∃ d, s = .val d) ∨ ∃ o, s = .own o), (match env[i]? with | some (some (.pen _)) => none | some _ => some (env.set i (some s)) | none => none) = some env2 → SR K G O P [] env2 (σ.set i (some v)) F H := fun hs e => by
    cases q : env[i]? with
    | none => rw [q] at e; cases e
    | some o =>
      have hlt := (List.getElem?_eq_some_iff.mp q).1
      rw [q] at e
      cases o with
      | none => cases e; exact key hs hlt rfl fun o z => by rw [q] at z; cases z
      | some t =>
        cases t with
        | pen o => cases e
        | val o => cases e; exact key hs hlt rfl fun o z => by rw [q] at z; cases z
        | own o => cases e; exact key hs hlt rfl fun o z => by rw [q] at z; cases z
        | al o => cases e; exact key hs hlt rfl fun o z => by rw [q] at z; cases z
  unfold putS at e
  cases s with
  | val d => exact fin (.inl ⟨d, rfl⟩) e
  | own o => exact fin (.inr ⟨o, rfl⟩) e
  | pen o => cases e
  | al j => cases e
end

/-! ### x.append(e) -/
def lstO (i : Nat) (env : EnvD) : Option (Sl × List PyData) :=
  match slotO i env with
  | some (s, .lst ds) => some (s, ds)
  | _ => none
theorem lstO_ok {i : Nat} {env : EnvD} {s : Sl} {ds : List PyData} (h : lstO i env = some (s, ds)) : slotO i env = some (s, .lst ds) := by
  unfold lstO at h
  split at h
  · cases h; assumption
  · cases h
def eApp (i : Nat) (fa : FE) : FE := fun env =>
  match lstO i env with
  | some _ => M.bind (fa env) fun p => match frz1 (fz p.1) p.2 with
    | some q => match lstO i q.2 with
      | some r => if r.2.length < bigL then M.ok (.val .none, q.2.set i (some (reO r.1 (.lst (r.2 ++ [q.1]))))) else none
      | none => none
    | none => none
  | none => none
section
variable {X : Cx} {W : WX} {e a b c : Expr} {es rest : List Expr} {f fa fb fc : FE} {pos apos cpos : Pos} {x : Str} {p : Pos}
theorem de_app (i : Nat) {px : Pos} (ha : DE X W e fa) (hN : X.N[i]? = some x := by rfl) (hv : Vis X.env.scope x := by first | exact Or.inl rfl | exact Or.inr (Or.inl rfl) | exact Or.inr (Or.inr rfl)) (hd : (x == ("__debug__" : Str)) = false := by decide)
    (hcd : (x == ("__classdict__" : Str)) = false := by decide) (he : starEach [e] X.env = (false, eval e X.env) :: starEach [] X.env := by rfl) (hbase : attributeBase (.Name x px) "append" X.env (eval (.Name x px) X.env) = eval (.Name x px) X.env := by rfl)
    (hfew : ((backTo cpos (starEach [e] X.env)).all (fun x => !x.1) && (backToKw cpos (keywordEach [] X.env)).all (fun x => x.1.isSome) && decide (([e] : List Expr).length + ([] : List Keyword).length + (if ([] : List Keyword).isEmpty then 0 else 1) < 30)) = true := by rfl)
    (hline : (apos.endLine == cpos.line) = true := by rfl) (hpl : (backTo cpos (starEach [] X.env)).any (·.1) = false := by rfl) :
    DE X W (.Call (.Attribute (.Name x px) "append" apos) [e] [] cpos) (eApp i fa) := by
  refine ⟨_, pe_bm PySem.F.plainAttrs_list PySem.F.slot_list_append PySem.F.type_list_append mt_append (pe_var hN hv hd hcd) (pa_cons ha.can pa_nil he) hbase hfew hline he hpl, fun G O P ts env σ F H Q S hp => ?_⟩
  unfold eApp at hp
  cases q0 : lstO i env with
  | none => rw [q0] at hp; exact hp.elim
  | some r0 =>
    rw [q0] at hp
    obtain ⟨s0, ds0⟩ := r0
    obtain ⟨a0, f1, f2, f3, ⟨xs0, f4, _⟩, _⟩ := S.slO (lstO_ok q0)
    refine ⟨_, f1, .inl ⟨rfl, xs0, .inl (.inl f4)⟩, ?_⟩
    refine (snd_tE (K := X.K) (mg := X.mg) (W := W) (f := fa)).thn (k := fun s env' => match frz1 s env' with
      | some q => match lstO i q.2 with
        | some r => if r.2.length < bigL then M.ok (.val .none, q.2.set i (some (reO r.1 (.lst (r.2 ++ [q.1]))))) else none
        | none => none
      | none => none) S hp fun s env' v F' H' S' hp' => ?_
    cases q1 : frz1 s env' with
    | none => rw [q1] at hp'; exact hp'.elim
    | some q =>
      rw [q1] at hp'
      obtain ⟨d, env2⟩ := q
      dsimp only at hp'
      obtain ⟨F2, m2, S2, rd⟩ := S'.frz1 (S'.tmp (s, v) (by simp)) q1
      cases q2 : lstO i env2 with
      | none => rw [q2] at hp'; exact hp'.elim
      | some r =>
        rw [q2] at hp'
        obtain ⟨s3, ds⟩ := r
        dsimp only at hp'
        obtain ⟨a, g1, g2, g3, ⟨xs, g4, g5⟩, _⟩ := S2.slO (lstO_ok q2)
        rw [f1] at g1
        cases g1
        split at hp'
        · rename_i hl
          refine ⟨a0, xs, v, rfl, rfl, g4, by rw [g5.length]; exact bigL_lt (Nat.le_of_lt hl), ?_⟩
          exact hp' _ F2 _ (S2.pop.reown (u := .lst (xs ++ [v])) (lstO_ok q2) f1 ⟨_, upd_same, g5.app (.cons rd .nil)⟩) .non
        · exact hp'.elim
end
end DL
set_option Elab.async false
set_option linter.all false
set_option maxRecDepth 100000
set_option maxHeartbeats 4000000
namespace DL
open PySem PySem.Spec PyProof.Rows L2

/-! ### a def as a function of its arguments -/
abbrev MF := List Sl → M (Sl × EnvD)
def argOk : Sl → Prop
  | .val _ => True
  | .pen _ => True
  | _ => False
def WD (E : XK) : WX := fun c d _ H => E c d H
/-- the promise: it is m -/
def spD (K : PySem.W.Frag) (mg : Str → Option Value) (m : MF) : Sp := fun vs H Q E => ∃ (args : List Sl) (P : Nat → Option Addr) (F O : Hp), (∀ s ∈ args, argOk s) ∧
  SR K F O P [] (args.map some) (vs.map some) F H ∧ PostE K mg (WD E) F O P [] (vs.map some) Q (m args)
theorem spD_len {K : PySem.W.Frag} {mg : Str → Option Value} {n : Nat} {m : MF} {vs : List V} {H : Hp} {Q : VK} {E : XK} (hm : ∀ args, args.length ≠ n → m args = none) (h : spD K mg m vs H Q E) : vs.length = n := by
  obtain ⟨args, P, F, O, _, h2, hp⟩ := h
  have := h2.len
  simp only [List.length_map] at this
  by_cases q : args.length = n
  · omega
  · rw [hm args q] at hp
    exact hp.elim

/-! ### defs where no guard of a repr stands -/
structure RG (g : Bool) (k : Nat) (A : Around) : Prop where
  rm : Room k A
  gd : g = true → A.guards = some []
theorem RG.mono {g : Bool} {j k : Nat} {A : Around} (r : RG g k A) (h : j ≤ k) : RG g j A := ⟨r.rm.mono h, r.gd⟩
theorem RG.deeper {g : Bool} {k : Nat} {A : Around} (r : RG g (k + 1) A) (env : Env) : RG g k (A.deeper env) := ⟨r.rm.deeper env, r.gd⟩
theorem RG.le {g g' : Bool} {k : Nat} {A : Around} (r : RG g k A) (h : (!g' || g) = true) : RG g' k A := ⟨r.rm, fun e => r.gd (by subst e; simpa using h)⟩
theorem rg_of {k : Nat} {A : Around} (r : Room k A) : RG false k A := ⟨r, fun e => by cases e⟩
/-- what a def promises there -/
structure FnG (g : Bool) (P : Program) (w : World) (K : PySem.W.Frag) (mg : Str → Option Value) (base : Heap) (CX : CXT) (k : Nat) (f : Addr) (fd : FuncData) (ps : List Str) (sp : Sp) : Prop where
  len : ∀ vs H Q E, sp vs H Q E → vs.length = ps.length
  run : ∀ (A : Around) (outer : List Env) (s : Shared) (H : Hp) (args : Args) (us : List Value) (vs : List V) (Q : VK) (E : XK), RG g k A → Env0 P w K mg base A outer s H → BindsTo s fd args (ps.zip us) → Vals vs us → sp vs H Q E →
    codeAny (model P w) A (.call (.ref f) args) (CR CX outer P w H s Q E) s
section
variable {gd : Bool} {X : Cx} {CX : CXT} {k : Nat} {f : Addr} {fd : FuncData} {ps : List Str} {sp : Sp} {dvs : List V} {ds : List Value} {E : L2.St → XK} {x : Str} {p pos : Pos} {e : Expr} {es : List Expr} {t : TA}
theorem run_fnG {pins : List (Addr × Obj)} {σ : L2.St} {H : Hp} {s : Shared} {Q : VK} {us : List Value} {vs : List V} (F : FnG gd X.prog X.w X.K X.mg X.base CX k f fd ps sp) (hr : RG gd k X.A) (hb : Binds X.K fd ps ds) (hd : Vals dvs ds) (hx : PassesAt CX X σ (E σ))
    (I : Inv X pins σ H s) (r : Vals vs us) (h : sp (vs ++ dvs) H Q (E σ)) : wpAny (model X.prog X.w) X.A (call (.ref f) us) (EP X pins σ Q) X.xe s := by
  have hl : (us ++ ds).length = ps.length := by rw [← (r.append hd).length]; exact F.len _ _ _ _ h
  have z := F.run X.A X.stack s H ⟨us, []⟩ (us ++ ds) (vs ++ dvs) Q (E σ) hr I.env0 (hb s us I.kIn hl) (r.append hd) h
  refine wpAny_call (codeAny_mono z fun r s' hq => ?_)
  match r, hq with
  | .error e, hq => exact hx pins H s e s' I hq
  | .ok (.ret u), hq => exact I.after hq
  | .ok .next, hq => exact False.elim hq
  | .ok .brk, hq => exact False.elim hq
  | .ok .cont, hq => exact False.elim hq
theorem pe_callG (F : FnG gd X.prog X.w X.K X.mg X.base CX k f fd ps sp) (hr : RG gd k X.A) (hg : Gl X x) (hm : X.mg x = some (.ref f)) (hk : PySem.W.keepIn X.K (.ref f) = true) (hb : Binds X.K fd ps ds) (hd : Vals dvs ds) (hx : ∀ σ, PassesAt CX X σ (E σ))
    (ha : PA X (e :: es) t) (hdb : (x == ("__debug__" : Str)) = false := by decide) (he : starEach (e :: es) X.env = (false, eval e X.env) :: starEach es X.env := by rfl) (hpl : (backTo pos (starEach es X.env)).any (·.1) = false := by rfl) :
    PE X (.Call (.Name x p) (e :: es) [] pos) (tCallSD sp dvs E t) := by
  refine ⟨fun pins s σ H Q I h => wpAny_Call_Name_kw (ld_glob I hg hm ?_ hdb)⟩
  exact PySem.W.callWith_K (h₀ := X.base) I.ok.mod.kin hk (thn (ha.run pos pins s σ H _ I h) fun us s1 ⟨vs, H1, I1, r, q⟩ => ⟨I1.kIn, run_fnG F hr hb hd (hx σ) I1 r q⟩) he hpl
end

/-! ### a call -/
/-- what others own, for a callee: O and all that is one's own but ex -/
noncomputable def ownO (env : EnvD) (σ : L2.St) (O H : Hp) (ex : Addr → Prop) : Hp := fun b => by
  classical
  exact if (∃ (i : Nat) (s : Sl), env[i]? = some (some s) ∧ s.owns ∧ σ[i]? = some (some (.ref b))) ∧ ¬ ex b then H b else O b
section
variable {K : PySem.W.Frag} {G O F F' H H' : Hp} {P P' : Nat → Option Addr} {ts : List (Sl × V)} {env env2 : EnvD} {σ : L2.St} {s : Sl} {v : V} {d : PyData} {a : Addr} {o o' : Own} {ex : Addr → Prop}
theorem SR.owned {b : Addr} (h : SR K G O P ts env σ F H) {i : Nat} {s : Sl} (e : env[i]? = some (some s)) (w : s.owns) (r : σ[i]? = some (some (.ref b))) : F b = none ∧ O b = none ∧ ∃ u, H b = some u := by
  obtain ⟨v, f1, f2⟩ := h.slot i s e
  rw [r] at f1
  cases f1
  cases s with
  | val d => exact w.elim
  | own o =>
    obtain ⟨a, z, g1, g2, g3⟩ := f2
    cases z
    exact ⟨g1, g2, g3.there⟩
  | pen o =>
    obtain ⟨a, z, _, g1, g2, g3⟩ := f2
    cases z
    exact ⟨g1, g2, g3.there⟩
  | al j => exact w.elim
theorem SR.ownedS {b : Addr} (h : SR K G O P ts env σ F H) {i : Nat} {s : Sl} (e : env[i]? = some (some s)) (w : s.owns) (r : σ[i]? = some (some (.ref b))) : ∃ u, H b = some u ∧ Soft u := by
  obtain ⟨v, f1, f2⟩ := h.slot i s e
  rw [r] at f1
  cases f1
  cases s with
  | val d => exact w.elim
  | own o =>
    obtain ⟨a, z, g1, g2, g3⟩ := f2
    cases z
    exact g3.soft
  | pen o =>
    obtain ⟨a, z, _, g1, g2, g3⟩ := f2
    cases z
    exact g3.soft
  | al j => exact w.elim
theorem ownO_H (h : SR K G O P ts env σ F H) : SameO K (ownO env σ O H ex) H := by
  refine ⟨fun b x q => ?_, fun b ps q => ?_, h.oh.tb⟩
  · unfold ownO at q
    split at q
    · exact q
    · exact h.oh.val b x q
  · unfold ownO at q
    split at q
    · rename_i z
      obtain ⟨⟨i, s, e, w, r⟩, _⟩ := z
      obtain ⟨u, z1, z2⟩ := h.ownedS e w r
      rw [q] at z1
      exact absurd (Option.some.inj z1).symm (z2.nt ps)
    · exact h.oh.nt b ps q
theorem ownO_F (h : SR K G O P ts env σ F H) : ∀ b x, ownO env σ O H ex b = some x → F b = none := fun b x q => by
  unfold ownO at q
  split at q
  · rename_i z
    obtain ⟨⟨i, s, e, w, r⟩, _⟩ := z
    exact (h.owned e w r).1
  · exact h.dj b x q
theorem ownO_O (h : SR K G O P ts env σ F H) : Same O (ownO env σ O H ex) := fun b x q => by
  unfold ownO
  split
  · rename_i z
    obtain ⟨⟨i, s, e, w, r⟩, _⟩ := z
    rw [(h.owned e w r).2.1] at q
    cases q
  · exact q
theorem ownO_at (h : SR K G O P ts env σ F H) {i : Nat} {s : Sl} {b : Addr} (e : env[i]? = some (some s)) (w : s.owns) (r : σ[i]? = some (some (.ref b))) (n : ¬ ex b) : ownO env σ O H ex b = H b := by
  unfold ownO
  rw [if_pos ⟨⟨i, s, e, w, r⟩, n⟩]
/-- behind a call that leaves all of one's own but ex -/
theorem SR.back (h : SR K G O P ts env σ F H) (gf : Same F F') (fh : Same F' H') (oh : SameO K (ownO env σ O H ex) H') (dj : ∀ a o, ownO env σ O H ex a = some o → F' a = none)
    (hx : ∀ (i : Nat) (s : Sl) (b : Addr), env[i]? = some (some s) → s.owns → σ[i]? = some (some (.ref b)) → ¬ ex b) (nt : NoT F') : SR K G O P ts env σ F' H' := by
  refine ⟨h.gf.trans gf, fh, oh.sub (ownO_O h), fun b x q => dj b x (ownO_O h b x q), h.len, fun j t q => ?_, fun p hp => (h.tmp p hp).mono gf, h.sep, nt⟩
  obtain ⟨w, f1, f2⟩ := h.slot j t q
  refine ⟨w, f1, ?_⟩
  have key : ∀ (b : Addr) (o : Own), t.owns → σ[j]? = some (some (.ref b)) → OwnAt K F H b o → F' b = none ∧ OwnAt K F' H' b o := fun b o w1 w2 w3 => by
    have e0 := ownO_at (ex := ex) h q w1 w2 (hx j t b q w1 w2)
    obtain ⟨u, z3⟩ := w3.there
    rw [z3] at e0
    obtain ⟨u', y1, y2⟩ := w3.soft
    rw [z3] at y1
    cases y1
    exact ⟨dj b u e0, w3.mono gf (by rw [oh.val b u e0, z3])⟩
  cases t with
  | val d => exact Rp.mono gf _ _ f2
  | own o =>
    obtain ⟨b, rfl, z1, z2, z3⟩ := f2
    obtain ⟨k1, k2⟩ := key b o trivial f1 z3
    exact ⟨b, rfl, k1, z2, k2⟩
  | pen o =>
    obtain ⟨b, rfl, z0, z1, z2, z3⟩ := f2
    obtain ⟨k1, k2⟩ := key b o trivial f1 z3
    exact ⟨b, rfl, z0, k1, z2, k2⟩
  | al k => exact f2
/-- a slot forgotten -/
theorem SR.forget (h : SR K G O P ts env σ F H) (i : Nat) : SR K G O P ts (env.set i none) σ F H := by
  have back : ∀ (j : Nat) (t : Sl), (env.set i none)[j]? = some (some t) → j ≠ i ∧ env[j]? = some (some t) := fun j t q => by
    by_cases hij : i = j
    · subst hij
      by_cases hl : i < env.length
      · rw [List.getElem?_set_self hl] at q; cases q
      · rw [List.getElem?_eq_none (by simpa using hl)] at q; cases q
    · rw [List.getElem?_set_ne hij] at q
      exact ⟨fun z => hij z.symm, q⟩
  exact ⟨h.gf, h.fh, h.oh, h.dj, by rw [List.length_set]; exact h.len, fun j t q => h.slot j t (back j t q).2, fun p hp => h.tmp p hp, fun j k t t' b q1 q2 => h.sep j k t t' b (back j t q1).2 (back k t' q2).2, h.nt⟩
/-- a slot's own told again, as it is now -/
theorem SR.retell {i : Nat} (h0 : SR K G O P ts env σ F H) (h : SR K G O P ts (env.set i none) σ F' H') (e : slotO i env = some (s, o)) (hv : σ[i]? = some (some (.ref a))) (nF : F' a = none) (nO : O a = none) (hw : OwnAt K F' H' a o') :
    SR K G O P ts (env.set i (some (reO s o'))) σ F' H' := by
  obtain ⟨e1, e2⟩ := slotO_ok e
  have hlt : i < env.length := (List.getElem?_eq_some_iff.mp e1).1
  have sw : s.owns := by rcases e2 with rfl | rfl <;> trivial
  have ow : ∀ (j : Nat) (t : Sl), (env.set i (some (reO s o')))[j]? = some (some t) → t.owns → ∃ t', env[j]? = some (some t') ∧ t'.owns := fun j t q w => by
    by_cases hij : i = j
    · subst hij
      exact ⟨s, e1, sw⟩
    · rw [List.getElem?_set_ne hij] at q
      exact ⟨t, q, w⟩
  refine ⟨h.gf, h.fh, h.oh, h.dj, by rw [List.length_set]; exact h0.len, fun j t q => ?_, fun p hp => h.tmp p hp, fun j k t t' b q1 q2 w1 w2 r1 r2 => ?_, h.nt⟩
  · by_cases hij : i = j
    · subst hij
      rw [List.getElem?_set_self hlt] at q
      cases q
      refine ⟨_, hv, ?_⟩
      rcases e2 with rfl | rfl
      · exact ⟨a, rfl, nF, nO, hw⟩
      · obtain ⟨w, g1, g2⟩ := h0.slot i _ e1
        rw [hv] at g1
        cases g1
        obtain ⟨c, z, z2, _⟩ := g2
        cases z
        exact ⟨a, rfl, z2, nF, nO, hw⟩
    · rw [List.getElem?_set_ne hij] at q
      exact h.slot j t (by rw [List.getElem?_set_ne hij]; exact q)
  · obtain ⟨t1, g1, g2⟩ := ow j t q1 w1
    obtain ⟨t2, g3, g4⟩ := ow k t' q2 w2
    exact h0.sep j k t1 t2 b g1 g3 g2 g4 r1 r2
end

/-! ### forms -/
def resV (s : Sl) : Option Sl :=
  match s with
  | .val d => some (.val d)
  | .own o => some (.own o)
  | _ => none
def callR1 (m : M (Sl × EnvD)) (env : EnvD) : M (Sl × EnvD) :=
  match m with
  | none => none
  | some (.err c _) => some (.err c env)
  | some (.ok p) => fin (resV p.1) env
/-- f(a, ..): nothing is got to change -/
def callV (m : MF) (dds : List PyData) (f : FA) : FE := fun env => M.bind (fzA f env) fun p => callR1 (m ((p.1 ++ dds).map .val)) p.2
def updPen (i : Nat) (s : Sl) (outs : EnvD) (env : EnvD) : EnvD :=
  match outs with
  | some (.pen o) :: _ => env.set i (some (reO s o))
  | _ => env.set i none
def callR2 (m : M (Sl × EnvD)) (i : Nat) (s : Sl) (env : EnvD) : M (Sl × EnvD) :=
  match m with
  | none => none
  | some (.err c outs) => some (.err c (updPen i s outs env))
  | some (.ok p) => fin (resV p.1) (updPen i s p.2 env)
/-- f(x, a, ..): x's list is got to change -/
def penA (ss : List Sl) (env : EnvD) : Option (Nat × List PyData × EnvD) :=
  match ss with
  | .al i :: rest => match frzAll rest env with
    | some (ds, env2) => some (i, ds, env2)
    | none => none
  | _ => none
def callP (m : MF) (f : FA) : FE := fun env => M.bind (f env) fun p => match penA p.1 p.2 with
  | some (i, ds, env2) => match slotO i env2 with
    | some (s, o) => callR2 (m (.pen o :: ds.map .val)) i s env2
    | none => none
  | none => none

section
variable {X : Cx} {W : WX} {e : Expr} {es : List Expr} {pos : Pos} {x : Str} {p : Pos} {k : Nat} {fA : FA}
/-- the wish of a callee -/
theorem we_wd {W : WX} {σ : L2.St} {σ' : L2.St} {c : Value} {d : Option Addr} {H : Hp} (h : W c d σ H) : WD (WE W σ) c d σ' H := h
theorem vals_sr {K : PySem.W.Frag} {F O H : Hp} : ∀ {vs : List V} {ds : List PyData}, Same F H → SameO K O H → NoT F → (∀ a o, O a = some o → F a = none) → RpL K F vs ds → SR K F O (fun _ => none) [] ((ds.map Sl.val).map some) (vs.map some) F H := fun {vs ds} fh oh nt dj r => by
  refine ⟨Same.refl _, fh, oh, dj, by simp [r.length], fun i s q => ?_, fun p hp => absurd hp (by simp), fun i j s t a q1 q2 w1 w2 r1 r2 => ?_, nt⟩
  · rw [List.getElem?_map, List.getElem?_map] at q
    cases z : ds[i]? with
    | none => rw [z] at q; cases q
    | some d =>
      rw [z] at q
      cases q
      obtain ⟨v, e1, e2⟩ := r.get z
      exact ⟨v, by rw [List.getElem?_map, e1]; rfl, e2⟩
  · rw [List.getElem?_map, List.getElem?_map] at q1
    cases z : ds[i]? with
    | none => rw [z] at q1; cases q1
    | some d => rw [z] at q1; cases q1; exact w1.elim
theorem rs_back {K : PySem.W.Frag} {G O F F' H H' : Hp} {P : Nat → Option Addr} {ts : List (Sl × V)} {env outs : EnvD} {σ σ' : L2.St} {s z : Sl} {v : V} {ex : Addr → Prop} (S : SR K G O P ts env σ F H) (oh : SameO K (ownO env σ O H ex) H') (r : RsOk K F' H' (ownO env σ O H ex) outs σ' s v) (e : resV s = some z)
    (hx : ∀ (i : Nat) (t : Sl) (b : Addr), env[i]? = some (some t) → t.owns → σ[i]? = some (some (.ref b)) → ex b → v ≠ .ref b ∨ ∃ d, s = .val d) : RsOk K F' H' O env σ z v := by
  cases s with
  | val d => cases e; exact r
  | pen o => cases e
  | al j => cases e
  | own o =>
    cases e
    obtain ⟨a, rfl, z1, z2, z3, _⟩ := r
    refine ⟨a, rfl, z1, ?_, z3, fun i t q w rr => ?_⟩
    · cases q : O a with
      | none => rfl
      | some u =>
        rw [ownO_O S a u q] at z2
        cases z2
    · by_cases hex : ex a
      · rcases hx i t a q w rr hex with y | ⟨d, y⟩
        · exact y rfl
        · cases y
      · rw [ownO_at S q w rr hex] at z2
        obtain ⟨_, _, u, hu⟩ := S.owned q w rr
        rw [hu] at z2
        cases z2
theorem de_call {gd : Bool} {f : Addr} {fd : FuncData} {ps : List Str} {m : MF} {dvs : List V} {dus : List Value} {dds : List PyData} (Fn : FnG gd X.prog X.w X.K X.mg X.base (L2.CX X.prog X.w) k f fd ps (spD X.K X.mg m)) (hr : RG gd k X.A) (hg : Gl X x) (hm : X.mg x = some (.ref f)) (hk : PySem.W.keepIn X.K (.ref f) = true) (hb : Binds X.K fd ps dus) (hd : Vals dvs dus)
    (hdd : ∀ F, RpL X.K F dvs dds) (tk : Takes X W) (ha : DA X W (e :: es) fA) (hdb : (x == ("__debug__" : Str)) = false := by decide) (he : starEach (e :: es) X.env = (false, eval e X.env) :: starEach es X.env := by rfl) (hpl : (backTo pos (starEach es X.env)).any (·.1) = false := by rfl) :
    DE X W (.Call (.Name x p) (e :: es) [] pos) (callV m dds fA) := by
  obtain ⟨t, pa, sa⟩ := ha.ex
  refine ⟨_, pe_callG Fn hr hg hm hk hb hd (fun σ => passAt tk σ) pa hdb he hpl, fun G O P ts env σ F H Q S hp => ?_⟩
  refine fzA_ok (k := fun ds env' => callR1 (m ((ds ++ dds).map .val)) env') sa S hp fun ds env' vs F' H' S' r hp' => ?_
  refine ⟨(ds ++ dds).map .val, fun _ => none, F', ownO env' σ O H' (fun _ => False), fun s hs => ?_, ?_, ?_⟩
  · obtain ⟨d, _, rfl⟩ := List.mem_map.mp hs
    trivial
  · have z := vals_sr (O := ownO env' σ O H' (fun _ => False)) S'.fh (ownO_H S') S'.nt (ownO_F S') (r.app (hdd F'))
    exact z
  · cases q : m ((ds ++ dds).map .val) with
    | none => rw [q] at hp'; exact hp'.elim
    | some o =>
      rw [q] at hp'
      cases o with
      | err c outs =>
        intro C F2 H2 hc S2
        exact hp' C F2 H2 hc ((S'.sub (ts' := []) (fun p hp => absurd hp (by simp))).back S2.gf S2.fh S2.oh S2.dj (fun _ _ _ _ _ _ z => z) S2.nt)
      | ok pr =>
        intro v F2 H2 S2 r2
        obtain ⟨z, e0, q2⟩ := fin_ok hp'
        exact q2 v F2 H2 (S'.back S2.gf S2.fh S2.oh S2.dj (fun _ _ _ _ _ _ z => z) S2.nt) (rs_back S' S2.oh r2 e0 fun _ _ _ _ _ _ z => z.elim)
theorem de_callP {gd : Bool} {f : Addr} {fd : FuncData} {ps : List Str} {m : MF} (Fn : FnG gd X.prog X.w X.K X.mg X.base (L2.CX X.prog X.w) k f fd ps (spD X.K X.mg m)) (hr : RG gd k X.A) (hg : Gl X x) (hm : X.mg x = some (.ref f)) (hk : PySem.W.keepIn X.K (.ref f) = true) (hb : Binds X.K fd ps [])
    (tk : Takes X W) (ha : DA X W (e :: es) fA) (hdb : (x == ("__debug__" : Str)) = false := by decide) (he : starEach (e :: es) X.env = (false, eval e X.env) :: starEach es X.env := by rfl) (hpl : (backTo pos (starEach es X.env)).any (·.1) = false := by rfl) :
    DE X W (.Call (.Name x p) (e :: es) [] pos) (callP m fA) := by
  obtain ⟨t, pa, sa⟩ := ha.ex
  refine ⟨_, pe_callG Fn hr hg hm hk hb .nil (fun σ => passAt tk σ) pa hdb he hpl, fun G O P ts env σ F H Q S hp => ?_⟩
  refine sa.thn (k := fun ss env' => match penA ss env' with
    | some (i, ds, env2) => match slotO i env2 with
      | some (s, o) => callR2 (m (.pen o :: ds.map .val)) i s env2
      | none => none
    | none => none) S hp fun ss env' vs F' H' hl S' hp' => ?_
  cases q : penA ss env' with
  | none => rw [q] at hp'; exact hp'.elim
  | some t3 =>
    rw [q] at hp'
    obtain ⟨i, ds, env2⟩ := t3
    dsimp only at hp'
    unfold penA at q
    split at q
    · rename_i i0 rest
      cases vs with
      | nil => cases hl
      | cons v0 vs =>
        cases q1 : frzAll rest env' with
        | none => rw [q1] at q; cases q
        | some pr =>
          obtain ⟨ds1, env3⟩ := pr
          rw [q1] at q
          cases q
          have hv0 : σ[i]? = some (some v0) := S'.tmp (.al i, v0) (by simp)
          obtain ⟨F2, m2, S2, r2⟩ := SR.frzAll (vs := vs) S' (fun p hp => by simp [hp]) (by simpa using hl) q1
          have S3 : SR X.K G O P ts env2 σ F2 H' := S2.sub fun p hp => List.mem_append_right _ hp
          cases q2 : slotO i env2 with
          | none => rw [q2] at hp'; exact hp'.elim
          | some so =>
            obtain ⟨s, o⟩ := so
            rw [q2] at hp'
            dsimp only at hp'
            obtain ⟨a, f1, f2, f3, f4, f5⟩ := S3.slO q2
            obtain ⟨g1, g2⟩ := slotO_ok q2
            rw [hv0] at f1
            cases f1
            have hex : ∀ (j : Nat) (t : Sl) (b : Addr), (env2.set i none)[j]? = some (some t) → t.owns → σ[j]? = some (some (.ref b)) → ¬ (b = a) := fun j t b z1 z2 z3 z4 => by
              subst z4
              by_cases hij : i = j
              · subst hij
                have hlt := (List.getElem?_eq_some_iff.mp g1).1
                rw [List.getElem?_set_self hlt] at z1
                cases z1
              · rw [List.getElem?_set_ne hij] at z1
                exact hij (S3.sep i j s t b g1 z1 f5 z2 hv0 z3)
            have Sf := S3.forget i
            have oa : ownO (env2.set i none) σ O H' (fun b => b = a) a = O a := by
              unfold ownO
              rw [if_neg fun z => z.2 rfl]
            have Sc : SR X.K F2 (ownO (env2.set i none) σ O H' (fun b => b = a)) (fun j => if j = 0 then some a else none) [] ((Sl.pen o :: ds.map .val).map some) ((V.ref a :: vs).map some) F2 H' := by
              have Sv := vals_sr (O := ownO (env2.set i none) σ O H' (fun b => b = a)) S3.fh (ownO_H Sf) Sf.nt (ownO_F Sf) r2
              refine ⟨Sv.gf, Sv.fh, Sv.oh, Sv.dj, by simpa using Sv.len, fun j t z => ?_, fun p hp => absurd hp (by simp), fun j k t t' b z1 z2 w1 w2 y1 y2 => ?_, Sv.nt⟩
              · cases j with
                | zero =>
                  simp at z
                  subst z
                  exact ⟨.ref a, rfl, a, rfl, rfl, f2, by rw [oa]; exact f3, f4⟩
                | succ j =>
                  obtain ⟨w, u1, u2⟩ := Sv.slot j t (by simpa using z)
                  refine ⟨w, by simpa using u1, ?_⟩
                  cases t with
                  | val d => exact u2
                  | own o' => exact u2
                  | pen o' =>
                    obtain ⟨_, _, y, _⟩ := u2
                    cases y
                  | al l => exact u2
              · have only0 : ∀ (j : Nat) (t : Sl), ((Sl.pen o :: ds.map Sl.val).map some)[j]? = some (some t) → t.owns → j = 0 := fun j t z w => by
                  cases j with
                  | zero => rfl
                  | succ j =>
                    simp at z
                    obtain ⟨d, _, rfl⟩ := z
                    exact w.elim
                rw [only0 j t z1 w1, only0 k t' z2 w2]
            have penBack : ∀ {outs : EnvD} {F4 H4 : Hp}, SR X.K F2 (ownO (env2.set i none) σ O H' (fun b => b = a)) (fun j => if j = 0 then some a else none) [] outs ((V.ref a :: vs).map some) F4 H4 → ∀ {ts' : List (Sl × V)}, SR X.K G O P ts' env2 σ F2 H' → SR X.K G O P ts' (updPen i s outs env2) σ F4 H4 := fun {outs F4 H4} S4 ts' S0 => by
              have Sb : SR X.K G O P ts' (env2.set i none) σ F4 H4 := (S0.forget i).back S4.gf S4.fh S4.oh S4.dj hex S4.nt
              unfold updPen
              split
              · rename_i o2 tl
                obtain ⟨w, u1, u2⟩ := S4.slot 0 (.pen o2) rfl
                cases u1
                obtain ⟨b, e1, e2, e3, e4, e5⟩ := u2
                cases e1
                exact S0.retell Sb q2 hv0 e3 f3 e5
              · exact Sb
            refine ⟨.pen o :: ds.map .val, fun j => if j = 0 then some a else none, F2, ownO (env2.set i none) σ O H' (fun b => b = a), fun s hs => ?_, ?_, ?_⟩
            · rcases List.mem_cons.mp hs with rfl | hs
              · trivial
              · obtain ⟨d, _, rfl⟩ := List.mem_map.mp hs
                trivial
            · rw [List.append_nil]; exact Sc
            · rw [List.append_nil]
              cases q3 : m (.pen o :: ds.map .val) with
              | none => rw [q3] at hp'; exact hp'.elim
              | some ot =>
                rw [q3] at hp'
                cases ot with
                | err c outs =>
                  intro C F4 H4 hc S4
                  exact hp' C F4 H4 hc (penBack S4 (S3.sub (ts' := []) (fun p hp => absurd hp (by simp))))
                | ok pr =>
                  intro v F4 H4 S4 r4
                  obtain ⟨z, e0, q4⟩ := fin_ok hp'
                  refine q4 v F4 H4 (penBack S4 S3) ?_
                  have rb : RsOk X.K F4 H4 O (env2.set i none) σ z v := rs_back Sf S4.oh r4 e0 fun j t b y1 y2 y3 y4 => absurd y4 (hex j t b y1 y2 y3)
                  obtain ⟨rs, outs⟩ := pr
                  dsimp only at r4 e0 ⊢
                  cases z with
                  | val d => exact rb
                  | pen d => exact rb
                  | al d =>
                    cases rs <;> cases e0
                  | own o5 =>
                    obtain ⟨b, rfl, y2, y3, y4, y5⟩ := rb
                    refine ⟨b, rfl, y2, y3, y4, fun j t u1 u2 u3 => ?_⟩
                    unfold updPen at u1
                    split at u1
                    · rename_i o6 tl
                      by_cases hij : i = j
                      · subst hij
                        rw [hv0] at u3
                        cases u3
                        cases rs with
                        | val d => cases e0
                        | pen d => cases e0
                        | al d => cases e0
                        | own o7 =>
                          obtain ⟨b2, w1, _, _, _, w5⟩ := r4
                          cases w1
                          exact w5 0 (.pen o6) rfl trivial rfl
                      · rw [List.getElem?_set_ne hij] at u1
                        exact y5 j t (by rw [List.getElem?_set_ne hij]; exact u1) u2 u3
                    · exact y5 j t u1 u2 u3
    · cases q
end
end DL
set_option Elab.async false
set_option linter.all false
set_option maxRecDepth 100000
set_option maxHeartbeats 4000000
namespace DL
open PySem PySem.Spec PyProof.Rows L2

/-! ### statements -/
inductive Flo where
  | nx (env : EnvD) | rt (s : Sl) (env : EnvD)
abbrev FS := EnvD → M Flo
abbrev GT := PyData → EnvD → Option EnvD
abbrev GTs := List PyData → EnvD → Option EnvD
def PostS (K : PySem.W.Frag) (mg : Str → Option Value) (W : WX) (G O : Hp) (P : Nat → Option Addr) (D : Ends) : M Flo → Prop
  | none => False
  | some (.ok (.nx env')) => ∀ σ' F' H', SR K G O P [] env' σ' F' H' → D.nx σ' H'
  | some (.ok (.rt s env')) => ∀ v σ' F' H', SR K G O P [] env' σ' F' H' → RsOk K F' H' O env' σ' s v → D.rt v H'
  | some (.err c env') => ∀ C σ' F' H', mg c = some (.ref C) → SR K G O P [] env' σ' F' H' → W (.ref C) none σ' H'
def SndS (K : PySem.W.Frag) (mg : Str → Option Value) (W : WX) (t : TS) (f : FS) : Prop :=
  ∀ G O P env σ F H D, SR K G O P [] env σ F H → PostS K mg W G O P D (f env) → t D σ H
def Only (tgs : List Nat) (σ σ' : L2.St) : Prop := σ'.length = σ.length ∧ ∀ i, i ∉ tgs → σ'[i]? = σ[i]?
theorem Only.refl {tgs : List Nat} {σ : L2.St} : Only tgs σ σ := ⟨rfl, fun _ _ => rfl⟩
theorem Only.trans {t1 t2 : List Nat} {σ σ1 σ2 : L2.St} (a : Only t1 σ σ1) (b : Only t2 σ1 σ2) : Only (t1 ++ t2) σ σ2 := ⟨b.1.trans a.1, fun i h => (b.2 i fun z => h (List.mem_append_right _ z)).trans (a.2 i fun z => h (List.mem_append_left _ z))⟩
def SndG (K : PySem.W.Frag) (g : TG) (gt : GT) (tgs : List Nat) : Prop :=
  ∀ G O P env σ F H v d env' (Q : L2.St → Hp → Prop), SR K G O P [] env σ F H → Rp K F v d → gt d env = some env' → (∀ σ' F' H', Same F F' → SR K G O P [] env' σ' F' H' → Only tgs σ σ' → Q σ' H') → g v σ H Q
def SndGs (K : PySem.W.Frag) (g : TGs) (gt : GTs) (tgs : List Nat) : Prop :=
  ∀ G O P env σ F H vs ds env' (Q : L2.St → Hp → Prop), SR K G O P [] env σ F H → RpL K F vs ds → gt ds env = some env' → (∀ σ' F' H', Same F F' → SR K G O P [] env' σ' F' H' → Only tgs σ σ' → Q σ' H') → g vs σ H Q
structure DS (X : Cx) (W : WX) (st : Stmt) (f : FS) : Prop where
  ex : ∃ t, PS X st t ∧ SndS X.K X.mg W t f
structure DSs (X : Cx) (W : WX) (st : List Stmt) (f : FS) : Prop where
  ex : ∃ t, PSs X st t ∧ SndS X.K X.mg W t f
structure DG (X : Cx) (e : Expr) (g : TG) (gt : GT) (tgs : List Nat) : Prop where
  pg : PG X e g
  sd : SndG X.K g gt tgs
structure DGs (X : Cx) (e : List Expr) (g : TGs) (gt : GTs) (tgs : List Nat) : Prop where
  pg : PGs X e g
  sd : SndGs X.K g gt tgs

/-! ### forms -/
def seqF (f g : FS) : FS := fun env => M.bind (f env) fun r => match r with
  | .nx env' => g env'
  | .rt s env' => M.ok (.rt s env')
def nilF : FS := fun env => M.ok (.nx env)
def dropF (f : FE) : FS := fun env => M.bind (f env) fun p => M.ok (.nx p.2)
/-- another name of one's own list keeps it for good -/
def unal (s : Sl) (env : EnvD) : Option (Sl × EnvD) :=
  match s with
  | .al i => match frz1 (.al i) env with
    | some (d, env2) => some (.val d, env2)
    | none => none
  | .pen _ => none
  | s => some (s, env)
def asgF (i : Nat) (f : FE) : FS := fun env => M.bind (f env) fun p => match unal p.1 p.2 with
  | some q => match putS i q.1 q.2 with
    | some env2 => M.ok (.nx env2)
    | none => none
  | none => none
def asgG (gt : GT) (f : FE) : FS := fun env => M.bind (f env) fun p => match frz1 (fz p.1) p.2 with
  | some q => match gt q.1 q.2 with
    | some env2 => M.ok (.nx env2)
    | none => none
  | none => none
def retF (f : FE) : FS := fun env => M.bind (f env) fun p => M.ok (.rt p.1 p.2)
def retN : FS := fun env => M.ok (.rt (.val .none) env)
def ifF (c : FT) (f g : FS) : FS := fun env => M.bind (c env) fun p => match p.1 with
  | true => f p.2
  | false => g p.2
def raiseF (c : Str) : FS := fun env => some (.err c env)
def gtName (i : Nat) : GT := fun d env => putS i (.val d) env
def gtTup (gs : GTs) : GT := fun d env => match d with
  | .tuple ds => gs ds env
  | _ => none
def gtNil : GTs := fun ds env => match ds with
  | [] => some env
  | _ => none
def gtCons (g : GT) (gs : GTs) : GTs := fun ds env => match ds with
  | d :: r => match g d env with
    | some env1 => gs r env1
    | none => none
  | _ => none
def whileN (c : FT) (b : FS) : Nat → FS
  | 0 => fun _ => none
  | n + 1 => fun env => M.bind (c env) fun p => match p.1 with
    | true => M.bind (b p.2) fun r => match r with
      | .nx env' => whileN c b n env'
      | .rt s env' => M.ok (.rt s env')
    | false => M.ok (.nx p.2)
def whileF (mu : EnvD → Nat) (c : FT) (b : FS) : FS := fun env => whileN c b (mu env) env

section
variable {X : Cx} {W : WX} {e a b c : Expr} {es rest : List Expr} {f fa fb fc : FE} {pos : Pos} {x : Str} {p : Pos} {st : Stmt} {sts : List Stmt} {u v : FS}
theorem dss_nil : DSs X W [] nilF := ⟨_, pss_nil, fun G O P env σ F H D S hp => hp σ F H S⟩
theorem dss_one (h : DS X W st u) : DSs X W [st] u := by
  obtain ⟨t, p, s⟩ := h.ex
  exact ⟨_, pss_one p, s⟩
theorem SndS.thn {K : PySem.W.Frag} {mg : Str → Option Value} {G O F H : Hp} {P : Nat → Option Addr} {env : EnvD} {σ : L2.St} {t : TS} {f : FS} (h : SndS K mg W t f) {D : Ends} {N : L2.St → Hp → Prop} {k : FS} (S : SR K G O P [] env σ F H)
    (hp : PostS K mg W G O P D (seqF f k env)) (hk : ∀ env' σ' F' H', SR K G O P [] env' σ' F' H' → PostS K mg W G O P D (k env') → N σ' H') : t { D with nx := N } σ H := by
  refine h G O P env σ F H _ S ?_
  unfold seqF at hp
  cases e : f env with
  | none => rw [e] at hp; exact hp
  | some o =>
    rw [e] at hp
    cases o with
    | err c env' => exact hp
    | ok r =>
      cases r with
      | nx env' => exact fun σ' F' H' S' => hk env' σ' F' H' S' hp
      | rt s env' => exact hp
theorem dss_cons (h : DS X W st u) (hr : DSs X W sts v) : DSs X W (st :: sts) (seqF u v) := by
  obtain ⟨t, p, s⟩ := h.ex
  obtain ⟨t2, p2, s2⟩ := hr.ex
  refine ⟨_, pss_cons p p2, fun G O P env σ F H D S hp => ?_⟩
  exact s.thn S hp fun env' σ' F' H' S' hp' => s2 G O P env' σ' F' H' D S' hp'
theorem dss_never : DSs X W sts (fun _ => none) := ⟨_, pss_never, fun G O P env σ F H D S hp => hp.elim⟩
theorem ds_never : DS X W st (fun _ => none) := ⟨_, ps_never, fun G O P env σ F H D S hp => hp.elim⟩
/-- an expression's value, then D -/
theorem SndE.stmt {K : PySem.W.Frag} {mg : Str → Option Value} {G O F H : Hp} {P : Nat → Option Addr} {env : EnvD} {σ : L2.St} {t : TE} (h : SndE K mg W t f) {R : VK} {D : Ends} {k : Sl → EnvD → M Flo} (S : SR K G O P [] env σ F H)
    (hp : PostS K mg W G O P D (M.bind (f env) fun p => k p.1 p.2))
    (hk : ∀ s env' v F' H', SR K G O P [] env' σ F' H' → RsOk K F' H' O env' σ s v → PostS K mg W G O P D (k s env') → R v H') : t σ H R := by
  refine h G O P [] env σ F H R S ?_
  cases e : f env with
  | none => rw [e] at hp; exact hp
  | some o =>
    rw [e] at hp
    cases o with
    | err c env' => exact fun C F' H' hc S' => hp C σ F' H' hc S'
    | ok p => exact fun v F' H' S' r => hk _ _ v F' H' S' r hp
theorem SndT.stmt {K : PySem.W.Frag} {mg : Str → Option Value} {G O F H : Hp} {P : Nat → Option Addr} {env : EnvD} {σ : L2.St} {t : TT} {f : FT} (h : SndT K mg W t f) {R : Bool → Hp → Prop} {D : Ends} {k : Bool → EnvD → M Flo} (S : SR K G O P [] env σ F H)
    (hp : PostS K mg W G O P D (M.bind (f env) fun p => k p.1 p.2))
    (hk : ∀ b env' F' H', SR K G O P [] env' σ F' H' → PostS K mg W G O P D (k b env') → R b H') : t σ H R := by
  refine h G O P [] env σ F H R S ?_
  cases e : f env with
  | none => rw [e] at hp; exact hp
  | some o =>
    rw [e] at hp
    cases o with
    | err c env' => exact fun C F' H' hc S' => hp C σ F' H' hc S'
    | ok p => exact fun F' H' S' => hk _ _ F' H' S' hp
theorem ds_expr (he : DE X W e f) (hs : swapsWith e none pos.line X.env = pure false := by rfl) : DS X W (.Expr e pos) (dropF f) := by
  obtain ⟨t, p, s⟩ := he.ex
  refine ⟨_, ps_expr p hs, fun G O P env σ F H D S hp => ?_⟩
  exact s.stmt (k := fun _ env => M.ok (.nx env)) S hp fun s env' v F' H' S' r hp' => hp' σ F' H' S'
theorem ds_ret (he : DE X W e f) : DS X W (.Return (some e) pos) (retF f) := by
  obtain ⟨t, p, s⟩ := he.ex
  refine ⟨_, ps_ret p, fun G O P env σ F H D S hp => ?_⟩
  exact s.stmt (k := fun s env => M.ok (.rt s env)) S hp fun s env' v F' H' S' r hp' => hp' v σ F' H' S' r
theorem ds_retN : DS X W (.Return none pos) retN := ⟨_, ps_retN, fun G O P env σ F H D S hp => hp .non σ F H S .non⟩
theorem ds_if {fc : FT} {sa sb : List Stmt} (hc : DT X W c fc) (ha : DSs X W sa u) (hb : DSs X W sb v) : DS X W (.If c sa sb pos) (ifF fc u v) := by
  obtain ⟨tc, pc, sc⟩ := hc.ex
  obtain ⟨ta, pa, sa⟩ := ha.ex
  obtain ⟨tb, pb, sb⟩ := hb.ex
  refine ⟨_, ps_if pc pa pb, fun G O P env σ F H D S hp => ?_⟩
  refine sc.stmt (k := fun b env => match b with | true => u env | false => v env) S hp fun b env' F' H' S' hp' => ?_
  cases b with
  | true => exact sa G O P env' σ F' H' D S' hp'
  | false => exact sb G O P env' σ F' H' D S' hp'

/-! ### name = value -/
theorem unal_ok {K : PySem.W.Frag} {G O F H : Hp} {P : Nat → Option Addr} {env env2 : EnvD} {σ : L2.St} {s s2 : Sl} {v : V} (S : SR K G O P [] env σ F H) (r : RsOk K F H O env σ s v) (e : unal s env = some (s2, env2)) :
    ∃ F2, Same F F2 ∧ SR K G O P [] env2 σ F2 H ∧ RsOk K F2 H O env2 σ s2 v := by
  unfold unal at e
  cases s with
  | val d => cases e; exact ⟨F, Same.refl _, S, r⟩
  | own o => cases e; exact ⟨F, Same.refl _, S, r⟩
  | pen o => cases e
  | al i =>
    dsimp only at e
    cases q : frz1 (.al i) env with
    | none => rw [q] at e; cases e
    | some pr =>
      rw [q] at e
      cases e
      obtain ⟨F2, m, S2, r2⟩ := S.frz1 (s := .al i) (v := v) r q
      exact ⟨F2, m, S2, r2⟩
theorem snd_asg {K : PySem.W.Frag} {mg : Str → Option Value} {i : Nat} {t : TE} (h : SndE K mg W t f) : SndS K mg W (tAsg t (gName i)) (asgF i f) := by
  intro G O P env σ F H D S hp
  refine h.stmt (k := fun s env => match unal s env with
    | some q => match putS i q.1 q.2 with
      | some env2 => M.ok (.nx env2)
      | none => none
    | none => none) S hp fun s env' v F' H' S' r hp' => ?_
  cases q : unal s env' with
  | none => rw [q] at hp'; exact hp'.elim
  | some pr =>
    rw [q] at hp'
    obtain ⟨s2, env2⟩ := pr
    dsimp only at hp'
    obtain ⟨F2, m, S2, r2⟩ := unal_ok S' r q
    cases q2 : putS i s2 env2 with
    | none => rw [q2] at hp'; exact hp'.elim
    | some env3 =>
      rw [q2] at hp'
      exact hp' _ F2 H' (S2.put r2 q2)
theorem ds_asg (i : Nat) {px : Pos} (he : DE X W e f) (hN : X.N.Nodup) (hi : X.N[i]? = some x := by rfl) (hx : Loc X.env.scope x := by first | exact Or.inl rfl | exact Or.inr rfl) (hs : swapsWith e (some (.Name x px)) pos.line X.env = pure false := by rfl) (hf : X.fn x = true ∨ X.env.scope.names.lookup x = some .local := by first | exact .inl rfl | exact .inr rfl) :
    DS X W (.Assign [.Name x px] e pos) (asgF i f) := by
  obtain ⟨t, p, s⟩ := he.ex
  exact ⟨_, ps_set hN hi hx p hs hf, snd_asg s⟩

/-! ### targets -/
theorem dg_name (i : Nat) (hN : X.N.Nodup) (hi : X.N[i]? = some x := by rfl) (hx : Loc X.env.scope x := by first | exact Or.inl rfl | exact Or.inr rfl) (hf : X.fn x = true ∨ X.env.scope.names.lookup x = some .local := by first | exact .inl rfl | exact .inr rfl) : DG X (.Name x p) (gName i) (gtName i) [i] :=
  ⟨pg_name hN hi hx hf, fun G O P env σ F H v d env' Q S r e q => q _ F H (Same.refl _) (S.put (s := .val d) r e) ⟨by rw [List.length_set], fun k hk => by rw [List.getElem?_set_ne (fun z => hk (by simp [z]))]⟩⟩
theorem dgs_nil : DGs X [] gNil gtNil [] := ⟨pgs_nil, fun G O P env σ F H vs ds env' Q S r e q => by
  cases r with
  | nil => cases e; exact ⟨rfl, q σ F H (Same.refl _) S Only.refl⟩
  | cons _ _ => cases e⟩
theorem dgs_cons {g : TG} {gs : TGs} {gt : GT} {gts : GTs} {t1 t2 : List Nat} (h1 : DG X e g gt t1) (h2 : DGs X es gs gts t2) (hs : (assignEach (e :: es) X.env).map (·.2) = assign e X.env :: (assignEach es X.env).map (·.2) := by rfl) : DGs X (e :: es) (gCons g gs) (gtCons gt gts) (t1 ++ t2) :=
  ⟨pgs_cons h1.pg h2.pg hs, fun G O P env σ F H vs ds env' Q S r e q => by
    cases r with
    | nil => cases e
    | cons r1 r2 =>
      unfold gtCons at e
      dsimp only at e
      cases z : gt _ env with
      | none => rw [z] at e; cases e
      | some env1 =>
        rw [z] at e
        exact ⟨_, _, rfl, h1.sd G O P env σ F H _ _ env1 _ S r1 z fun σ1 F1 H1 m1 S1 o1 => h2.sd G O P env1 σ1 F1 H1 _ _ env' Q S1 (RpL.mono m1 _ _ r2) e fun σ2 F2 H2 m2 S2 o2 => q σ2 F2 H2 (m1.trans m2) S2 (o1.trans o2)⟩⟩
theorem sndG_tup {K : PySem.W.Frag} {n : Nat} {gs : TGs} {gts : GTs} {tgs : List Nat} (h : SndGs K gs gts tgs) (hn : ∀ ds env env', gts ds env = some env' → ds.length = n) : SndG K (gTup K n gs) (gtTup gts) tgs := by
  intro G O P env σ F H v d env' Q S r e q
  unfold gtTup at e
  split at e
  · rename_i ds
    obtain ⟨a, xs, rfl, z1, z2⟩ := Sh.tup S.fh (Rp.sh S.fh r)
    exact ⟨a, xs, rfl, z1, by rw [z2.length]; exact hn _ _ _ e, h G O P env σ F H _ _ env' Q S z2 e q⟩
  · cases e
def gtsLen (gts : GTs) (n : Nat) : Prop := ∀ ds env env', gts ds env = some env' → ds.length = n
theorem gl_nil : gtsLen gtNil 0 := fun ds env env' h => by
  cases ds with
  | nil => rfl
  | cons _ _ => cases h
theorem gl_cons {g : GT} {gs : GTs} {n : Nat} (h : gtsLen gs n) : gtsLen (gtCons g gs) (n + 1) := fun ds env env' e => by
  cases ds with
  | nil => cases e
  | cons d r =>
    unfold gtCons at e
    dsimp only at e
    cases z : g d env with
    | none => rw [z] at e; cases e
    | some env1 =>
      rw [z] at e
      simp [h r env1 env' e]
theorem dg_tup {k n : Nat} {gs : TGs} {gts : GTs} {tgs : List Nat} (h : DGs X es gs gts tgs) (hl : gtsLen gts n) (hp : PG X (.Tuple es k p) (gTup X.K n gs)) : DG X (.Tuple es k p) (gTup X.K n gs) (gtTup gts) tgs := ⟨hp, sndG_tup h.sd hl⟩
theorem ds_asgG {tg : Expr} {g : TG} {gt : GT} {tgs : List Nat} (he : DE X W e f) (hg : DG X tg g gt tgs) (hs : swapsWithSole [tg] e pos.line X.env = pure false := by rfl) (hw : swappedStores [tg] e X.env = pure none := by rfl)
    (h1 : (assignEach [tg] X.env).map (·.2) = [assign tg X.env] := by rfl) : DS X W (.Assign [tg] e pos) (asgG gt f) := by
  obtain ⟨t, p, s⟩ := he.ex
  refine ⟨_, ps_asg p hg.pg hs hw h1, fun G O P env σ F H D S hp => ?_⟩
  refine s.stmt (k := fun s env => match frz1 (fz s) env with
    | some q => match gt q.1 q.2 with
      | some env2 => M.ok (.nx env2)
      | none => none
    | none => none) S hp fun s env' v F' H' S' r hp' => ?_
  obtain ⟨F2, m2, S2⟩ := S'.keep r
  cases q : frz1 (fz s) env' with
  | none => rw [q] at hp'; exact hp'.elim
  | some pr =>
    rw [q] at hp'
    obtain ⟨d, env2⟩ := pr
    dsimp only at hp'
    obtain ⟨F3, m3, S3, r3⟩ := S2.frz1 (S2.tmp (fz s, v) (by simp)) q
    cases q2 : gt d env2 with
    | none => rw [q2] at hp'; exact hp'.elim
    | some env3 =>
      rw [q2] at hp'
      exact hg.sd G O P env2 σ F3 H' v d env3 _ S3.pop r3 q2 fun σ' F4 H4 _ S4 _ => hp' σ' F4 H4 S4

/-! ### while -/
theorem ds_while {fc : FT} {sb : List Stmt} (mu : EnvD → Nat) (hp : PassesOwn (model X.prog X.w) X.A X.env X.xe) (hc : DT X W c fc) (hb : DSs X W sb u) : DS X W (.While c sb [] pos) (whileF mu fc u) := by
  obtain ⟨tc, pc, sc⟩ := hc.ex
  obtain ⟨tb, pb, sb⟩ := hb.ex
  refine ⟨_, ps_while hp pc pb, fun G O P env σ F H D S hp => ?_⟩
  refine ⟨fun m σ H => ∃ env F, SR X.K G O P [] env σ F H ∧ PostS X.K X.mg W G O P D (whileN fc u m env), ⟨mu env, env, F, S, hp⟩, fun m σ H ⟨env, F, S, hp⟩ => ?_⟩
  cases m with
  | zero => exact hp.elim
  | succ m =>
    refine sc.stmt (k := fun b env => match b with
      | true => M.bind (u env) fun r => match r with
        | .nx env' => whileN fc u m env'
        | .rt s env' => M.ok (.rt s env')
      | false => M.ok (.nx env)) S hp fun b env' F' H' S' hp' => ?_
    cases b with
    | false => exact hp' σ F' H' S'
    | true =>
      rw [if_pos rfl]
      refine ⟨fun σ' H' => ∃ env F, SR X.K G O P [] env σ' F H' ∧ PostS X.K X.mg W G O P D (whileN fc u m env), fun σ' H' q => ⟨m, Nat.lt_succ_self m, q⟩, ?_⟩
      refine sb G O P env' σ F' H' _ S' ?_
      cases q : u env' with
      | none => rw [q] at hp'; exact hp'
      | some o =>
        rw [q] at hp'
        cases o with
        | err c env2 => exact hp'
        | ok r =>
          cases r with
          | nx env2 => exact fun σ2 F2 H2 S2 => ⟨env2, F2, S2, hp'⟩
          | rt s env2 => exact hp'
end
end DL
set_option Elab.async false
set_option linter.all false
set_option maxRecDepth 100000
set_option maxHeartbeats 4000000
namespace DL
open PySem PySem.Spec PyProof.Rows L2

/-! ### a, b = x, y of plain local names -/
section
variable {K : PySem.W.Frag} {G G' O F F' H H' : Hp} {P P' : Nat → Option Addr} {ts : List (Sl × V)} {env env2 : EnvD} {σ σ' : L2.St} {s : Sl} {v : V} {d : PyData} {a : Addr} {o o' : Own}
theorem SR.base (h : SR K G O P ts env σ F H) : SR K F O P ts env σ F H := ⟨Same.refl _, h.fh, h.oh, h.dj, h.len, h.slot, h.tmp, h.sep, h.nt⟩
theorem SR.rebase (h : SR K F' O P ts env σ F H) (g : Same G F') : SR K G O P ts env σ F H := ⟨g.trans h.gf, h.fh, h.oh, h.dj, h.len, h.slot, h.tmp, h.sep, h.nt⟩
/-- a result's own list laid by, while something else is reckoned -/
theorem SR.hide {u : HO} (h : SR K G O P ts env σ F H) (nF : F a = none) (nO : O a = none) (hu : H a = some u) (nu : ∀ ps, u ≠ .tbl ps) (ns : ∀ (i : Nat) (s' : Sl), env[i]? = some (some s') → s'.owns → σ[i]? ≠ some (some (.ref a))) : SR K G (upd O a u) P ts env σ F H := by
  refine ⟨h.gf, h.fh, h.oh.more hu nu, fun b x q => ?_, h.len, fun i s q => ?_, h.tmp, h.sep, h.nt⟩
  · by_cases hb : b = a
    · subst hb; exact nF
    · rw [upd_ne hb] at q; exact h.dj b x q
  · obtain ⟨w, f1, f2⟩ := h.slot i s q
    refine ⟨w, f1, ?_⟩
    cases s with
    | val d => exact f2
    | own o =>
      obtain ⟨b, rfl, z1, z2, z3⟩ := f2
      have ne : b ≠ a := fun z => ns i _ q trivial (by rw [f1, z])
      exact ⟨b, rfl, z1, by rw [upd_ne ne]; exact z2, z3⟩
    | pen o =>
      obtain ⟨b, rfl, z0, z1, z2, z3⟩ := f2
      have ne : b ≠ a := fun z => ns i _ q trivial (by rw [f1, z])
      exact ⟨b, rfl, z0, z1, by rw [upd_ne ne]; exact z2, z3⟩
    | al k => exact f2
theorem SR.unhide {u : HO} (h : SR K G (upd O a u) P ts env σ F H) (nO : O a = none) (nu : ∀ ps, u ≠ .tbl ps) : SR K G O P ts env σ F H ∧ F a = none ∧ H a = some u ∧ ∀ (i : Nat) (s' : Sl), env[i]? = some (some s') → s'.owns → σ[i]? ≠ some (some (.ref a)) := by
  have sub : ∀ b x, O b = some x → upd O a u b = some x := fun b x q => by rw [upd_ne (ne_of_none q nO)]; exact q
  have un : ∀ b, upd O a u b = none → b ≠ a ∧ O b = none := fun b q => by
    by_cases hb : b = a
    · subst hb; rw [upd_same] at q; cases q
    · rw [upd_ne hb] at q; exact ⟨hb, q⟩
  refine ⟨⟨h.gf, h.fh, h.oh.sub sub, fun b x q => h.dj b x (sub b x q), h.len, fun i s q => ?_, h.tmp, h.sep, h.nt⟩, h.dj a u upd_same, h.oh.val a u upd_same, fun i s' q w z => ?_⟩
  · obtain ⟨w, f1, f2⟩ := h.slot i s q
    refine ⟨w, f1, ?_⟩
    cases s with
    | val d => exact f2
    | own o =>
      obtain ⟨b, rfl, z1, z2, z3⟩ := f2
      exact ⟨b, rfl, z1, (un b z2).2, z3⟩
    | pen o =>
      obtain ⟨b, rfl, z0, z1, z2, z3⟩ := f2
      exact ⟨b, rfl, z0, z1, (un b z2).2, z3⟩
    | al k => exact f2
  · obtain ⟨_, z2, _⟩ := h.owned q w z
    exact (un a z2).1 rfl
end
def parF (i j : Nat) (fa fb : FE) : FS := fun env => M.bind (fa env) fun p => match unal p.1 p.2 with
  | some r => M.bind (fb r.2) fun q => match unal q.1 q.2 with
    | some t => match putS i r.1 t.2 with
      | some env3 => match putS j t.1 env3 with
        | some env4 => M.ok (.nx env4)
        | none => none
      | none => none
    | none => none
  | none => none
def parK (i j : Nat) (s1 s2 : Sl) (env : EnvD) : M Flo := match putS i s1 env with
  | some env3 => match putS j s2 env3 with
    | some env4 => M.ok (.nx env4)
    | none => none
  | none => none
section
variable {X : Cx} {W : WX} {e a b c : Expr} {es rest : List Expr} {f fa fb fc : FE} {pos : Pos} {x y : Str} {p : Pos} {st : Stmt} {sts : List Stmt} {u v : FS}
theorem par_fin {K : PySem.W.Frag} {mg : Str → Option Value} {G O F H : Hp} {P : Nat → Option Addr} {env : EnvD} {σ : L2.St} {i j : Nat} {s1 s2 : Sl} {v1 v2 : V} {D : Ends} (S : SR K G O P [] env σ F H) (r1 : RsOk K F H O env σ s1 v1) (r2 : RsOk K F H O env σ s2 v2)
    (hd : ∀ a o1 o2, s1 = .own o1 → s2 = .own o2 → v1 = .ref a → v2 ≠ .ref a) (hij : i ≠ j) (hp : PostS K mg W G O P D (parK i j s1 s2 env)) : D.nx ((σ.set i (some v1)).set j (some v2)) H := by
  unfold parK at hp
  cases q1 : putS i s1 env with
  | none => rw [q1] at hp; exact hp.elim
  | some env3 =>
    rw [q1] at hp
    dsimp only at hp
    have S3 := S.put r1 q1
    cases q2 : putS j s2 env3 with
    | none => rw [q2] at hp; exact hp.elim
    | some env4 =>
      rw [q2] at hp
      refine hp _ F H (S3.put ?_ q2)
      cases s2 with
      | val d => exact r2
      | pen o => exact r2
      | al k => cases q2
      | own o2 =>
        obtain ⟨a, rfl, z1, z2, z3, z4⟩ := r2
        refine ⟨a, rfl, z1, z2, z3, fun k t w1 w2 w3 => ?_⟩
        have e3 : env3 = env.set i (some s1) := by
          unfold putS at q1
          cases s1 with
          | al _ => cases q1
          | pen _ => cases q1
          | val d =>
            dsimp only at q1
            split at q1
            · cases q1
            · cases q1; rfl
            · cases q1
          | own d =>
            dsimp only at q1
            split at q1
            · cases q1
            · cases q1; rfl
            · cases q1
        subst e3
        by_cases hik : i = k
        · subst hik
          by_cases hl : i < env.length
          · rw [List.getElem?_set_self hl] at w1
            cases w1
            have hls : i < σ.length := by rw [← S.len]; exact hl
            rw [List.getElem?_set_self hls] at w3
            cases w3
            cases s1 with
            | own o1 => exact hd a o1 o2 rfl rfl rfl rfl
            | val d => exact w2
            | pen d => exact r1
            | al d => exact w2
          · rw [List.getElem?_eq_none (by simpa using hl)] at w1
            cases w1
        · rw [List.getElem?_set_ne hik] at w1 w3
          exact z4 k t w1 w2 w3
theorem ds_par (i j : Nat) {px py pt : Pos} {kt k2 : Nat} {pt2 : Pos} (hc : X.calm = true) (hN : X.N.Nodup) (ha : DE X W a fa) (hb : DE X W b fb) (hij : i ≠ j := by decide) (hi : X.N[i]? = some x := by rfl) (hj : X.N[j]? = some y := by rfl)
    (hx : X.env.scope.names.lookup x = some .local := by rfl) (hy : X.env.scope.names.lookup y = some .local := by rfl)
    (hw : swappedStores [.Tuple [.Name x px, .Name y py] kt pt] (.Tuple [a, b] k2 pt2) X.env = pure (some [x, y]) := by rfl)
    (hs : swapsWithSole [.Tuple [.Name x px, .Name y py] kt pt] (.Tuple [a, b] k2 pt2) pos.line X.env = pure false := by rfl) (he : starEach [a, b] X.env = (false, eval a X.env) :: starEach [b] X.env := by rfl) (he2 : starEach [b] X.env = (false, eval b X.env) :: starEach [] X.env := by rfl) :
    DS X W (.Assign [.Tuple [.Name x px, .Name y py] kt pt] (.Tuple [a, b] k2 pt2) pos) (parF i j fa fb) := by
  obtain ⟨ta, pa, sa⟩ := ha.ex
  obtain ⟨tb, pb, sb⟩ := hb.ex
  refine ⟨_, ps_par hc hN hi hj hij hx hy (pa_cons pa (pa_cons pb pa_nil he2) he) hw hs, fun G O P env σ F H D S hp => ?_⟩
  refine sa.stmt (k := fun s env => match unal s env with
    | some r => M.bind (fb r.2) fun q => match unal q.1 q.2 with
      | some t => parK i j r.1 t.1 t.2
      | none => none
    | none => none) S hp fun s env' v1 F' H' S' r hp' => ?_
  cases q : unal s env' with
  | none => rw [q] at hp'; exact hp'.elim
  | some pr =>
    rw [q] at hp'
    obtain ⟨s1, env1⟩ := pr
    dsimp only at hp'
    obtain ⟨F1, m1, S1, r1⟩ := unal_ok S' r q
    -- the second is reckoned with the first laid by
    cases s1 with
    | pen o => exact r1.elim
    | al k =>
      unfold unal at q
      cases s with
      | val d => cases q
      | own o => cases q
      | pen o => cases q
      | al k2 =>
        dsimp only at q
        split at q <;> cases q
    | val d =>
      have S2 : SR X.K F1 O P [(.val d, v1)] env1 σ F1 H' := S1.base.push (s := .val d) r1
      refine sb F1 O P _ env1 σ F1 H' _ S2 ?_
      cases q2 : fb env1 with
      | none => rw [q2] at hp'; exact hp'
      | some ot =>
        rw [q2] at hp'
        cases ot with
        | err c env3 => exact fun C F3 H3 hc S3 => hp' C σ F3 H3 hc (S3.rebase S1.gf)
        | ok p2 =>
          intro v2 F3 H3 S3 r3
          change PostS X.K X.mg W G O P D (match unal p2.1 p2.2 with | some t => parK i j (.val d) t.1 t.2 | none => none) at hp'
          cases q3 : unal p2.1 p2.2 with
          | none => rw [q3] at hp'; exact hp'.elim
          | some t =>
            rw [q3] at hp'
            obtain ⟨F4, m4, S4, r4⟩ := unal_ok S3.pop r3 q3
            have rd : Rp X.K F4 v1 d := Rp.mono m4 _ _ (S3.tmp (.val d, v1) (by simp))
            exact ⟨v1, v2, rfl, par_fin (S4.rebase S1.gf) (s1 := .val d) rd r4 (fun _ _ _ z => by cases z) hij hp'⟩
    | own o =>
      obtain ⟨a1, rfl, z1, z2, z3, z4⟩ := r1
      obtain ⟨u, hu, su⟩ := z3.soft
      have S2 : SR X.K F1 (upd O a1 u) P [] env1 σ F1 H' := S1.base.hide z1 z2 hu su.nt z4
      refine sb F1 (upd O a1 u) P _ env1 σ F1 H' _ S2 ?_
      cases q2 : fb env1 with
      | none => rw [q2] at hp'; exact hp'
      | some ot =>
        rw [q2] at hp'
        cases ot with
        | err c env3 => exact fun C F3 H3 hc S3 => hp' C σ F3 H3 hc ((S3.unhide z2 su.nt).1.rebase S1.gf)
        | ok p2 =>
          intro v2 F3 H3 S3 r3
          change PostS X.K X.mg W G O P D (match unal p2.1 p2.2 with | some t => parK i j (.own o) t.1 t.2 | none => none) at hp'
          cases q3 : unal p2.1 p2.2 with
          | none => rw [q3] at hp'; exact hp'.elim
          | some t =>
            rw [q3] at hp'
            obtain ⟨F4, m4, S4, r4⟩ := unal_ok S3 r3 q3
            obtain ⟨S5, y1, y2, y3⟩ := S4.unhide z2 su.nt
            have ra : RsOk X.K F4 H3 O t.2 σ (.own o) (.ref a1) := ⟨a1, rfl, y1, z2, z3.mono (S4.gf) (by rw [y2, hu]), y3⟩
            refine ⟨.ref a1, v2, rfl, par_fin (S5.rebase S1.gf) ra ?_ (fun b o1 o2 _ w2 w3 => ?_) hij hp'⟩
            · obtain ⟨s2, env4⟩ := t
              cases s2 with
              | val d => exact r4
              | pen d => exact r4
              | al d => exact r4
              | own o2 =>
                obtain ⟨b, rfl, x1, x2, x3, x4⟩ := r4
                have ne : b ≠ a1 := fun z => by rw [z, upd_same] at x2; cases x2
                rw [upd_ne ne] at x2
                exact ⟨b, rfl, x1, x2, x3, x4⟩
            · cases w3
              obtain ⟨s2, env4⟩ := t
              dsimp only at w2
              subst w2
              obtain ⟨b, x0, x1, x2, x3, x4⟩ := r4
              intro z
              rw [z] at x0
              cases x0
              rw [upd_same] at x2
              cases x2
end

/-! ### a def -/
def outsA : List Sl → EnvD → EnvD
  | [], _ => []
  | s :: ss, env => (match s with
    | .pen _ => (match env with
      | some (.pen o) :: _ => some (.pen o)
      | _ => none)
    | s => some s) :: outsA ss env.tail
def resOut (s : Sl) (env : EnvD) : Option Sl :=
  match s with
  | .val d => some (.val d)
  | .own o => some (.own o)
  | .al i => match env[i]? with
    | some (some (.own o)) => some (.own o)
    | some (some (.val d)) => some (.val d)
    | _ => none
  | .pen _ => none
def endF (args : List Sl) (r : M Flo) : M (Sl × EnvD) :=
  match r with
  | none => none
  | some (.err c env) => some (.err c (outsA args env))
  | some (.ok (.nx env)) => M.ok (.val .none, outsA args env)
  | some (.ok (.rt s env)) => fin (resOut s env) (outsA args env)
/-- a def of n parameters and l names -/
def bodyF (n l : Nat) (f : FS) : MF := fun args => if args.length = n then endF args (f (args.map some ++ List.replicate (l - n) none)) else none
theorem outsA_len : ∀ (args : List Sl) (env : EnvD), (outsA args env).length = args.length
  | [], _ => rfl
  | s :: ss, env => by simp [outsA, outsA_len ss env.tail]
theorem outsA_at : ∀ {args : List Sl} {env : EnvD} {i : Nat} {s : Sl}, (outsA args env)[i]? = some (some s) → args[i]? = some s ∧ (∀ o, s ≠ .pen o) ∨ ∃ o o0, s = .pen o ∧ env[i]? = some (some (.pen o)) ∧ args[i]? = some (.pen o0)
  | [], _, _, _, h => by simp [outsA] at h
  | t :: ss, env, 0, s, h => by
    simp only [outsA, List.getElem?_cons_zero, Option.some.injEq] at h
    cases t with
    | pen o0 =>
      cases env with
      | nil => cases h
      | cons e r =>
        cases e with
        | none => cases h
        | some e =>
          cases e with
          | pen o => cases h; exact .inr ⟨o, o0, rfl, rfl, rfl⟩
          | val o => cases h
          | own o => cases h
          | al o => cases h
    | val d => cases h; exact .inl ⟨rfl, fun o z => by cases z⟩
    | own d => cases h; exact .inl ⟨rfl, fun o z => by cases z⟩
    | al d => cases h; exact .inl ⟨rfl, fun o z => by cases z⟩
  | t :: ss, env, i + 1, s, h => by
    simp only [outsA, List.getElem?_cons_succ] at h
    rcases outsA_at h with ⟨h1, h2⟩ | ⟨o, o0, h1, h2, h3⟩
    · exact .inl ⟨by simpa using h1, h2⟩
    · refine .inr ⟨o, o0, h1, ?_, by simpa using h3⟩
      cases env with
      | nil => simp at h2
      | cons e r => simpa using h2
section
variable {K : PySem.W.Frag} {G O F F' H H' : Hp} {P : Nat → Option Addr} {args : List Sl} {vs : List V} {env : EnvD} {σ : L2.St}
/-- at the entry -/
theorem SR.entry {n l : Nat} (h : SR K F O P [] (args.map some) (vs.map some) F H) (hn : args.length = n) : SR K F O P [] (args.map some ++ List.replicate (l - n) none) (vs.map some ++ List.replicate (l - vs.length) none) F H := by
  have hl := h.len
  simp only [List.length_map] at hl
  have lo : ∀ (i : Nat) (s : Sl), (args.map some ++ List.replicate (l - n) none)[i]? = some (some s) → (args.map some)[i]? = some (some s) := fun i s q => by
    by_cases hi : i < args.length
    · rw [List.getElem?_append_left (by simpa using hi)] at q
      exact q
    · rw [List.getElem?_append_right (by simpa using hi), List.getElem?_replicate] at q
      split at q <;> cases q
  have hi' : ∀ (i : Nat) (s : Sl), (args.map some)[i]? = some (some s) → (vs.map some ++ List.replicate (l - vs.length) none)[i]? = (vs.map some)[i]? := fun i s q => by
    have := (List.getElem?_eq_some_iff.mp q).1
    rw [List.length_map] at this
    exact List.getElem?_append_left (by simpa [← hl] using this)
  refine ⟨h.gf, h.fh, h.oh, h.dj, by simp [← hl, hn], fun i s q => ?_, fun p hp => absurd hp (by simp), fun i j s t a q1 q2 w1 w2 r1 r2 => ?_, h.nt⟩
  · have q' := lo i s q
    obtain ⟨v, e1, e2⟩ := h.slot i s q'
    exact ⟨v, by rw [hi' i s q']; exact e1, e2⟩
  · rw [hi' i s (lo i s q1)] at r1
    rw [hi' j t (lo j t q2)] at r2
    exact h.sep i j s t a (lo i s q1) (lo j t q2) w1 w2 r1 r2
/-- at the end -/
theorem SR.exit (h : SR K F O P [] (args.map some) (vs.map some) F H) (ok : ∀ s ∈ args, argOk s) (h' : SR K F O P [] env σ F' H') : SR K F O P [] (outsA args env) (vs.map some) F' H' := by
  have hl := h.len
  simp only [List.length_map] at hl
  have at0 : ∀ (i : Nat) (s : Sl), args[i]? = some s → (args.map some)[i]? = some (some s) := fun i s q => by rw [List.getElem?_map, q]; rfl
  refine ⟨h'.gf, h'.fh, h'.oh, h'.dj, by rw [outsA_len, List.length_map, hl], fun i s q => ?_, fun p hp => absurd hp (by simp), fun i j s t a q1 q2 w1 w2 r1 r2 => ?_, h'.nt⟩
  · rcases outsA_at q with ⟨h1, h2⟩ | ⟨o, o0, rfl, h2, h3⟩
    · obtain ⟨v, e1, e2⟩ := h.slot i s (at0 i s h1)
      refine ⟨v, e1, ?_⟩
      have := ok s (List.mem_of_getElem? h1)
      cases s with
      | val d => exact Rp.mono h'.gf _ _ e2
      | pen o => exact absurd rfl (h2 o)
      | own o => exact this.elim
      | al o => exact this.elim
    · obtain ⟨v, e1, e2⟩ := h.slot i (.pen o0) (at0 i _ h3)
      obtain ⟨v', f1, f2⟩ := h'.slot i (.pen o) h2
      obtain ⟨a, rfl, pa, _⟩ := e2
      obtain ⟨a', rfl, pa', z1, z2, z3⟩ := f2
      rw [pa] at pa'
      cases pa'
      exact ⟨.ref a, e1, a, rfl, pa, z1, z2, z3⟩
  · have own0 : ∀ (i : Nat) (s : Sl), (outsA args env)[i]? = some (some s) → s.owns → ∃ s', (args.map some)[i]? = some (some s') ∧ s'.owns := fun i s q w => by
      rcases outsA_at q with ⟨h1, h2⟩ | ⟨o, o0, rfl, h2, h3⟩
      · exact ⟨s, at0 i s h1, w⟩
      · exact ⟨.pen o0, at0 i _ h3, trivial⟩
    obtain ⟨s', g1, g2⟩ := own0 i s q1 w1
    obtain ⟨t', g3, g4⟩ := own0 j t q2 w2
    exact h.sep i j s' t' a g1 g3 g2 g4 r1 r2
theorem rs_exit {s z : Sl} {v : V} (h : SR K F O P [] (args.map some) (vs.map some) F H) (ok : ∀ s ∈ args, argOk s) (h' : SR K F O P [] env σ F' H') (r : RsOk K F' H' O env σ s v) (e : resOut s env = some z) : RsOk K F' H' O (outsA args env) (vs.map some) z v := by
  have pens : ∀ (i : Nat) (t : Sl) (b : Addr), (outsA args env)[i]? = some (some t) → t.owns → (vs.map some)[i]? = some (some (V.ref b)) → ∃ o, env[i]? = some (some (.pen o)) ∧ σ[i]? = some (some (.ref b)) := fun i t b q w r => by
    rcases outsA_at q with ⟨h1, h2⟩ | ⟨o, o0, rfl, h2, h3⟩
    · have := ok t (List.mem_of_getElem? h1)
      cases t with
      | val d => exact w.elim
      | pen o => exact absurd rfl (h2 o)
      | own o => exact this.elim
      | al o => exact this.elim
    · obtain ⟨v, e1, e2⟩ := h.slot i (.pen o0) (by rw [List.getElem?_map, h3]; rfl)
      obtain ⟨v', f1, f2⟩ := h'.slot i (.pen o) h2
      obtain ⟨a, rfl, pa, _⟩ := e2
      obtain ⟨a', rfl, pa', _⟩ := f2
      rw [pa] at pa'
      cases pa'
      rw [e1] at r
      cases r
      exact ⟨o, h2, f1⟩
  cases s with
  | val d => cases e; exact r
  | pen o => cases e
  | own o =>
    cases e
    obtain ⟨a, rfl, z1, z2, z3, z4⟩ := r
    refine ⟨a, rfl, z1, z2, z3, fun i t q w rr => ?_⟩
    obtain ⟨o', g1, g2⟩ := pens i t a q w rr
    exact z4 i _ g1 trivial g2
  | al k =>
    have r1 : σ[k]? = some (some v) := r
    unfold resOut at e
    dsimp only at e
    split at e
    · rename_i o hk
      cases e
      obtain ⟨v', f1, f2⟩ := h'.slot k _ hk
      rw [r1] at f1
      cases f1
      obtain ⟨a, rfl, z1, z2, z3⟩ := f2
      refine ⟨a, rfl, z1, z2, z3, fun i t q w rr => ?_⟩
      obtain ⟨o', g1, g2⟩ := pens i t a q w rr
      have := h'.sep i k _ _ a g1 hk trivial trivial g2 r1
      subst this
      rw [g1] at hk
      cases hk
    · rename_i d hk
      cases e
      obtain ⟨v', f1, f2⟩ := h'.slot k _ hk
      rw [r1] at f1
      cases f1
      exact f2
    · cases e
end
section
variable {P : Program} {w : World} {K : PySem.W.Frag} {mg : Str → Option Value} {base : Heap}
theorem bodyF_len {n l : Nat} {f : FS} : ∀ args : List Sl, args.length ≠ n → bodyF n l f args = none := fun args h => by
  unfold bodyF
  rw [if_neg h]
/-- the code of the def at f -/
structure CdOf (K : PySem.W.Frag) (f : Addr) (cdv : Value) : Prop where
  ex : ∃ oc od fd osl, K.lookup f = some ⟨oc, od, .func fd, osl⟩ ∧ fd.code = cdv
/-- THE RULE for a def of the text -/
theorem def_ok {gd : Bool} {x qual : Str} {st : Stmt} {f : Addr} {fd : FuncData} {N ps : List Str} {k : Nat} {fS : FS} (Fu : Fun K x qual st f fd) (S : FnScope N ps (defScope st))
    (hb : ∀ (cdv : Value) (A : Around) (outer : List Env) (s : Shared) (H : Hp) (E : XK), RG gd k (A.deeper (envOfC qual (defScope st) s.heap.objs.size f cdv)) → CdOf K f cdv →
      DSs (cxOf (L2.CX P w) P w K mg base N qual (defScope st) f cdv A outer s H E) (WD E) (defBody st) fS) : FnG gd P w K mg base (L2.CX P w) (k + 1) f fd ps (spD K mg (bodyF ps.length N.length fS)) := by
  obtain ⟨oc, od, kV, doc, pm, an, cdv, ct, osl, rfl, lk, hcd⟩ := Fu.ex
  refine ⟨fun vs H Q E h => spD_len bodyF_len h, fun A outer s H args us vs Q E hr e0 hbd rv h => ?_⟩
  refine LamX.run_ofS lk hcd S hr.rm e0 hbd rv (spD_len bodyF_len h) fun hr' => ?_
  have hlen : vs.length = ps.length := spD_len bodyF_len h
  obtain ⟨t, p, sd⟩ := (hb cdv A outer s H E (hr.deeper _) ⟨_, _, _, _, lk, rfl⟩).ex
  obtain ⟨args, Pn, F, O, ok, S0, hp⟩ := h
  refine ⟨t, p, ?_⟩
  have hl := S0.len
  simp only [List.length_map] at hl
  have ha : args.length = ps.length := by omega
  have S1 := S0.entry (n := ps.length) (l := N.length) ha
  refine sd F O Pn _ _ F H _ S1 ?_
  unfold bodyF at hp
  rw [if_pos ha] at hp
  cases q : fS (args.map some ++ List.replicate (N.length - ps.length) none) with
  | none => rw [q] at hp; exact hp
  | some o =>
    rw [q] at hp
    cases o with
    | err c env => exact fun C σ' F' H' hc S' => hp C F' H' hc (S0.exit ok S')
    | ok r =>
      cases r with
      | nx env => exact fun σ' F' H' S' => hp .non F' H' (S0.exit ok S') .non
      | rt s1 env =>
        intro v σ' F' H' S' r
        obtain ⟨z, e0, q2⟩ := fin_ok hp
        exact q2 v F' H' (S0.exit ok S') (rs_exit S0 ok S' r e0)
end
end DL
set_option Elab.async false
set_option linter.all false
set_option maxRecDepth 100000
set_option maxHeartbeats 4000000
namespace DL
open PySem PySem.Spec PyProof.Rows L2

/-! ### walks over lists and tuples, alike -/
inductive Src where
  | l (a : Addr) | t (a : Addr)
def Src.ad : Src → Addr
  | .l a => a
  | .t a => a
def SqS (K : PySem.W.Frag) (H : Hp) (s : Src) (xs : List V) : Prop :=
  match s with
  | .l a => SqL K H a xs
  | .t a => SqT K H a xs
def itS (h : Heap) (it : Addr) (i : Nat) (s : Src) : Prop :=
  match s with
  | .l a => h.IsListIter it a i
  | .t a => h.IsTupleIter it a i
def atS (h : Heap) (s : Src) (its : Array Value) : Prop :=
  match s with
  | .l a => h.IsList a its
  | .t a => h.IsTuple a its
def itO (s : Src) : Obj :=
  match s with
  | .l a => { cls := .type "list_iterator", data := .fields #[.ref a, .int 0 0] }
  | .t a => { cls := .type "tuple_iterator", data := .fields #[.ref a, .int 0 0] }
theorem begS (s : Src) (its : Array Value) : Begins (.ref s.ad) (itO s) fun h => atS h s its := by
  cases s with
  | l a => exact begins_list a its
  | t a => exact begins_tuple a its
theorem drawS {prog : Program} {w : World} {A : Around} (hh : A.handled = none) (it : Addr) (s : Src) (hne : s.ad ≠ it) (its : Array Value) :
    Draws prog w A it [it, s.ad] its.size (fun i v => its[i]? = some v) (fun i h => itS h it i s ∧ atS h s its) := by
  cases s with
  | l a => exact Draws.list hh it a hne its
  | t a => exact Draws.tuple hh it a hne its
theorem itS_first {h : Heap} {it : Addr} {s : Src} (e : h.get? it = some (itO s)) : itS h it 0 s := by
  cases s with
  | l a => exact ⟨_, e, rfl, rfl⟩
  | t a => exact ⟨_, e, rfl, rfl⟩
theorem itS_obj {h : Heap} {it : Addr} {i : Nat} {s : Src} (e : itS h it i s) : ∃ o, h.get? it = some o ∧ ∀ v, o.data ≠ .cell v := by
  cases s with
  | l a => obtain ⟨o, h1, _, h2⟩ := e; exact ⟨o, h1, fun v q => by rw [h2] at q; cases q⟩
  | t a => obtain ⟨o, h1, _, h2⟩ := e; exact ⟨o, h1, fun v q => by rw [h2] at q; cases q⟩
theorem itS_at {h h' : Heap} {it : Addr} {i : Nat} {s : Src} (e : itS h it i s) (k : ∀ o, h.get? it = some o → h'.get? it = some o) : itS h' it i s := by
  cases s with
  | l a => exact Heap.IsListIter.at e k
  | t a => exact Heap.IsTupleIter.at e k
section
variable {X : Cx} {pins : List (Addr × Obj)} {σ : L2.St} {H : Hp} {s : Shared} {src : Src} {xs ys : List V}
theorem Inv.srcAt (I : Inv X pins σ H s) (h : SqS X.K H src xs) : ∃ its : List Value, Vals xs its ∧ atS s.heap src its.toArray ∧ src.ad < s.heap.objs.size := by
  cases src with
  | l a =>
    obtain ⟨its, r, p, _⟩ := I.list h
    exact ⟨its, r, p.isList, p.lt⟩
  | t a =>
    obtain ⟨its, r, p, _⟩ := I.tuple h
    exact ⟨its, r, p, by obtain ⟨o, ho, _⟩ := p; exact Heap.lt_size ho⟩
theorem Inv.src_inj (I : Inv X pins σ H s) (h : SqS X.K H src xs) (h' : SqS X.K H src ys) : xs = ys := by
  cases src with
  | l a => exact I.list_inj h h'
  | t a => exact I.tuple_inj h h'
end
theorem same_sqS {K : PySem.W.Frag} {H H' : Hp} {s : Src} {xs : List V} (e : Same H H') (h : SqS K H s xs) : SqS K H' s xs := by
  cases s with
  | l a => exact Same.seq e h
  | t a => exact same_sqT e h
theorem Sh.src {K : PySem.W.Frag} {F H : Hp} {v : V} {d : PyData} {ds : List PyData} (e : Same F H) (h : Sh K F H v d) (q : seqOf d = some ds) : ∃ src xs, v = .ref (Src.ad src) ∧ SqS K H src xs ∧ RpL K F xs ds := by
  rcases seqOf_ok q h with h | h
  · obtain ⟨a, xs, rfl, h1, h2⟩ := h
    exact ⟨.l a, xs, rfl, .inl h1, h2⟩
  · obtain ⟨a, xs, rfl, h1, h2⟩ := h.tup e
    exact ⟨.t a, xs, rfl, h1, h2⟩

/-! ### one source -/
def Its1 (K : PySem.W.Frag) (s : Src) : It :=
  match s with
  | .l a => Itl K a
  | .t a => Itt K a
def iSeq (K : PySem.W.Frag) (tl : TE) : TI := fun σ H R => tl σ H fun x H1 => ∃ src xs, x = .ref (Src.ad src) ∧ SqS K H1 src xs ∧ R (Its1 K src) H1
theorem pi_seq {X : Cx} {tg l : Expr} {tl : TE} (hl : PE X l tl) : PI X tg l (iSeq X.K tl) := by
  refine ⟨fun pins s σ H R I h => ?_⟩
  refine L2.thn (hl.run pins s σ H _ I h) fun v s1 ⟨x, H1, I1, r1, q1⟩ => ?_
  obtain ⟨src, xs, ex, hq, q⟩ := q1
  subst ex
  cases r1
  have fpk : ∀ b ∈ [s1.heap.objs.size], FpOk X pins H1 b := fun b hb => by
    have eb : b = s1.heap.objs.size := by simpa using hb
    subst eb
    exact I1.fpOk (Nat.le_refl _) (I1.hok.fresh (Nat.le_refl _))
  have Ik := fun (o : Obj) => I1.kept (h' := s1.heap.push o) (t' := s1.toks) fun b u z => Heap.get?_push_of_some _ z
  cases src with
  | l a =>
    obtain ⟨its, rv, p, _⟩ := I1.list hq
    exact wpAny_pyIter_list p.isList ⟨s1.heap.objs.size, [s1.heap.objs.size], _, _, H1, rfl, Ik _, turn_list a _, ⟨_, Heap.get?_push_size _ rfl, rfl, rfl⟩, fpk, q⟩
  | t a =>
    obtain ⟨its, rv, p, _⟩ := I1.tuple hq
    exact wpAny_pyIter_tuple (show s1.heap.IsTuple a its.toArray from p) ⟨s1.heap.objs.size, [s1.heap.objs.size], _, _, H1, rfl, Ik _, turn_tuple a _, ⟨_, Heap.get?_push_size _ rfl, rfl, rfl⟩, fpk, q⟩

/-! ### zip of two, enumerate -/
def ItzS (K : PySem.W.Frag) (a b : Src) : It :=
  ⟨fun i H => ∃ (xs ys : List V) (x y : V), SqS K H a xs ∧ SqS K H b ys ∧ xs[i]? = some x ∧ ys[i]? = some y,
    fun i H v H' => ∃ T x y, v = .ref T ∧ H T = none ∧ H' = upd H T (.tup [x, y]) ∧ (∀ xs, SqS K H a xs → xs[i]? = some x) ∧ ∀ ys, SqS K H b ys → ys[i]? = some y,
    fun i H => ∃ xs ys : List V, SqS K H a xs ∧ SqS K H b ys ∧ i = min xs.length ys.length⟩
theorem turn_zipS {P : Program} {w : World} {K : PySem.W.Frag} {elts : List Expr} {kk : Nat} {tpos : Pos} {a b : Src} {z TI TO i1 i2 : Addr} (D : ZipSep2 z TI TO i1 i2 [i1, a.ad] [i2, b.ad]) (n1 : a.ad ≠ i1) (n2 : b.ad ≠ i2) :
    Turn P w K (.Tuple elts kk tpos) (ItzS K a b) [z, TI, TO, i1, i2] z (fun i h => IsZip h z TI TO .none ∧ IsTupOf2 h TI (.ref i1) (.ref i2) ∧ (∃ x y, IsTupOf2 h TO x y) ∧ itS h i1 i a ∧ itS h i2 i b) where
  mem := by simp
  obj := fun i h st c hc => by
    obtain ⟨hz, hTI, ⟨x, y, hTO⟩, h1, h2⟩ := st
    simp only [List.mem_cons, List.not_mem_nil, or_false] at hc
    rcases hc with rfl | rfl | rfl | rfl | rfl
    · exact ⟨_, hz, fun v q => by cases q⟩
    · exact ⟨_, hTI, fun v q => by cases q⟩
    · exact ⟨_, hTO, fun v q => by cases q⟩
    · exact itS_obj h1
    · exact itS_obj h2
  keep := fun i h h' st k => by
    obtain ⟨hz, hTI, ⟨x, y, hTO⟩, h1, h2⟩ := st
    exact ⟨k z (by simp) _ hz, k TI (by simp) _ hTI, ⟨x, y, k TO (by simp) _ hTO⟩, itS_at h1 fun o q => k i1 (by simp) o q, itS_at h2 fun o q => k i2 (by simp) o q⟩
  item := by
    intro X hP hw hK hc i pins s σ H E I hf st hg
    subst hP hw hK
    obtain ⟨hz, hTI, ⟨x0, y0, hTO⟩, h1, h2⟩ := st
    obtain ⟨xs, ys, x, y, hqx, hqy, hx, hy⟩ := hg
    obtain ⟨its, rv, p, la⟩ := DL.Inv.srcAt I hqx
    obtain ⟨its2, rv2, p2, lb⟩ := DL.Inv.srcAt I hqy
    obtain ⟨u, hu, ru⟩ := rv.get hx
    obtain ⟨u2, hu2, ru2⟩ := rv2.get hy
    have hzl : z < s.heap.objs.size := Heap.lt_size hz
    have hh : X.A.in1.handled = none := I.ok.hd hc
    refine wpAny_pyNext_zipD2_item D (drawS hh i1 a n1 its.toArray) (drawS hh i2 b n2 its2.toArray) hz hTI hTO ⟨h1, p⟩ ⟨h2, p2⟩ (by simpa using (List.getElem?_eq_some_iff.mp hu).1) (by simpa using (List.getElem?_eq_some_iff.mp hu2).1) fun x1 x2 h' tk ex1 ex2 z' TO' s1' s2' hT hsz hk => ?_
    have ex1' : x1 = u := by
      rw [show its.toArray[i]? = some u by simpa using hu] at ex1
      exact (Option.some.inj ex1).symm
    have ex2' : x2 = u2 := by
      rw [show its2.toArray[i]? = some u2 by simpa using hu2] at ex2
      exact (Option.some.inj ex2).symm
    subst ex1' ex2'
    refine ⟨_, rfl, wpAny_letOwnedTupleGo_zip (s := { s with heap := h', toks := tk }) z' fun h'' z'' sb => ?_⟩
    have zs : ∀ c, c ∈ [z, TI, TO, i1, i2] → c < s.heap.objs.size := fun c hcm => by
      simp only [List.mem_cons, List.not_mem_nil, or_false] at hcm
      rcases hcm with rfl | rfl | rfl | rfl | rfl
      · exact hzl
      · exact Heap.lt_size hTI
      · exact Heap.lt_size hTO
      · obtain ⟨_, e1, _⟩ := itS_obj h1; exact Heap.lt_size e1
      · obtain ⟨_, e2, _⟩ := itS_obj h2; exact Heap.lt_size e2
    have hT2 : h''.get? s.heap.objs.size = some { cls := .type "tuple", data := .seq #[x1, x2] } := (sb.2 _ (Nat.ne_of_gt hzl)).trans hT
    have nw : ObjOk X.prog X.w (upd H s.heap.objs.size (.tup [x, y])) h'' s.heap.objs.size (.tup [x, y]) :=
      ⟨by show 2 ≤ sizeLine; decide, [x1, x2], .cons ru (.cons ru2 .nil), ⟨_, hT2, rfl, _, rfl⟩⟩
    have I1 : Inv X pins σ (upd H s.heap.objs.size (.tup [x, y])) { s with heap := h'', toks := tk } :=
      I.turnedNew (t' := tk) (ch := [z, TI, TO, i1, i2]) (fun c o hb q => by
        simp only [List.mem_cons, List.not_mem_nil, or_false, not_or] at hb
        exact (sb.2 c hb.1).trans (hk c o hb.1 hb.2.2.1 hb.2.2.2.1 hb.2.2.2.2 q)) hf (Nat.le_refl _) nw
    refine ⟨.ref s.heap.objs.size, _, I1, rfl, ⟨_, x, y, rfl, I.hok.fresh (Nat.le_refl _), rfl, fun l hl => by rw [DL.Inv.src_inj I hl hqx]; exact hx, fun l hl => by rw [DL.Inv.src_inj I hl hqy]; exact hy⟩, ⟨z'', ?_, ⟨x1, x2, ?_⟩, ?_, ?_⟩, fun c hcm => ?_⟩
    · exact (sb.2 _ D.TIz).trans (hk _ _ D.TIz D.TITO D.TIi1 D.TIi2 hTI)
    · exact (sb.2 _ D.TOz).trans TO'
    · exact itS_at s1'.1 fun o q => (sb.2 _ (Ne.symm D.zi1)).trans q
    · exact itS_at s2'.1 fun o q => (sb.2 _ (Ne.symm D.zi2)).trans q
    · rw [upd_ne (Nat.ne_of_lt (zs c hcm))]
      exact (hf c hcm).1
  done := by
    intro X hP hw hK hc i pins s σ H E I hf st hg
    subst hP hw hK
    obtain ⟨hz, hTI, ⟨x0, y0, hTO⟩, h1, h2⟩ := st
    obtain ⟨xs, ys, hqx, hqy, hend⟩ := hg
    obtain ⟨its, rv, p, la⟩ := DL.Inv.srcAt I hqx
    obtain ⟨its2, rv2, p2, lb⟩ := DL.Inv.srcAt I hqy
    have l1 := rv.length
    have l2 := rv2.length
    have hh : X.A.in1.handled = none := I.ok.hd hc
    exact wpAny_pyNext_zipD2_end D (drawS hh i1 a n1 its.toArray) (drawS hh i2 b n2 its2.toArray) hz hTI hTO ⟨h1, p⟩ ⟨h2, p2⟩ (by simp; omega) (by simp; omega) (by simp; omega) fun h' tk hk =>
      ⟨rfl, I.turnedL (t' := tk) (ch := [z, TI, TO, i1, i2]) (fun c o hb q => by
        simp only [List.mem_cons, List.not_mem_nil, or_false, not_or] at hb
        exact hk c o hb.1 hb.2.2.1 hb.2.2.2.1 hb.2.2.2.2 q) hf⟩
  self := fun A i s Q E st h => wpAny_pyIter_zip st.1 h
def iZipS (K : PySem.W.Frag) (ta : TA) : TI := fun σ H R => ta σ H fun vs H1 => ∃ a b xs ys, vs = [.ref (Src.ad a), .ref (Src.ad b)] ∧ SqS K H1 a xs ∧ SqS K H1 b ys ∧ R (ItzS K a b) H1
theorem pi_zipS {X : Cx} {e e2 : Expr} {ta : TA} {p pos tpos : Pos} {elts : List Expr} {kk : Nat} (hg : Gl X "zip") (hm : X.mg "zip" = none) (ha : PA X [e, e2] ta)
    (hs : starEach [e, e2] X.env = (false, eval e X.env) :: starEach [e2] X.env := by rfl) (hpl : (backTo pos (starEach [e2] X.env)).any (·.1) = false := by rfl) :
    PI X (.Tuple elts kk tpos) (.Call (.Name "zip" p) [e, e2] [] pos) (iZipS X.K ta) := by
  refine ⟨fun pins s σ H R I h => ?_⟩
  refine Call_ (ld_blt I hg hm PyProof.Rows.boot_zip (PyProof.Rows.callWith_type1 (L2.thn (ha.run pos pins s σ H _ I h) fun us s1 ⟨vs, H1, I1, r1, q1⟩ => ?_) hs hpl))
  obtain ⟨a, b, xs, ys, ex, hqx, hqy, q⟩ := q1
  subst ex
  obtain ⟨w1, w2, rfl, r2, r3⟩ := vals2 r1
  cases r2
  cases r3
  obtain ⟨its, rv, p1, la⟩ := DL.Inv.srcAt I1 hqx
  obtain ⟨its2, rv2, p2, lb⟩ := DL.Inv.srcAt I1 hqy
  refine zip_begins2 (begS a its.toArray) (begS b its2.toArray) p1 p2 fun h' hz hTI hTO h1 h2 hsz hk => wpAny_pyIter_zip hz ?_
  have I2 : Inv X pins σ H1 { s1 with heap := h' } := I1.kept (t' := s1.toks) hk
  refine ⟨s1.heap.objs.size + 4, [s1.heap.objs.size + 4, s1.heap.objs.size + 2, s1.heap.objs.size + 3, s1.heap.objs.size, s1.heap.objs.size + 1], _, _, H1, rfl, I2,
    turn_zipS (zip_sep2 (fun b hb => by simp at hb; subst hb; exact la) (fun b hb => by simp at hb; subst hb; exact lb)) (Nat.ne_of_lt la) (Nat.ne_of_lt (Nat.lt_succ_of_lt lb)), ⟨hz, hTI, ⟨_, _, hTO⟩, itS_first h1, itS_first h2⟩, fun c hcm => ?_, q⟩
  have hle : s1.heap.objs.size ≤ c := by
    simp only [List.mem_cons, List.not_mem_nil, or_false] at hcm
    rcases hcm with z | z | z | z | z
    · rw [z]; exact Nat.le_add_right _ _
    · rw [z]; exact Nat.le_add_right _ _
    · rw [z]; exact Nat.le_add_right _ _
    · rw [z]; exact Nat.le_refl _
    · rw [z]; exact Nat.le_add_right _ _
  exact I1.fpOk hle (I1.hok.fresh hle)
def IteS (K : PySem.W.Frag) (a : Src) : It :=
  ⟨fun i H => ∃ (xs : List V) (x : V), SqS K H a xs ∧ xs[i]? = some x, fun i H v H' => ∃ T x, v = .ref T ∧ H T = none ∧ H' = upd H T (.tup [.int (i : Nat), x]) ∧ ∀ xs, SqS K H a xs → xs[i]? = some x, fun i H => ∃ xs : List V, SqS K H a xs ∧ i = xs.length⟩
theorem turn_enumS {P : Program} {w : World} {K : PySem.W.Frag} {elts : List Expr} {kk : Nat} {tpos : Pos} {a : Src} {e it : Addr} (n1 : a.ad ≠ it) (n2 : e ≠ it) (n3 : e ≠ a.ad) :
    Turn P w K (.Tuple elts kk tpos) (IteS K a) [e, it] e (fun i h => (∃ old, IsEnum h e it ((i : Nat) : Int) old) ∧ itS h it i a) where
  mem := by simp
  obj := fun i h st b hb => by
    obtain ⟨⟨old, he⟩, hi⟩ := st
    simp only [List.mem_cons, List.not_mem_nil, or_false] at hb
    rcases hb with rfl | rfl
    · exact ⟨_, he, fun v q => by cases q⟩
    · exact itS_obj hi
  keep := fun i h h' st k => by
    obtain ⟨⟨old, he⟩, hi⟩ := st
    exact ⟨⟨old, k e (by simp) _ he⟩, itS_at hi fun o q => k it (by simp) o q⟩
  item := by
    intro X hP hw hK hc i pins s σ H E I hf st hg
    subst hP hw hK
    obtain ⟨⟨old, he⟩, hit⟩ := st
    obtain ⟨xs, x, hq, hx⟩ := hg
    obtain ⟨its, rv, p, la⟩ := DL.Inv.srcAt I hq
    obtain ⟨u, hu, ru⟩ := rv.get hx
    have hel : e < s.heap.objs.size := Heap.lt_size he
    have hil : it < s.heap.objs.size := by obtain ⟨_, q, _⟩ := itS_obj hit; exact Heap.lt_size q
    have hh : X.A.in1.handled = none := I.ok.hd hc
    refine wpAny_pyNext_enum_itemD (drawS hh it a n1 its.toArray) he ⟨hit, p⟩ (by simpa using (List.getElem?_eq_some_iff.mp hu).1) n2 (by simp [n2, n3]) fun x1 h' tk ex1 ho s1' hT hsz hk => ?_
    have ex1' : x1 = u := by
      rw [show its.toArray[i]? = some u by simpa using hu] at ex1
      exact (Option.some.inj ex1).symm
    subst ex1'
    refine ⟨_, rfl, wpAny_letOwnedTupleGo_enum (s := { s with heap := h', toks := tk + 1 }) ho fun h'' he' sb => ?_⟩
    have hT2 : h''.get? s.heap.objs.size = some { cls := .type "tuple", data := .seq #[.int i tk, x1] } := (sb.2 _ (Nat.ne_of_gt hel)).trans hT
    have nw : ObjOk X.prog X.w (upd H s.heap.objs.size (.tup [.int (i : Nat), x])) h'' s.heap.objs.size (.tup [.int (i : Nat), x]) :=
      ⟨by show 2 ≤ sizeLine; decide, [.int i tk, x1], .cons ⟨_, rfl⟩ (.cons ru .nil), ⟨_, hT2, rfl, _, rfl⟩⟩
    have I1 : Inv X pins σ (upd H s.heap.objs.size (.tup [.int (i : Nat), x])) { s with heap := h'', toks := tk + 1 } :=
      I.turnedNew (t' := tk + 1) (ch := [e, it]) (fun b ob hb q => by
        simp only [List.mem_cons, List.not_mem_nil, or_false, not_or] at hb
        exact (sb.2 b hb.1).trans (hk b ob hb.1 hb.2 q)) hf (Nat.le_refl _) nw
    refine ⟨.ref s.heap.objs.size, _, I1, rfl, ⟨_, x, rfl, I.hok.fresh (Nat.le_refl _), rfl, fun l hl => by rw [DL.Inv.src_inj I hl hq]; exact hx⟩, ⟨⟨x1, ?_⟩, itS_at s1'.1 fun o q => (sb.2 it (Ne.symm n2)).trans q⟩, fun b hb => ?_⟩
    · have e1 : ((i + 1 : Nat) : Int) = (i : Int) + 1 := by omega
      rw [e1]; exact he'
    · have hb' : b < s.heap.objs.size := by
        simp only [List.mem_cons, List.not_mem_nil, or_false] at hb
        rcases hb with z | z
        · rw [z]; exact hel
        · rw [z]; exact hil
      rw [upd_ne (Nat.ne_of_lt hb')]
      exact (hf b hb).1
  done := by
    intro X hP hw hK hc i pins s σ H E I hf st hg
    subst hP hw hK
    obtain ⟨⟨old, he⟩, hit⟩ := st
    obtain ⟨xs, hq, hx⟩ := hg
    obtain ⟨its, rv, p, la⟩ := DL.Inv.srcAt I hq
    obtain ⟨f0, f1, f2, f3, f4, f5⟩ := hf it (by simp)
    have hl := rv.length
    have hh : X.A.in1.handled = none := I.ok.hd hc
    have ei : i = its.toArray.size := by simp; omega
    exact wpAny_pyNext_enum_endD (drawS hh it a n1 its.toArray) he ⟨by rw [← ei]; exact hit, p⟩ fun h' eb => ⟨rfl, I.turned (t' := s.toks) (fun b o hb q => eb b o hb q) f0 f1 f3 f4 f5⟩
  self := fun A i s Q E st h => by
    obtain ⟨⟨_, he⟩, _⟩ := st
    exact wpAny_pyIter_enum he h

/-! ### enumerate(v), v any source -/
set_option maxHeartbeats 4000000 in
theorem meets_enumB {v : Value} {o : Obj} {B : Heap → Prop} (bg : Begins v o B) :
    Meets (Builtin.«enumerate.__new__» ⟨[.type "enumerate", v], []⟩) (fun _ R s => B s.heap ∧
      R (.ok (.ret (.ref (s.heap.push o).objs.size))) { s with heap := (s.heap.push o).push { cls := .type "enumerate", data := .fields #[.none, .bool false, .ref s.heap.objs.size, rawInt 0, .none, .none] } }) :=
  .of_wp fun prog w A R s z => by
    obtain ⟨hp, g, d, tk, os⟩ := s
    obtain ⟨z1, z2⟩ := z
    have hsub := sub_enumerate
    have road : ∀ {A' : Around} {E : Value → Shared → Prop} {Q : Value → Shared → Prop}, Q (.ref hp.objs.size) ⟨hp.push o, g, d, tk, os⟩ → wpAny (model prog w) A' (pyIter v) Q E ⟨hp, g, d, tk, os⟩ :=
      fun q => bg.iter prog w _ _ ⟨hp, g, d, tk, os⟩ _ z1 q
    wp_walk using road
    refine wpAny_stack_any fun st => wpAny_pure ?_
    split
    · rename_i c _ _ _ _ _
      cases (c == Value.type "enumerate")
      · wp_walk using road
        exact ⟨_, rfl, z2⟩
      · wp_walk using road
        exact ⟨_, rfl, z2⟩
    · wp_walk using road
      exact ⟨_, rfl, z2⟩
theorem call_enumB {prog : Program} {w : World} {A : Around} {E : Value → Shared → Prop} {s : Shared} {v : Value} {o : Obj} {B : Heap → Prop} {Q : Value → Shared → Prop} (bg : Begins v o B) (h1 : B s.heap)
    (h : ∀ h', IsEnum h' (s.heap.objs.size + 1) s.heap.objs.size 0 .none → h'.get? s.heap.objs.size = some o → (∀ b u, s.heap.get? b = some u → h'.get? b = some u) → Q (.ref (s.heap.objs.size + 1)) { s with heap := h' }) :
    wpAny (model prog w) A (call (.type "enumerate") [v]) Q E s := by
  refine callType_new F.called_enumerate (by decide) (F.typeCall_enumerate_1 _) (F.newCall_enumerate_1 _) (fun obj => F.args_object_init_2 obj _) F.entry_enumerate_new (meets_enumB bg) ⟨h1, ?_⟩
  have hz : (s.heap.push o).objs.size = s.heap.objs.size + 1 := Heap.size_push ..
  show _ ∧ _
  rw [hz]
  have he : ((s.heap.push o).push { cls := .type "enumerate", data := .fields #[.none, .bool false, .ref s.heap.objs.size, rawInt 0, .none, .none] }).get? (s.heap.objs.size + 1) = some { cls := .type "enumerate", data := .fields #[.none, .bool false, .ref s.heap.objs.size, rawInt 0, .none, .none] } := by
    rw [← hz]
    exact Heap.get?_push_size _ rfl
  exact ⟨⟨_, he, rfl⟩, h _ he (Heap.get?_push_of_some _ (Heap.get?_push_size _ bg.free)) fun b u x => Heap.get?_push_of_some _ (Heap.get?_push_of_some _ x)⟩
def iEnumS (K : PySem.W.Frag) (ta : TA) : TI := fun σ H R => ta σ H fun vs H1 => ∃ a xs, vs = [.ref (Src.ad a)] ∧ SqS K H1 a xs ∧ R (IteS K a) H1
theorem pi_enumS {X : Cx} {e : Expr} {ta : TA} {p pos tpos : Pos} {elts : List Expr} {kk : Nat} (hg : Gl X "enumerate") (hm : X.mg "enumerate" = none) (ha : PA X [e] ta) (hs : starEach [e] X.env = [(false, eval e X.env)] := by rfl) :
    PI X (.Tuple elts kk tpos) (.Call (.Name "enumerate" p) [e] [] pos) (iEnumS X.K ta) := by
  refine ⟨fun pins s σ H R I h => ?_⟩
  refine Call_ (ld_blt I hg hm boot_enumerate (PyProof.Rows.callWith_type1 (L2.thn (ha.run pos pins s σ H _ I h) fun us s1 ⟨vs, H1, I1, r1, q1⟩ => ?_) hs rfl))
  obtain ⟨a, xs, ex, hqx, q⟩ := q1
  subst ex
  obtain ⟨w1, rfl, r2⟩ := vals1 r1
  cases r2
  obtain ⟨its, rv, p1, la⟩ := DL.Inv.srcAt I1 hqx
  refine call_enumB (begS a its.toArray) p1 fun h' he h1 hk => wpAny_pyIter_enum he ?_
  have I2 : Inv X pins σ H1 { s1 with heap := h' } := I1.kept (t' := s1.toks) hk
  refine ⟨s1.heap.objs.size + 1, [s1.heap.objs.size + 1, s1.heap.objs.size], _, _, H1, rfl, I2, turn_enumS (Nat.ne_of_lt la) (Nat.succ_ne_self _) (Nat.ne_of_gt (Nat.lt_succ_of_lt la)), ⟨⟨.none, he⟩, itS_first h1⟩, fun c hcm => ?_, q⟩
  have hle : s1.heap.objs.size ≤ c := by
    simp only [List.mem_cons, List.not_mem_nil, or_false] at hcm
    rcases hcm with z | z
    · rw [z]; exact Nat.le_add_right _ _
    · rw [z]; exact Nat.le_refl _
  exact I1.fpOk hle (I1.hok.fresh hle)
end DL
set_option Elab.async false
set_option linter.all false
set_option maxRecDepth 100000
set_option maxHeartbeats 4000000
namespace DL
open PySem PySem.Spec PyProof.Rows L2

/-! ### what is walked, by deep values -/
def ItY (K : PySem.W.Frag) (F : Hp) (ds : List PyData) : Nat → Hp → V → Hp → Prop := fun i H x H' =>
  ∃ d, ds[i]? = some d ∧ ((H' = H ∧ Rp K F x d) ∨ ∃ T xs es, x = .ref T ∧ H T = none ∧ H' = upd H T (.tup xs) ∧ d = .tuple es ∧ RpL K F xs es)
def ItOk (K : PySem.W.Frag) (J : It) (F : Hp) (ds : List PyData) : Prop := Walk J ds.length (fun H => Same F H) (ItY K F ds)
abbrev FI := EnvD → M (List PyData × EnvD)
def PostI (K : PySem.W.Frag) (mg : Str → Option Value) (W : WX) (G O : Hp) (P : Nat → Option Addr) (ts : List (Sl × V)) (σ : L2.St) (R : It → Hp → Prop) : M (List PyData × EnvD) → Prop
  | none => False
  | some (.ok (ds, env')) => ∀ J F' H', SR K G O P ts env' σ F' H' → ItOk K J F' ds → R J H'
  | some (.err c env') => PErr K mg W G O P σ c env'
def SndI (K : PySem.W.Frag) (mg : Str → Option Value) (W : WX) (wi : TI) (f : FI) : Prop :=
  ∀ G O P ts env σ F H R, SR K G O P ts env σ F H → PostI K mg W G O P ts σ R (f env) → wi σ H R
structure DI (X : Cx) (W : WX) (tg iter : Expr) (f : FI) : Prop where
  ex : ∃ wi, PI X tg iter wi ∧ SndI X.K X.mg W wi f

/-! ### forms -/
def seqI (fa : FE) : FI := fun env => M.bind (fa env) fun p => match frz1 (fz p.1) p.2 with
  | some q => match seqOf q.1 with
    | some ds => M.ok (ds, q.2)
    | none => none
  | none => none
def rngL (lo : Int) : Nat → List PyData
  | 0 => []
  | n + 1 => .int lo :: rngL (lo + 1) n
def smallI (i : Int) : Bool := decide (-1000000 ≤ i) && decide (i ≤ 1000000)
def rng1I (ds : List PyData) : Option (List PyData) :=
  match ds with
  | [.int j] => if smallI j = true then some (rngL 0 j.toNat) else none
  | _ => none
def rng2I (ds : List PyData) : Option (List PyData) :=
  match ds with
  | [.int i, .int j] => if smallI i = true ∧ smallI j = true then some (rngL i (j - i).toNat) else none
  | _ => none
def pairL : List PyData → List PyData → List PyData
  | a :: as, b :: bs => .tuple [a, b] :: pairL as bs
  | _, _ => []
def numL (n : Nat) : List PyData → List PyData
  | [] => []
  | a :: as => .tuple [.int (n : Nat), a] :: numL (n + 1) as
def argI (g : List PyData → Option (List PyData)) (f : FA) : FI := fun env => M.bind (fzA f env) fun p => match g p.1 with
  | some ds => M.ok (ds, p.2)
  | none => none
def zipI (ds : List PyData) : Option (List PyData) :=
  match ds with
  | [a, b] => match seqOf a with
    | some xs => match seqOf b with
      | some ys => some (pairL xs ys)
      | none => none
    | none => none
  | _ => none
def enumI (ds : List PyData) : Option (List PyData) :=
  match ds with
  | [a] => match seqOf a with
    | some xs => some (numL 0 xs)
    | none => none
  | _ => none

theorem rngL_len (lo : Int) : ∀ n : Nat, (rngL lo n).length = n := fun n => by
  induction n generalizing lo with
  | zero => rfl
  | succ n ih => simp [rngL, ih]
theorem rngL_at (lo : Int) : ∀ (n i : Nat), i < n → (rngL lo n)[i]? = some (.int (lo + i)) := fun n => by
  induction n generalizing lo with
  | zero => intro i h; omega
  | succ n ih =>
    intro i h
    cases i with
    | zero => simp [rngL]
    | succ i =>
      simp only [rngL, List.getElem?_cons_succ]
      rw [ih (lo + 1) i (by omega), show lo + 1 + (i : Int) = lo + ((i + 1 : Nat) : Int) by omega]
theorem pairL_len : ∀ (as bs : List PyData), (pairL as bs).length = min as.length bs.length
  | [], bs => by simp [pairL]
  | a :: as, [] => by simp [pairL]
  | a :: as, b :: bs => by simp [pairL, pairL_len as bs]
theorem pairL_at : ∀ (as bs : List PyData) (i : Nat) (a b : PyData), as[i]? = some a → bs[i]? = some b → (pairL as bs)[i]? = some (.tuple [a, b])
  | [], bs, i, a, b, h, _ => by simp at h
  | a :: as, [], i, _, b, _, h => by simp at h
  | a :: as, b :: bs, 0, x, y, h, h' => by simp at h h'; subst h h'; rfl
  | a :: as, b :: bs, i + 1, x, y, h, h' => by
    simp only [pairL, List.getElem?_cons_succ]
    exact pairL_at as bs i x y (by simpa using h) (by simpa using h')
theorem numL_len : ∀ (n : Nat) (as : List PyData), (numL n as).length = as.length
  | n, [] => rfl
  | n, a :: as => by simp [numL, numL_len (n + 1) as]
theorem numL_at : ∀ (n : Nat) (as : List PyData) (i : Nat) (a : PyData), as[i]? = some a → (numL n as)[i]? = some (.tuple [.int ((n + i : Nat) : Int), a])
  | n, [], i, a, h => by simp at h
  | n, a :: as, 0, x, h => by simp at h; subst h; rfl
  | n, a :: as, i + 1, x, h => by
    simp only [numL, List.getElem?_cons_succ]
    rw [numL_at (n + 1) as i x (by simpa using h), show n + 1 + i = n + (i + 1) by omega]
theorem Rp.src {K : PySem.W.Frag} {F : Hp} {v : V} {d : PyData} {ds : List PyData} (h : Rp K F v d) (q : seqOf d = some ds) : ∃ src xs, v = .ref (Src.ad src) ∧ SqS K F src xs ∧ RpL K F xs ds := (Rp.sh (Same.refl F) h).src (Same.refl F) q
section
variable {K : PySem.W.Frag} {F : Hp} {src src2 : Src} {xs ys : List V} {ds es : List PyData}
theorem it_seq (q : SqS K F src xs) (r : RpL K F xs ds) : ItOk K (Its1 K src) F ds := by
  have hl := r.length
  refine ⟨fun i H hi s => ?_, fun H s => ?_, fun i H x H' hi s y => ?_⟩
  · have : i < xs.length := by omega
    cases src with
    | l a => exact ⟨xs, xs[i], same_sqS s q, by simp [this]⟩
    | t a => exact ⟨xs, xs[i], same_sqS s q, by simp [this]⟩
  · cases src with
    | l a => exact ⟨xs, same_sqS s q, by omega⟩
    | t a => exact ⟨xs, same_sqS s q, by omega⟩
  · have z : H' = H ∧ xs[i]? = some x := by
      cases src with
      | l a => exact ⟨y.1, y.2 xs (same_sqS s q)⟩
      | t a => exact ⟨y.1, y.2 xs (same_sqS s q)⟩
    obtain ⟨d, e1, e2⟩ := r.getV z.2
    exact ⟨d, e1, .inl ⟨z.1, e2⟩⟩
theorem it_rng (lo : Int) (n : Nat) : ItOk K (Itr lo n) F (rngL lo n) := by
  refine ⟨fun i H hi s => by rw [rngL_len] at hi; exact hi, fun H s => by rw [rngL_len]; exact Nat.le_refl _, fun i H x H' hi s y => ?_⟩
  rw [rngL_len] at hi
  obtain ⟨rfl, rfl⟩ := y
  exact ⟨_, rngL_at lo n i hi, .inl ⟨rfl, .int _⟩⟩
theorem it_zip (q : SqS K F src xs) (q2 : SqS K F src2 ys) (r : RpL K F xs ds) (r2 : RpL K F ys es) : ItOk K (ItzS K src src2) F (pairL ds es) := by
  have hl := r.length
  have hl2 := r2.length
  refine ⟨fun i H hi s => ?_, fun H s => ?_, fun i H x H' hi s y => ?_⟩
  · rw [pairL_len] at hi
    have h1 : i < xs.length := by omega
    have h2 : i < ys.length := by omega
    exact ⟨xs, ys, xs[i], ys[i], same_sqS s q, same_sqS s q2, by simp [h1], by simp [h2]⟩
  · exact ⟨xs, ys, same_sqS s q, same_sqS s q2, by rw [pairL_len, hl, hl2]⟩
  · obtain ⟨T, x1, x2, rfl, h1, rfl, h2, h3⟩ := y
    obtain ⟨d1, e1, f1⟩ := r.getV (h2 xs (same_sqS s q))
    obtain ⟨d2, e2, f2⟩ := r2.getV (h3 ys (same_sqS s q2))
    exact ⟨_, pairL_at ds es i d1 d2 e1 e2, .inr ⟨T, _, _, rfl, h1, rfl, rfl, .cons f1 (.cons f2 .nil)⟩⟩
theorem it_enum (q : SqS K F src xs) (r : RpL K F xs ds) : ItOk K (IteS K src) F (numL 0 ds) := by
  have hl := r.length
  refine ⟨fun i H hi s => ?_, fun H s => ?_, fun i H x H' hi s y => ?_⟩
  · rw [numL_len] at hi
    have h1 : i < xs.length := by omega
    exact ⟨xs, xs[i], same_sqS s q, by simp [h1]⟩
  · exact ⟨xs, same_sqS s q, by rw [numL_len, hl]⟩
  · obtain ⟨T, x1, rfl, h1, rfl, h2⟩ := y
    obtain ⟨d1, e1, f1⟩ := r.getV (h2 xs (same_sqS s q))
    refine ⟨_, numL_at 0 ds i d1 e1, .inr ⟨T, _, _, rfl, h1, rfl, rfl, .cons ?_ (.cons f1 .nil)⟩⟩
    rw [Nat.zero_add]
    exact .int _
end

section
variable {X : Cx} {W : WX} {e a b c tg iter elt : Expr} {es rest : List Expr} {f fa fb fc : FE} {pos : Pos} {x y : Str} {p tpos : Pos} {st : Stmt} {sts : List Stmt} {u v : FS}
theorem SndE.walked {K : PySem.W.Frag} {mg : Str → Option Value} {G O F H : Hp} {P : Nat → Option Addr} {ts : List (Sl × V)} {env : EnvD} {σ : L2.St} {t : TE} (h : SndE K mg W t f) {R : VK} {RI : It → Hp → Prop} {k : PyData → EnvD → M (List PyData × EnvD)} (S : SR K G O P ts env σ F H)
    (hp : PostI K mg W G O P ts σ RI (M.bind (f env) fun p => match frz1 (fz p.1) p.2 with | some q => k q.1 q.2 | none => none))
    (hk : ∀ d env' v F' H', SR K G O P ts env' σ F' H' → Rp K F' v d → PostI K mg W G O P ts σ RI (k d env') → R v H') : t σ H R := by
  refine h G O P ts env σ F H R S ?_
  cases e : f env with
  | none => rw [e] at hp; exact hp
  | some o =>
    rw [e] at hp
    cases o with
    | err c env' => exact hp
    | ok p =>
      intro v F' H' S' r
      obtain ⟨F2, _, S2⟩ := S'.keep r
      change PostI K mg W G O P ts σ RI (match frz1 (fz p.1) p.2 with | some q => k q.1 q.2 | none => none) at hp
      cases q : frz1 (fz p.1) p.2 with
      | none => rw [q] at hp; exact hp.elim
      | some pr =>
        rw [q] at hp
        obtain ⟨F3, _, S3, r3⟩ := S2.frz1 (S2.tmp (fz p.1, v) (by simp)) q
        exact hk pr.1 pr.2 v F3 H' S3.pop r3 hp
theorem SndA.walked {K : PySem.W.Frag} {mg : Str → Option Value} {G O F H : Hp} {P : Nat → Option Addr} {ts : List (Sl × V)} {env : EnvD} {σ : L2.St} {t : TA} {fA : FA} (h : SndA K mg W t fA) {R : List V → Hp → Prop} {RI : It → Hp → Prop} {k : List PyData → EnvD → M (List PyData × EnvD)} (S : SR K G O P ts env σ F H)
    (hp : PostI K mg W G O P ts σ RI (M.bind (fzA fA env) fun p => k p.1 p.2))
    (hk : ∀ ds env' vs F' H', SR K G O P ts env' σ F' H' → RpL K F' vs ds → PostI K mg W G O P ts σ RI (k ds env') → R vs H') : t σ H R := by
  refine h G O P ts env σ F H R S ?_
  unfold fzA at hp
  cases q : fA env with
  | none => rw [q] at hp; exact hp
  | some o =>
    rw [q] at hp
    cases o with
    | err c env' => exact hp
    | ok p =>
      intro vs F' H' hl S'
      change PostI K mg W G O P ts σ RI (M.bind (match frzAll p.1 p.2 with | some q => M.ok q | none => none) fun p => k p.1 p.2) at hp
      cases z : frzAll p.1 p.2 with
      | none => rw [z] at hp; exact hp.elim
      | some r =>
        rw [z] at hp
        obtain ⟨F2, _, S2, r2⟩ := SR.frzAll (vs := vs) S' (fun p hp => List.mem_append_left _ hp) hl z
        exact hk r.1 r.2 vs F2 H' (S2.sub fun p hp => List.mem_append_right _ hp) r2 hp
theorem di_seq (h : DE X W iter f) : DI X W tg iter (seqI f) := by
  obtain ⟨t, p, s⟩ := h.ex
  refine ⟨_, pi_seq p, fun G O P ts env σ F H R S hp => ?_⟩
  refine s.walked (k := fun d env => match seqOf d with | some ds => M.ok (ds, env) | none => none) S hp fun d env' v F' H' S' r hp' => ?_
  cases q : seqOf d with
  | none => rw [q] at hp'; exact hp'.elim
  | some ds =>
    rw [q] at hp'
    obtain ⟨src, xs, rfl, z1, z2⟩ := r.src q
    exact ⟨src, xs, rfl, same_sqS S'.fh z1, hp' _ F' H' S' (it_seq z1 z2)⟩
theorem argI_ok {K : PySem.W.Frag} {mg : Str → Option Value} {G O : Hp} {P : Nat → Option Addr} {ts : List (Sl × V)} {σ : L2.St} {RI : It → Hp → Prop} {o : Option (List PyData)} {env : EnvD} (h : PostI K mg W G O P ts σ RI (match o with | some ds => M.ok (ds, env) | none => none)) :
    ∃ ds, o = some ds ∧ ∀ J F' H', SR K G O P ts env σ F' H' → ItOk K J F' ds → RI J H' := by
  cases o with
  | none => exact h.elim
  | some ds => exact ⟨ds, rfl, h⟩
theorem small_ok {i : Int} (h : smallI i = true) : -1000000 ≤ i ∧ i ≤ 1000000 := by
  simp only [smallI, Bool.and_eq_true, decide_eq_true_eq] at h
  exact h
theorem di_range1 {fA : FA} (hg : Gl X "range") (hm : X.mg "range" = none) (ha : DA X W [a] fA) (hs : starEach [a] X.env = [(false, eval a X.env)] := by rfl) : DI X W tg (.Call (.Name "range" p) [a] [] pos) (argI rng1I fA) := by
  obtain ⟨t, pa, sa⟩ := ha.ex
  refine ⟨_, pi_range1 hg hm pa hs, fun G O P ts env σ F H R S hp => ?_⟩
  refine sa.walked (k := fun d env => match rng1I d with | some ds => M.ok (ds, env) | none => none) S hp fun ds env' vs F' H' S' r hp' => ?_
  obtain ⟨es, he, q⟩ := argI_ok hp'
  unfold rng1I at he
  split at he
  · split at he
    · rename_i j hj
      cases he
      cases r with
      | cons h1 h2 =>
        cases h1; cases h2
        have := small_ok hj
        exact ⟨_, rfl, by omega, by omega, q _ F' H' S' (it_rng 0 _)⟩
    · cases he
  · cases he
theorem di_range2 {fA : FA} (hg : Gl X "range") (hm : X.mg "range" = none) (ha : DA X W [a, b] fA) (hs : starEach [a, b] X.env = [(false, eval a X.env), (false, eval b X.env)] := by rfl) (hs2 : starEach [b] X.env = [(false, eval b X.env)] := by rfl) : DI X W tg (.Call (.Name "range" p) [a, b] [] pos) (argI rng2I fA) := by
  obtain ⟨t, pa, sa⟩ := ha.ex
  refine ⟨_, pi_range2 hg hm pa hs hs2, fun G O P ts env σ F H R S hp => ?_⟩
  refine sa.walked (k := fun d env => match rng2I d with | some ds => M.ok (ds, env) | none => none) S hp fun ds env' vs F' H' S' r hp' => ?_
  obtain ⟨es, he, q⟩ := argI_ok hp'
  unfold rng2I at he
  split at he
  · split at he
    · rename_i hj
      cases he
      cases r with
      | cons h1 h2 =>
        cases h2 with
        | cons h2 h3 =>
          cases h1; cases h2; cases h3
          have k1 := small_ok hj.1
          have k2 := small_ok hj.2
          exact ⟨_, _, rfl, ⟨by omega, by omega, by omega, by omega⟩, q _ F' H' S' (it_rng _ _)⟩
    · cases he
  · cases he
theorem di_zip {fA : FA} {elts : List Expr} {kk : Nat} (hg : Gl X "zip") (hm : X.mg "zip" = none) (ha : DA X W [a, b] fA) (hs : starEach [a, b] X.env = (false, eval a X.env) :: starEach [b] X.env := by rfl) (hpl : (backTo pos (starEach [b] X.env)).any (·.1) = false := by rfl) : DI X W (.Tuple elts kk tpos) (.Call (.Name "zip" p) [a, b] [] pos) (argI zipI fA) := by
  obtain ⟨t, pa, sa⟩ := ha.ex
  refine ⟨_, pi_zipS hg hm pa hs hpl, fun G O P ts env σ F H R S hp => ?_⟩
  refine sa.walked (k := fun d env => match zipI d with | some ds => M.ok (ds, env) | none => none) S hp fun ds env' vs F' H' S' r hp' => ?_
  obtain ⟨es, he, q⟩ := argI_ok hp'
  unfold zipI at he
  split at he
  · rename_i d1 d2
    cases r with
    | cons h1 h2 =>
      cases h2 with
      | cons h2 h3 =>
        cases h3
        cases q1 : seqOf d1 with
        | none => rw [q1] at he; cases he
        | some xs =>
          rw [q1] at he
          dsimp only at he
          cases q2 : seqOf d2 with
          | none => rw [q2] at he; cases he
          | some ys =>
            rw [q2] at he
            cases he
            obtain ⟨s1, l1, rfl, z1, r1⟩ := h1.src q1
            obtain ⟨s2, l2, rfl, z2, r2⟩ := h2.src q2
            exact ⟨s1, s2, l1, l2, rfl, same_sqS S'.fh z1, same_sqS S'.fh z2, q _ F' H' S' (it_zip z1 z2 r1 r2)⟩
  · cases he
theorem di_enum {fA : FA} {elts : List Expr} {kk : Nat} (hg : Gl X "enumerate") (hm : X.mg "enumerate" = none) (ha : DA X W [a] fA) (hs : starEach [a] X.env = [(false, eval a X.env)] := by rfl) : DI X W (.Tuple elts kk tpos) (.Call (.Name "enumerate" p) [a] [] pos) (argI enumI fA) := by
  obtain ⟨t, pa, sa⟩ := ha.ex
  refine ⟨_, pi_enumS hg hm pa hs, fun G O P ts env σ F H R S hp => ?_⟩
  refine sa.walked (k := fun d env => match enumI d with | some ds => M.ok (ds, env) | none => none) S hp fun ds env' vs F' H' S' r hp' => ?_
  obtain ⟨es, he, q⟩ := argI_ok hp'
  unfold enumI at he
  split at he
  · rename_i d1
    cases r with
    | cons h1 h2 =>
      cases h2
      cases q1 : seqOf d1 with
      | none => rw [q1] at he; cases he
      | some xs =>
        rw [q1] at he
        cases he
        obtain ⟨s1, l1, rfl, z1, r1⟩ := h1.src q1
        exact ⟨s1, l1, rfl, same_sqS S'.fh z1, q _ F' H' S' (it_enum z1 r1)⟩
  · cases he
end

/-! ### for -/
def forL (gt : GT) (u : FS) : List PyData → FS
  | [], env => M.ok (.nx env)
  | d :: r, env => match gt d env with
    | some env1 => M.bind (u env1) fun z => match z with
      | .nx env2 => forL gt u r env2
      | .rt s env2 => M.ok (.rt s env2)
    | none => none
def forF (fi : FI) (gt : GT) (u : FS) : FS := fun env => M.bind (fi env) fun p => forL gt u p.1 p.2
section
variable {X : Cx} {W : WX} {tg iter : Expr} {pos : Pos} {sts : List Stmt} {u : FS} {fi : FI} {g : TG} {gt : GT} {tgs : List Nat}
theorem yield_sr {K : PySem.W.Frag} {G O F F0 H H' : Hp} {P : Nat → Option Addr} {env : EnvD} {σ : L2.St} {ds : List PyData} {i : Nat} {x : V} {d : PyData} (S : SR K G O P [] env σ F H) (m : Same F0 F) (y : ItY K F0 ds i H x H') (hd : ds[i]? = some d) :
    ∃ F', Same F F' ∧ SR K G O P [] env σ F' H' ∧ Rp K F' x d := by
  obtain ⟨d', e1, e2⟩ := y
  rw [hd] at e1
  cases e1
  rcases e2 with ⟨rfl, r⟩ | ⟨T, xs, es, rfl, n, rfl, rfl, r⟩
  · exact ⟨F, Same.refl _, S, Rp.mono m _ _ r⟩
  · obtain ⟨S2, R2⟩ := S.valT n (RpL.mono m _ _ r)
    exact ⟨_, same_new (S.ofree n).1, S2, R2⟩
theorem drop_at {ds : List PyData} {i : Nat} {d : PyData} (h : ds[i]? = some d) : ds.drop i = d :: ds.drop (i + 1) := by
  obtain ⟨h1, h2⟩ := List.getElem?_eq_some_iff.mp h
  rw [← h2]
  exact List.drop_eq_getElem_cons h1
theorem ds_for (hp : PassesOwn (model X.prog X.w) X.A X.env X.xe) (hc : X.calm = true) (hi : DI X W tg iter fi) (hg : DG X tg g gt tgs) (hb : DSs X W sts u) (hs : ∀ x, foldedSetIterable iter X.env x = pure x := by intro _; rfl) : DS X W (.For tg iter sts [] pos) (forF fi gt u) := by
  obtain ⟨wi, pi, si⟩ := hi.ex
  obtain ⟨tb, pb, sb⟩ := hb.ex
  refine ⟨_, ps_for hp hc pi hg.pg pb hs, fun G O P env σ F H D S hp => ?_⟩
  refine si G O P [] env σ F H _ S ?_
  unfold forF at hp
  cases q : fi env with
  | none => rw [q] at hp; exact hp
  | some o =>
    rw [q] at hp
    cases o with
    | err c env' => exact fun C F' H' hc S' => hp C σ F' H' hc S'
    | ok pr =>
      obtain ⟨ds, env0⟩ := pr
      intro J F0 H0 S0 w
      refine for_it w (fun i σ H => ∃ env F, SR X.K G O P [] env σ F H ∧ Same F0 F ∧ PostS X.K X.mg W G O P D (forL gt u (ds.drop i) env)) ⟨env0, F0, S0, Same.refl _, hp⟩ (fun i σ H _ ⟨env, F, S, m, _⟩ => m.trans S.fh) (fun i x σ1 H1 H2 hi ⟨env1, F1, S1, m1, hp1⟩ y => ?_) fun σ1 H1 ⟨env1, F1, S1, m1, hp1⟩ => ?_
      · have hd : ds[i]? = some ds[i] := List.getElem?_eq_getElem hi
        rw [drop_at hd] at hp1
        obtain ⟨F2, m2, S2, r2⟩ := yield_sr S1 m1 y hd
        unfold forL at hp1
        cases q1 : gt ds[i] env1 with
        | none => rw [q1] at hp1; exact hp1.elim
        | some env2 =>
          rw [q1] at hp1
          dsimp only at hp1
          refine hg.sd G O P env1 σ1 F2 H2 x _ env2 _ S2 r2 q1 fun σ3 F3 H3 m3 S3 _ => ?_
          refine sb F3 O P env2 σ3 F3 H3 _ S3.base ?_
          cases q2 : u env2 with
          | none => rw [q2] at hp1; exact hp1
          | some o =>
            rw [q2] at hp1
            cases o with
            | err c env3 => exact fun C σ4 F4 H4 hc S4 => hp1 C σ4 F4 H4 hc (S4.rebase S3.gf)
            | ok z =>
              cases z with
              | nx env3 => exact fun σ4 F4 H4 S4 => ⟨env3, F4, S4.rebase S3.gf, ((m1.trans m2).trans m3).trans S4.gf, hp1⟩
              | rt s env3 => exact fun v σ4 F4 H4 S4 r4 => hp1 v σ4 F4 H4 (S4.rebase S3.gf) r4
      · rw [List.drop_length] at hp1
        exact hp1 σ1 F1 H1 S1
end
end DL
set_option Elab.async false
set_option linter.all false
set_option maxRecDepth 100000
set_option maxHeartbeats 4000000
namespace DL
open PySem PySem.Spec PyProof.Rows L2

/-! ### comprehensions -/
def wipeD (env : EnvD) : List Nat → EnvD
  | [] => env
  | v :: vs => (wipeD env vs).set v none
def lcL (gt : GT) (ft : FT) (fe : FE) (vs : List Nat) : List PyData → List PyData → EnvD → M (List PyData × EnvD)
  | [], acc, env => M.ok (acc, env)
  | d :: r, acc, env => match gt d env with
    | some env1 => match ft env1 with
      | some (.ok p) => match p.1 with
        | true => match fe p.2 with
          | some (.ok q) => match frz1 (fz q.1) q.2 with
            | some z => if acc.length < bigL then lcL gt ft fe vs r (acc ++ [z.1]) (wipeD z.2 vs) else none
            | none => none
          | _ => none
        | false => lcL gt ft fe vs r acc (wipeD p.2 vs)
      | _ => none
    | none => none
def lcF (fi : FI) (gt : GT) (ft : FT) (fe : FE) (vs : List Nat) : FE := fun env => M.bind (fi env) fun p => M.bind (lcL gt ft fe vs p.1 [] (wipeD p.2 vs)) fun q => M.ok (.own (.lst q.1), q.2)
def yesF : FT := fun env => M.ok (true, env)
def WF : WX := fun _ _ _ _ => False
structure DTs (X : Cx) (W : WX) (ifs : List Expr) (f : FT) : Prop where
  ex : ∃ t, PTs X ifs t ∧ SndT X.K X.mg W t f
theorem DTs.can {X : Cx} {W : WX} {e : List Expr} {f : FT} (h : DTs X W e f) : PTs X e (tT X.K X.mg W f) := by
  obtain ⟨t, p, s⟩ := h.ex
  exact ⟨fun pins sh σ H Q I ⟨G, O, P, ts, env, F, S, hp⟩ => p.run pins sh σ H Q I (s G O P ts env σ F H Q S hp)⟩
theorem dts_nil {X : Cx} {W : WX} : DTs X W [] yesF := ⟨_, pts_nil, fun G O P ts env σ F H Q S hp => hp F H S⟩
theorem dts_one {X : Cx} {W : WX} {c : Expr} {f : FT} (h : DT X W c f) : DTs X W [c] f := by
  obtain ⟨t, p, s⟩ := h.ex
  exact ⟨_, pts_one p, s⟩

section
variable {K : PySem.W.Frag} {mg : Str → Option Value} {G G' O F F' H H' : Hp} {P : Nat → Option Addr} {ts : List (Sl × V)} {env env2 : EnvD} {σ σ2 : L2.St} {s : Sl} {v : V} {D : Addr} {u u' : HO}
theorem wipeD_len (env : EnvD) : ∀ vs : List Nat, (wipeD env vs).length = env.length
  | [] => rfl
  | v :: vs => by unfold wipeD; rw [List.length_set, wipeD_len env vs]
theorem wipeD_some {i : Nat} {x : Sl} : ∀ {vs : List Nat}, (wipeD env vs)[i]? = some (some x) → env[i]? = some (some x) ∧ i ∉ vs
  | [], h => ⟨h, by simp⟩
  | v :: vs, h => by
    unfold wipeD at h
    by_cases hi : v = i
    · subst hi
      by_cases hv : v < (wipeD env vs).length
      · rw [List.getElem?_set_self hv] at h; cases h
      · rw [List.getElem?_eq_none (by simpa using hv)] at h; cases h
    · rw [List.getElem?_set_ne hi] at h
      obtain ⟨h1, h2⟩ := wipeD_some h
      exact ⟨h1, by simp only [List.mem_cons, not_or]; exact ⟨fun e => hi e.symm, h2⟩⟩
/-- the slots may be others where nothing is told of them -/
theorem SR.reslot (h : SR K G O P [] env σ F H) (hl : env2.length = σ2.length) (q : ∀ (i : Nat) (x : Sl), env2[i]? = some (some x) → env[i]? = some (some x) ∧ σ2[i]? = σ[i]?) : SR K G O P [] env2 σ2 F H := by
  refine ⟨h.gf, h.fh, h.oh, h.dj, hl, fun i x e => ?_, fun p hp => absurd hp (by simp), fun i j x y a e1 e2 w1 w2 r1 r2 => ?_, h.nt⟩
  · obtain ⟨z1, z2⟩ := q i x e
    obtain ⟨w, f1, f2⟩ := h.slot i x z1
    exact ⟨w, by rw [z2]; exact f1, f2⟩
  · obtain ⟨z1, z2⟩ := q i x e1
    obtain ⟨z3, z4⟩ := q j y e2
    exact h.sep i j x y a z1 z3 w1 w2 (by rw [← z2]; exact r1) (by rw [← z4]; exact r2)
theorem SR.wipe (h : SR K G O P [] env σ F H) (vs : List Nat) : SR K G O P [] (wipeD env vs) (L2.wipe σ vs) F H :=
  h.reslot (by rw [wipeD_len, wipe_length]; exact h.len) fun i x e => ⟨(wipeD_some e).1, wipe_out (wipeD_some e).2⟩
theorem SR.wipe1 (h : SR K G O P [] env σ F H) (vs : List Nat) : SR K G O P [] (wipeD env vs) σ F H :=
  h.reslot (by rw [wipeD_len]; exact h.len) fun i x e => ⟨(wipeD_some e).1, rfl⟩
theorem wipe_only {tgs vs : List Nat} {σ σ' : L2.St} (o : Only tgs (L2.wipe σ vs) σ') (hs : ∀ i ∈ tgs, i ∈ vs) : L2.wipe σ' vs = L2.wipe σ vs := by
  have look : ∀ (τ : L2.St) (i : Nat), i ∈ vs → (L2.wipe τ vs)[i]? = if i < τ.length then some none else none := fun τ i hi => by
    by_cases hl : i < τ.length
    · rw [if_pos hl]
      cases q : (L2.wipe τ vs)[i]? with
      | none =>
        rw [List.getElem?_eq_none_iff, wipe_length] at q
        omega
      | some o =>
        cases o with
        | none => rfl
        | some x => exact absurd hi (wipe_some q).2
    · rw [if_neg hl]
      exact List.getElem?_eq_none (by rw [wipe_length]; omega)
  apply List.ext_getElem?
  intro i
  have hl : σ'.length = σ.length := by rw [o.1, wipe_length]
  by_cases hi : i ∈ vs
  · rw [look σ' i hi, look σ i hi, hl]
  · rw [wipe_out hi, o.2 i fun z => hi (hs i z)]
/-- back to the outer slots -/
theorem SR.unwipe {vs : List Nat} (h : SR K G O P [] env σ2 F H) (e : L2.wipe σ2 vs = L2.wipe σ vs) : SR K G O P [] (wipeD env vs) σ F H :=
  h.reslot (by rw [wipeD_len, h.len, ← wipe_length σ2 vs, e, wipe_length]) fun i x q => by
    obtain ⟨q1, q2⟩ := wipeD_some q
    refine ⟨q1, ?_⟩
    rw [← wipe_out (σ := σ) q2, ← e, wipe_out q2]
/-- the laid-by list is written -/
theorem SR.rehide (h : SR K G (upd O D u) P ts env σ F H) (su : Soft u) (su' : Soft u') : SR K G (upd O D u') P ts env σ F (upd H D u') := by
  have nF : F D = none := h.dj D u upd_same
  have other : ∀ b, upd O D u b = none → b ≠ D ∧ upd O D u' b = none := fun b q => by
    have hb : b ≠ D := fun z => by rw [z, upd_same] at q; cases q
    refine ⟨hb, ?_⟩
    rw [upd_ne hb] at q ⊢
    exact q
  refine ⟨h.gf, fun b x q => ?_, ?_, fun b x q => ?_, h.len, fun i s q => ?_, h.tmp, h.sep, h.nt⟩
  · rw [upd_ne (ne_of_none q nF)]; exact h.fh b x q
  · have hD : H D = some u := h.oh.val D u upd_same
    refine ⟨fun b x q => ?_, fun b ps q => ?_, tabs_chg h.oh.tb hD su⟩
    · by_cases hb : b = D
      · subst hb; rw [upd_same] at q ⊢; exact q
      · rw [upd_ne hb] at q ⊢; exact h.oh.val b x (by rw [upd_ne hb]; exact q)
    · by_cases hb : b = D
      · subst hb; rw [upd_same] at q; exact absurd (Option.some.inj q) (su'.nt ps)
      · rw [upd_ne hb] at q
        exact h.oh.nt b ps (by rw [upd_ne hb]; exact q)
  · by_cases hb : b = D
    · subst hb; exact nF
    · rw [upd_ne hb] at q; exact h.dj b x (by rw [upd_ne hb]; exact q)
  · obtain ⟨w, f1, f2⟩ := h.slot i s q
    refine ⟨w, f1, ?_⟩
    cases s with
    | val d => exact f2
    | own o =>
      obtain ⟨b, rfl, z1, z2, z3⟩ := f2
      obtain ⟨y1, y2⟩ := other b z2
      exact ⟨b, rfl, z1, y2, z3.mono (Same.refl _) (upd_ne y1)⟩
    | pen o =>
      obtain ⟨b, rfl, z0, z1, z2, z3⟩ := f2
      obtain ⟨y1, y2⟩ := other b z2
      exact ⟨b, rfl, z0, z1, y2, z3.mono (Same.refl _) (upd_ne y1)⟩
    | al k => exact f2
/-- the temporaries again -/
theorem SR.retmp (h : SR K G O P [] env2 σ F' H') (h0 : SR K G' O P ts env σ F H) (m : Same F F') : SR K G O P ts env2 σ F' H' :=
  ⟨h.gf, h.fh, h.oh, h.dj, h.len, h.slot, fun p hp => (h0.tmp p hp).mono m, h.sep, h.nt⟩
end

section
variable {X : Cx} {W : WX} {tg iter elt : Expr} {ifs : List Expr} {pos : Pos} {x : Str} {fi : FI} {g : TG} {gt : GT} {ft : FT} {fe : FE} {scope : Scope} {own : List (Str × Nat)} {tgs : List Nat}
/-- what a comprehension's reading asks -/
theorem snd_lc {K : PySem.W.Frag} {mg : Str → Option Value} {wi : TI} {vs : List Nat} (si : SndI K mg W wi fi) (sg : SndG K g gt tgs) (hs : ∀ i ∈ tgs, i ∈ vs) : SndE K mg W (tLc wi g (tT K mg WF ft) (tE K mg WF fe) vs) (lcF fi gt ft fe vs) := by
  intro G O P ts env σ F H Q S hp
  refine si G O P ts env σ F H _ S ?_
  unfold lcF at hp
  cases q : fi env with
  | none => rw [q] at hp; exact hp
  | some o =>
    rw [q] at hp
    cases o with
    | err c env' => exact hp
    | ok pr =>
      obtain ⟨ds, env0⟩ := pr
      intro J F0 H0 S0 w D nD
      have S0' : SR K F0 O P [] env0 σ F0 H0 := (S0.sub (fun p hp => absurd hp (by simp))).base
      have S1 : SR K F0 (upd O D (.lst [])) P [] (wipeD env0 vs) σ F0 (upd H0 D (.lst [])) := by
        have z := (S0'.wipe1 vs).newH (u := .lst []) nD
        exact z.hide (S0.ofree nD).1 (S0.ofree nD).2 upd_same (fun _ z => by cases z) fun i s' e wn => (S0'.wipe1 vs).fresh nD e wn
      refine lc_it w (fun i H => ∃ env F acc xs, SR K F0 (upd O D (.lst xs)) P [] (wipeD env vs) σ F H ∧ RpL K F xs acc ∧ acc.length ≤ bigL ∧
          PostE K mg W G O P ts σ Q (M.bind (lcL gt ft fe vs (ds.drop i) acc (wipeD env vs)) fun q => M.ok (.own (.lst q.1), q.2)))
        ⟨env0, F0, [], [], S1, .nil, Nat.zero_le _, hp⟩ (fun i H _ ⟨env, F, acc, xs, S, _⟩ => S.gf.trans S.fh) (fun i x H1 H2 hi ⟨env1, F1, acc, xs, S2, ra, la, hp1⟩ y => ?_) fun H1 ⟨env1, F1, acc, xs, S2, ra, la, hp1⟩ => ?_
      · have hd : ds[i]? = some ds[i] := List.getElem?_eq_getElem hi
        rw [drop_at hd] at hp1
        obtain ⟨F2, m2, S3, r2⟩ := yield_sr S2 S2.gf y hd
        have S4 : SR K F0 (upd O D (.lst xs)) P [] (wipeD env1 vs) (L2.wipe σ vs) F2 H2 := by
          refine S3.reslot ?_ fun i x e => ⟨e, wipe_out (wipeD_some e).2⟩
          rw [S3.len, wipe_length]
        unfold lcL at hp1
        cases q1 : gt ds[i] (wipeD env1 vs) with
        | none => rw [q1] at hp1; exact hp1.elim
        | some env2 =>
          rw [q1] at hp1
          dsimp only at hp1
          refine sg F0 (upd O D (.lst xs)) P (wipeD env1 vs) (L2.wipe σ vs) F2 H2 x _ env2 _ S4 r2 q1 fun σ3 F2' H2' m2' S5 o3 => ?_
          have ew : L2.wipe σ3 vs = L2.wipe σ vs := wipe_only o3 hs
          refine ⟨ew, F2', upd O D (.lst xs), P, [], env2, F2', S5.base, ?_⟩
          cases q2 : ft env2 with
          | none => rw [q2] at hp1; exact hp1.elim
          | some o =>
            rw [q2] at hp1
            cases o with
            | err c env3 => exact hp1.elim
            | ok p3 =>
              obtain ⟨b, env3⟩ := p3
              intro F3 H3 S6
              dsimp only at hp1
              cases b with
              | false =>
                rw [if_neg (by decide)]
                exact ⟨env3, F3, acc, xs, (S6.rebase S5.gf).unwipe ew, RpL.mono ((m2.trans m2').trans S6.gf) _ _ ra, la, hp1⟩
              | true =>
                rw [if_pos rfl]
                refine ⟨F3, upd O D (.lst xs), P, [], env3, F3, S6.base, ?_⟩
                cases q3 : fe env3 with
                | none => rw [q3] at hp1; exact hp1.elim
                | some o2 =>
                  rw [q3] at hp1
                  cases o2 with
                  | err c env4 => exact hp1.elim
                  | ok p4 =>
                    intro v F4 H4 S7 r7
                    dsimp only at hp1
                    obtain ⟨F5, m5, S8⟩ := S7.keep r7
                    cases q4 : frz1 (fz p4.1) p4.2 with
                    | none => rw [q4] at hp1; exact hp1.elim
                    | some z =>
                      rw [q4] at hp1
                      obtain ⟨d, env5⟩ := z
                      dsimp only at hp1
                      obtain ⟨F6, m6, S9, r9⟩ := S8.frz1 (S8.tmp (fz p4.1, v) (by simp)) q4
                      split at hp1
                      · rename_i hlt
                        have raf : RpL K F6 xs acc := RpL.mono ((((m2.trans m2').trans S6.gf).trans S7.gf).trans (m5.trans m6)) _ _ ra
                        refine ⟨xs, S9.oh.val D _ upd_same, by rw [ra.length]; exact bigL_lt (Nat.le_of_lt hlt), env5, F6, acc ++ [d], xs ++ [v], ?_, raf.app (.cons r9 .nil), by rw [List.length_append]; exact hlt, hp1⟩
                        exact ((S9.pop.rehide (u' := .lst (xs ++ [v])) trivial trivial).rebase ((S5.gf.trans S6.gf))).unwipe ew
                      · exact hp1.elim
      · rw [List.drop_length] at hp1
        obtain ⟨S3, nF, eD, ns⟩ := S2.unhide (S0.ofree nD).2 (fun _ z => by cases z)
        refine hp1 _ F1 H1 ((S3.rebase S0.gf).retmp S0 S2.gf) ⟨D, rfl, nF, (S0.ofree nD).2, ⟨xs, eD, ra⟩, ns⟩
theorem de_lc (hc : X.calm = true) (hN : X.N.Nodup) (hi : DI X W tg iter fi) (ok : BlkOk X.N X.env.scope scope own) (hs : ∀ i ∈ tgs, i ∈ own.map (·.2))
    (hg : ∀ (s : Shared) (H : Hp) (C : Addr) (cl : List (Str × Addr)) (fp : List Addr), DG (X.blk s H scope (compEnvC scope cl C X.env) fp) tg g gt tgs)
    (ht : ∀ (s : Shared) (H : Hp) (C : Addr) (cl : List (Str × Addr)) (fp : List Addr), DTs (X.blk s H scope (compEnvC scope cl C X.env) fp) WF ifs ft)
    (he : ∀ (s : Shared) (H : Hp) (C : Addr) (cl : List (Str × Addr)) (fp : List Addr), DE (X.blk s H scope (compEnvC scope cl C X.env) fp) WF elt fe) (hf : ∀ x, foldedSetIterable iter X.env x = pure x := by intro _; rfl) :
    DE X W (.ListComp elt [⟨tg, iter, ifs, 0⟩] scope pos) (lcF fi gt ft fe (own.map (·.2))) := by
  obtain ⟨wi, pi, si⟩ := hi.ex
  exact ⟨_, pe_lc hc hN pi ok (fun s H C cl fp => (hg s H C cl fp).pg) (fun s H C cl fp => (ht s H C cl fp).can) (fun s H C cl fp => (he s H C cl fp).can) hf, snd_lc si (hg X.s_0 (fun _ => none) 0 [] []).sd hs⟩
theorem ds_asgLc (i : Nat) {py spos : Pos} (hc : X.calm = true) (hN : X.N.Nodup) (hi : DI X W tg iter fi) (ok : BlkOk X.N X.env.scope scope own) (hs : ∀ i ∈ tgs, i ∈ own.map (·.2))
    (hg : ∀ (s : Shared) (H : Hp) (C : Addr) (cl : List (Str × Addr)) (fp : List Addr), DG (X.blk s H scope (compEnvC scope cl C X.env) fp) tg g gt tgs)
    (ht : ∀ (s : Shared) (H : Hp) (C : Addr) (cl : List (Str × Addr)) (fp : List Addr), DTs (X.blk s H scope (compEnvC scope cl C X.env) fp) WF ifs ft)
    (he : ∀ (s : Shared) (H : Hp) (C : Addr) (cl : List (Str × Addr)) (fp : List Addr), DE (X.blk s H scope (compEnvC scope cl C X.env) fp) WF elt fe)
    (hsw : swapsWith (.ListComp elt [⟨tg, iter, ifs, 0⟩] scope pos) (some (.Name x py)) spos.line X.env = pure true) (hy : X.N[i]? = some x := by rfl) (hyl : X.env.scope.names.lookup x = some .local := by rfl) (hf : ∀ x, foldedSetIterable iter X.env x = pure x := by intro _; rfl) :
    DS X W (.Assign [.Name x py] (.ListComp elt [⟨tg, iter, ifs, 0⟩] scope pos) spos) (asgF i (lcF fi gt ft fe (own.map (·.2)))) := by
  obtain ⟨wi, pi, si⟩ := hi.ex
  exact ⟨_, ps_setLc hc hN hy hyl hsw pi ok (fun s H C cl fp => (hg s H C cl fp).pg) (fun s H C cl fp => (ht s H C cl fp).can) (fun s H C cl fp => (he s H C cl fp).can) hf, snd_asg (snd_lc si (hg X.s_0 (fun _ => none) 0 [] []).sd hs)⟩
end

/-! ### raise -/
section
variable {X : Cx} {W : WX} {pos : Pos} {C : Addr} {bmB : List Value} {B newId initId : String}
theorem ds_raise {x m : Str} {j : Nat} {p p2 pos1 : Pos} (hc : X.calm = true) (tk : Takes X W) (F : ExcBaseFacts B newId initId bmB) (q : PySem.W.excIn X.K C bmB newId = true) (gC : X.mg x = some (.ref C)) (kC : PySem.W.keepIn X.K (.ref C) = true) (r : Raises X (.ref C)) (hg : Gl X x)
    (hdb : (x == ("__debug__" : Str)) = false := by decide) : DS X W (.Raise (some (.Call (.Name x p) [.Constant (.str m) j p2] [] pos1)) none pos) (raiseF x) := by
  refine ⟨_, ps_raise hc tk (pmk_own F q gC kC r hg hdb), fun G O P env σ F H D S hp => ?_⟩
  exact hp C σ F H gC S
end
end DL
set_option Elab.async false
set_option linter.all false
set_option maxRecDepth 100000
set_option maxHeartbeats 4000000
namespace DL
open PySem PySem.Spec PyProof.Rows L2

/-! ### chains, negatives -/
def negD (a : PyData) : Option Sl :=
  match a with
  | .int i => vI (-i)
  | _ => none
def eChain (g g' : PyData → PyData → Option Sl) (fa fb fc : FE) : FE := fun env => M.bind (fa env) fun p => M.bind (fb p.2) fun q => match g2 g (rd (fz p.1) q.2) (rd (fz q.1) q.2) with
  | some z => match asB z with
    | some true => M.bind (fc q.2) fun r => fin (g2 g' (rd (fz q.1) r.2) (rd (fz r.1) r.2)) r.2
    | some false => M.ok (.val (.bool false), q.2)
    | none => none
  | none => none
section
variable {X : Cx} {W : WX} {e a b c : Expr} {es rest : List Expr} {f fa fb fc : FE} {pos : Pos} {x : Str} {p : Pos}
theorem ud_neg : UnD X (rU fun i => .int (-i)) negD := by
  intro G O P ts env σ F H x d1 s Q S h1 e q
  unfold negD at e
  split at e
  · cases e; cases h1
    exact ⟨_, rfl, q _ F H S (.int _)⟩
  · cases e
theorem de_neg (ha : DE X W a fa) : DE X W (.UnaryOp .USub a pos) (e1 negD fa) := de_un un_neg ud_neg ha
theorem snd_chain {r r' : R2} {g g' : PyData → PyData → Option Sl} {ta tb tc : TE} (hg : OpD X r g) (hg' : OpD X r' g') (hb1 : ∀ d1 d2 s, g d1 d2 = some s → ∃ k, s = .val (.bool k)) (sa : SndE X.K X.mg W ta fa) (sb : SndE X.K X.mg W tb fb) (sc : SndE X.K X.mg W tc fc) :
    SndE X.K X.mg W (tChain r r' ta tb tc) (eChain g g' fa fb fc) := by
  intro G O P ts env σ F H Q S hp
  refine sa.thn (k := fun s env' => M.bind (fb env') fun q => match g2 g (rd s q.2) (rd (fz q.1) q.2) with
    | some z => match asB z with
      | some true => M.bind (fc q.2) fun r => fin (g2 g' (rd (fz q.1) r.2) (rd (fz r.1) r.2)) r.2
      | some false => M.ok (.val (.bool false), q.2)
      | none => none
    | none => none) S hp fun s env' v F' H' S' hp' => ?_
  refine sb.thn (k := fun s2 env2 => match g2 g (rd s env2) (rd s2 env2) with
    | some z => match asB z with
      | some true => M.bind (fc env2) fun r => fin (g2 g' (rd s2 r.2) (rd (fz r.1) r.2)) r.2
      | some false => M.ok (.val (.bool false), env2)
      | none => none
    | none => none) S' hp' fun s2 env2 v2 F2 H2 S2 hp2 => ?_
  cases q : g2 g (rd s env2) (rd s2 env2) with
  | none => rw [q] at hp2; exact hp2.elim
  | some z =>
    rw [q] at hp2
    obtain ⟨d1, d2, e1, e2, e3⟩ := g2_ok q
    obtain ⟨k, rfl⟩ := hb1 d1 d2 z e3
    refine hg G O P _ env2 σ F2 H2 v v2 d1 d2 _ _ S2 (S2.sh (by simp) e1) (S2.sh (by simp) e2) e3 fun w F3 H3 S3 r3 => ?_
    cases r3
    refine ⟨k, rfl, ?_⟩
    cases k with
    | false =>
      rw [if_neg (by decide)]
      exact hp2 _ F3 H3 S3.pop.pop (.bl false)
    | true =>
      rw [if_pos rfl]
      refine sc.thn (k := fun s3 env3 => fin (g2 g' (rd s2 env3) (rd s3 env3)) env3) S3 hp2 fun s3 env3 v3 F4 H4 S4 hp4 => ?_
      obtain ⟨z4, e0, q4⟩ := fin_ok hp4
      obtain ⟨d3, d4, e5, e6, e7⟩ := g2_ok e0
      exact hg' G O P ts env3 σ F4 H4 v2 v3 d3 d4 z4 Q S4.pop.pop.pop (S4.sh (by simp) e5) (S4.sh (by simp) e6) e7 q4
theorem ord_bool {p : Int → Int → Bool} : ∀ d1 d2 s, ordD p d1 d2 = some s → ∃ k, s = .val (.bool k) := fun d1 d2 s h => by
  unfold ordD at h
  split at h
  · cases h; exact ⟨_, rfl⟩
  · cases h
theorem de_chain {op op' : CmpOp} {r r' : R2} {p p' : Int → Int → Bool} (ho : OpR X (compareOp op) r) (hg : OpD X r (ordD p)) (ho' : OpR X (compareOp op') r') (hg' : OpD X r' (ordD p')) (ha : DE X W a fa) (hb : DE X W b fb) (hc : DE X W c fc)
    (hm : lastMarks [op, op'] [b, c] = false := by with_unfolding_all rfl) : DE X W (.Compare a [op, op'] [b, c] pos) (eChain (ordD p) (ordD p') fa fb fc) := by
  obtain ⟨ta, pa, sa⟩ := ha.ex
  obtain ⟨tb, pb, sb⟩ := hb.ex
  obtain ⟨tc, pc, sc⟩ := hc.ex
  exact ⟨_, pe_chain ho ho' pa pb pc hm, snd_chain hg hg' ord_bool sa sb sc⟩
theorem dt_chain {op op' : CmpOp} {r r' : R2} {p p' : Int → Int → Bool} (ho : OpR X (compareOp op) r) (hg : OpD X r (ordD p)) (ho' : OpR X (compareOp op') r') (hg' : OpD X r' (ordD p')) (ha : DE X W a fa) (hb : DE X W b fb) (hc : DE X W c fc)
    (hm : lastMarks [op, op'] [b, c] = false := by with_unfolding_all rfl) : DT X W (.Compare a [op, op'] [b, c] pos) (eT (eChain (ordD p) (ordD p') fa fb fc)) := by
  obtain ⟨ta, pa, sa⟩ := ha.ex
  obtain ⟨tb, pb, sb⟩ := hb.ex
  obtain ⟨tc, pc, sc⟩ := hc.ex
  exact ⟨_, pt_chain ho ho' pa pb pc hm, snd_test (snd_chain hg hg' ord_bool sa sb sc)⟩
/-! ### a name of the module -/
def GlD (K : PySem.W.Frag) (mg : Str → Option Value) (x : Str) (d : PyData) : Prop := ∃ v u, mg x = some u ∧ RelV v u ∧ ∀ F, Rp K F v d
theorem de_gl {d : PyData} (hg : Gl X x) (h : GlD X.K X.mg x d) (hd : (x == ("__debug__" : Str)) = false := by decide) : DE X W (.Name x p) (eC d) := by
  obtain ⟨v, u, h1, h2, h3⟩ := h
  exact de_const (pe_glob hg h1 h2 hd) h3
/-! ### x[e] = v, x a list of one's own -/
def gtSub (i : Nat) (fi : FE) : GT := fun d env => match lstO i env with
  | some _ => match fi env with
    | some (.ok q) => match asI q.1 with
      | some k => match lstO i q.2 with
        | some (s, ds) => match ixN ds.length k with
          | some j => some (q.2.set i (some (reO s (.lst (ds.set j d)))))
          | none => none
        | none => none
      | none => none
    | _ => none
  | none => none
theorem ixN_len {n : Nat} {i : Int} {j : Nat} (h : ixN n i = some j) : j < n := (ixN_seq h).2.1
theorem dg_sub (i : Nat) {px ps : Pos} (hi : DE X W b fb) (hN : X.N[i]? = some x := by rfl) (hv : Vis X.env.scope x := by first | exact Or.inl rfl | exact Or.inr (Or.inl rfl) | exact Or.inr (Or.inr rfl)) (hd : (x == ("__debug__" : Str)) = false := by decide)
    (hcd : (x == ("__classdict__" : Str)) = false := by decide) (has : ∀ v, assign (.Subscript (.Name x px) b ps) X.env v = (do
      let ov ← holding [v] (eval (.Name x px) X.env)
      let iv ← holding [v, ov] (eval b X.env)
      standAt ps
      holding [v, ov, iv] (setItem ov iv v)
      release [v, ov, iv] []) := by intro _; rfl) :
    DG X (.Subscript (.Name x px) b ps) (gSub (tVar i) (tE X.K X.mg W fb) rSetL) (gtSub i fb) [] := by
  refine ⟨pg_sub (pe_var hN hv hd hcd) hi.can set_list has, fun G O P env σ F H v d env' Q S r e q => ?_⟩
  unfold gtSub at e
  cases q0 : lstO i env with
  | none => rw [q0] at e; cases e
  | some r0 =>
    rw [q0] at e
    dsimp only at e
    obtain ⟨s0, ds0⟩ := r0
    obtain ⟨a0, f1, f2, f3, _, _⟩ := S.slO (lstO_ok q0)
    refine ⟨_, f1, ?_⟩
    refine snd_tE F O P [(.val d, v)] env σ F H _ (S.base.push (s := .val d) r) ?_
    cases q1 : fb env with
    | none => rw [q1] at e; cases e
    | some o =>
      rw [q1] at e
      cases o with
      | err c env2 => cases e
      | ok pr =>
        obtain ⟨s1, env2⟩ := pr
        dsimp only at e
        intro w F2 H2 S2 r2
        cases q2 : asI s1 with
        | none => rw [q2] at e; cases e
        | some k =>
          rw [q2] at e
          dsimp only at e
          have ew := asI_ok q2 r2
          subst ew
          cases q3 : lstO i env2 with
          | none => rw [q3] at e; cases e
          | some r3 =>
            obtain ⟨s3, ds⟩ := r3
            rw [q3] at e
            dsimp only at e
            cases q4 : ixN ds.length k with
            | none => rw [q4] at e; cases e
            | some j =>
              rw [q4] at e
              cases e
              obtain ⟨a, g1, g2, g3, ⟨xs, g4, g5⟩, _⟩ := S2.slO (lstO_ok q3)
              rw [f1] at g1
              cases g1
              have rv : Rp X.K F2 v d := S2.tmp (.val d, v) (by simp)
              refine ⟨a0, xs, k, j, rfl, rfl, g4, by rw [g5.length]; exact q4, ?_⟩
              have hw : OwnAt X.K F2 (upd H2 a0 (.lst (xs.set j v))) a0 (.lst (ds.set j d)) := ⟨_, upd_same, g5.set j rv⟩
              exact q σ F2 _ S2.gf ((S2.pop.reown (lstO_ok q3) f1 hw).rebase S.gf) Only.refl
end
end DL
set_option Elab.async false
set_option linter.all false
set_option maxRecDepth 100000
set_option maxHeartbeats 4000000
namespace DL
open PySem PySem.Spec PyProof.Rows L2

/-! ### short words for the printed terms -/
structure Callee (gd : Bool) (P : Program) (w : World) (K : PySem.W.Frag) (mg : Str → Option Value) (base : Heap) (k : Nat) (x : Str) (ps : List Str) (m : MF) : Prop where
  ex : ∃ f fd, FnG gd P w K mg base (L2.CX P w) k f fd ps (spD K mg m) ∧ mg x = some (.ref f) ∧ PySem.W.keepIn K (.ref f) = true ∧ Binds K fd ps []
/-- a def of the text as it stands behind the top -/
structure Has (K : PySem.W.Frag) (mg : Str → Option Value) (x : Str) (st : Stmt) (ps : List Str) : Prop where
  ex : ∃ f fd, Fun K x x st f fd ∧ mg x = some (.ref f) ∧ Binds K fd ps []
/-- an own class of errors -/
structure ClsX (K : PySem.W.Frag) (mg : Str → Option Value) (x : Str) : Prop where
  ex : ∃ C, mg x = some (.ref C) ∧ PySem.W.excIn K C [.type "ValueError", .type "Exception", .type "BaseException", .type "object"] "ValueError.__new__" = true ∧ PySem.W.keepIn K (.ref C) = true ∧
    PySem.W.subIn K (.ref C) (.type "BaseException") = some true ∧ PySem.W.typeIn K (.ref C) = some (.type "type")
theorem takesF {X : Cx} : Takes X WF := L2.takes0
section
variable {X : Cx} {W : WX} {e : Expr} {es : List Expr} {pos : Pos} {x : Str} {p : Pos} {k j : Nat} {fA : FA} {ps : List Str} {m : MF}
theorem de_c {gd gd' : Bool} (C : Callee gd' X.prog X.w X.K X.mg X.base k x ps m) (hr : RG gd j X.A) (hj : k ≤ j) (tk : Takes X W) (hg : Gl X x) (ha : DA X W (e :: es) fA) (hdb : (x == ("__debug__" : Str)) = false := by decide) (he : starEach (e :: es) X.env = (false, eval e X.env) :: starEach es X.env := by rfl) (hpl : (backTo pos (starEach es X.env)).any (·.1) = false := by rfl) (hle : (!gd' || gd) = true := by rfl) :
    DE X W (.Call (.Name x p) (e :: es) [] pos) (callV m [] fA) := by
  obtain ⟨f, fd, h1, h2, h3, h4⟩ := C.ex
  exact de_call h1 ((hr.mono hj).le hle) hg h2 h3 h4 .nil (fun _ => .nil) tk ha hdb he hpl
theorem de_cP {gd gd' : Bool} (C : Callee gd' X.prog X.w X.K X.mg X.base k x ps m) (hr : RG gd j X.A) (hj : k ≤ j) (tk : Takes X W) (hg : Gl X x) (ha : DA X W (e :: es) fA) (hdb : (x == ("__debug__" : Str)) = false := by decide) (he : starEach (e :: es) X.env = (false, eval e X.env) :: starEach es X.env := by rfl) (hpl : (backTo pos (starEach es X.env)).any (·.1) = false := by rfl) (hle : (!gd' || gd) = true := by rfl) :
    DE X W (.Call (.Name x p) (e :: es) [] pos) (callP m fA) := by
  obtain ⟨f, fd, h1, h2, h3, h4⟩ := C.ex
  exact de_callP h1 ((hr.mono hj).le hle) hg h2 h3 h4 tk ha hdb he hpl
theorem ds_raiseC {mm : Str} {jj : Nat} {p2 pos1 : Pos} (hX : ClsX X.K X.mg x) (hc : X.calm = true) (tk : Takes X W) (hg : Gl X x) (hdb : (x == ("__debug__" : Str)) = false := by decide) : DS X W (.Raise (some (.Call (.Name x p) [.Constant (.str mm) jj p2] [] pos1)) none pos) (raiseF x) := by
  obtain ⟨C, h1, h2, h3, h4, h5⟩ := hX.ex
  exact ds_raise hc tk PySem.F.excBase_ValueError h2 h1 h3 (raises_own h4 h5) hg hdb
end
section
variable {P : Program} {w : World} {K : PySem.W.Frag} {mg : Str → Option Value} {base : Heap}
theorem callee_ok {gd : Bool} {x : Str} {st : Stmt} {N ps : List Str} {k : Nat} {fS : FS} (h : Has K mg x st ps) (S : FnScope N ps (defScope st))
    (hb : ∀ (f : Addr) (cdv : Value) (A : Around) (outer : List Env) (s : Shared) (H : Hp) (E : XK), RG gd k (A.deeper (envOfC x (defScope st) s.heap.objs.size f cdv)) → mg x = some (.ref f) → CdOf K f cdv →
      DSs (cxOf (L2.CX P w) P w K mg base N x (defScope st) f cdv A outer s H E) (WD E) (defBody st) fS) : Callee gd P w K mg base (k + 1) x ps (bodyF ps.length N.length fS) := by
  obtain ⟨f, fd, h1, h2, h3⟩ := h.ex
  exact ⟨f, fd, def_ok h1 S fun cdv A outer s H E hr hc => hb f cdv A outer s H E hr h2 hc, h2, h1.kp, h3⟩
end
theorem bt_abs : bootBuiltins "abs" = some (.builtin "abs") := by decide +kernel
theorem bt_len : bootBuiltins "len" = some (.builtin "len") := by decide +kernel
theorem bt_all : bootBuiltins "all" = some (.builtin "all") := by decide +kernel
theorem bt_any : bootBuiltins "any" = some (.builtin "any") := by decide +kernel
theorem bt_max : bootBuiltins "max" = some (.builtin "max") := by decide +kernel
theorem bt_min : bootBuiltins "min" = some (.builtin "min") := by decide +kernel
theorem bt_int : bootBuiltins "int" = some (.type "int") := by decide +kernel
theorem bt_bool : bootBuiltins "bool" = some (.type "bool") := by decide +kernel
theorem bt_str : bootBuiltins "str" = some (.type "str") := by decide +kernel
theorem bt_list : bootBuiltins "list" = some (.type "list") := by decide +kernel
theorem bt_tuple : bootBuiltins "tuple" = some (.type "tuple") := by decide +kernel
theorem bt_repr : bootBuiltins "repr" = some (.builtin "repr") := by decide +kernel
end DL
set_option Elab.async false
set_option linter.all false
set_option maxRecDepth 100000
set_option maxHeartbeats 4000000
namespace DL
open PySem PySem.Spec PyProof.Rows L2

/-! ### room -/
theorem ru64 {g : Bool} {k : Nat} {A : Around} (h : RG g k A) : A.units + 64 < cLine := h.rm.units
theorem ru65 {g : Bool} {k : Nat} {A : Around} (h : RG g k A) : A.units + 65 < cLine := by have := h.rm.un; omega
theorem ru128 {g : Bool} {k : Nat} {A : Around} (h : RG g k A) : A.units + 128 < cLine := by have := h.rm.un; omega
def muI (i : Nat) (env : EnvD) : Nat := match env[i]? with
  | some (some (.val (.int k))) => k.natAbs + 1
  | _ => 0
theorem dg_tupC {X : Cx} {K : PySem.W.Frag} {es : List Expr} {p : Pos} {k n : Nat} {gs : TGs} {gts : GTs} {tgs : List Nat} (hc : X.calm = true) (h : DGs X es gs gts tgs) (hl : gtsLen gts n)
    (hn : (assignEach es X.env).length = n := by rfl) (hst : (assignEach es X.env).findIdx? (·.1) = none := by rfl) (hK : X.K = K := by rfl) : DG X (.Tuple es k p) (gTup K n gs) (gtTup gts) tgs := by
  subst hK
  exact dg_tup h hl (pg_tup hc h.pg hn hst)

/-! ### constants of the text, at any depth -/
mutual
def cB (K : PySem.W.Frag) : PyData → Value → Bool
  | .none, u => (match u with
    | .none => true
    | _ => false)
  | .bool b, u => (match u with
    | .bool c => b == c
    | _ => false)
  | .int i, u => (match u with
    | .int j _ => decide (i = j)
    | _ => false)
  | .str x, u => (match u with
    | .str y _ => decide (x = y)
    | _ => false)
  | .tuple ds, u => (match u with
    | .ref a => (match K.lookup a with
      | some ⟨.type c, _, .seq its _, _⟩ => decide (c = "tuple") && (decide (its.size ≤ sizeLine) && cBs K ds its.toList)
      | _ => false)
    | _ => false)
  | _, _ => false
def cBs (K : PySem.W.Frag) : List PyData → List Value → Bool
  | [], us => us.isEmpty
  | d :: ds, us => (match us with
    | u :: us => cB K d u && cBs K ds us
    | _ => false)
end
mutual
theorem cB_ok {K : PySem.W.Frag} : ∀ (d : PyData) (u : Value), cB K d u = true → ∃ v, RelV v u ∧ ∀ F, Rp K F v d
  | .none, u, h => by
    cases u with
    | none => exact ⟨.non, rfl, fun _ => .non⟩
    | _ => simp [cB] at h
  | .bool b, u, h => by
    cases u with
    | bool c => simp [cB] at h; subst h; exact ⟨.bl b, rfl, fun _ => .bl b⟩
    | _ => simp [cB] at h
  | .int i, u, h => by
    cases u with
    | int j t => simp [cB] at h; subst h; exact ⟨.int i, ⟨t, rfl⟩, fun _ => .int i⟩
    | _ => simp [cB] at h
  | .str x, u, h => by
    cases u with
    | str y t => simp [cB] at h; subst h; exact ⟨.str x, ⟨t, rfl⟩, fun _ => .str x⟩
    | _ => simp [cB] at h
  | .tuple ds, u, h => by
    cases u with
    | ref a =>
      unfold cB at h
      dsimp only at h
      split at h
      · rename_i c od its n sl hl
        simp only [Bool.and_eq_true, decide_eq_true_eq] at h
        obtain ⟨h1, h2, h3⟩ := h
        obtain ⟨vs, r1, r2⟩ := cBs_ok ds its.toList h3
        exact ⟨.ref a, rfl, fun F => .tup (.inr ⟨_, its, n, hl, congrArg Value.type h1, rfl, h2, r1⟩) (r2 F)⟩
      · cases h
    | _ => simp [cB] at h
  | .list _, u, h => by simp [cB] at h
  | .dict _, u, h => by simp [cB] at h
theorem cBs_ok {K : PySem.W.Frag} : ∀ (ds : List PyData) (us : List Value), cBs K ds us = true → ∃ vs, Vals vs us ∧ ∀ F, RpL K F vs ds
  | [], us, h => by
    cases us with
    | nil => exact ⟨[], .nil, fun _ => .nil⟩
    | cons _ _ => simp [cBs] at h
  | d :: ds, us, h => by
    cases us with
    | nil => simp [cBs] at h
    | cons u us =>
      simp only [cBs, Bool.and_eq_true] at h
      obtain ⟨v, r1, r2⟩ := cB_ok d u h.1
      obtain ⟨vs, r3, r4⟩ := cBs_ok ds us h.2
      exact ⟨v :: vs, .cons r1 r3, fun F => .cons (r2 F) (r4 F)⟩
end
/-- the module's name x stands for the constant d -/
def glB (K : PySem.W.Frag) (x : Str) (d : PyData) : Bool := match PySem.W.nsIn K mainGlobals x with
  | some (some u) => cB K d u
  | _ => false
theorem glB_ok {K : PySem.W.Frag} {h : Heap} {mg : Str → Option Value} (X : K.In h) (G : h.Ns mainGlobals mg) {x : Str} {d : PyData} (c : glB K x d = true) : GlD K mg x d := by
  unfold glB at c
  split at c
  · rename_i u e
    obtain ⟨v, r1, r2⟩ := cB_ok d u c
    exact ⟨v, u, PySem.W.mg_of X G e, r1, r2⟩
  · cases c

/-! ### d.get(k), d a dict of the module with text keys -/
def KD (K : PySem.W.Frag) (w : World) (a : Addr) : Prop := ∃ es n, K.lookup a = some ⟨.type "dict", none, .dict es n, #[]⟩ ∧ PySem.W.KeysLit w.params es.toList ∧ (a == sysModules) = false
def KGet (K : PySem.W.Frag) (a : Addr) (z : Str) : Option V → Prop
  | none => PySem.W.nsIn K a z = some none
  | some v => ∃ u, PySem.W.nsIn K a z = some (some u) ∧ RelV v u
def tKGet (K : PySem.W.Frag) (w : World) (td ty : TE) : TE := fun σ H Q => td σ H fun x H1 => ∃ a, x = .ref a ∧ KD K w a ∧ ty σ H1 fun y H2 => ∃ z ov, y = .str z ∧ KGet K a z ov ∧ Q (ov.getD .non) H2
section
variable {X : Cx} {W : WX} {o e : Expr} {apos cpos : Pos} {td ty : TE} {f : FE}
theorem pe_kget (ho : PE X o td) (he : PE X e ty) (m : M1 X o "get" apos e cpos) : PE X (.Call (.Attribute o "get" apos) [e] [] cpos) (tKGet X.K X.w td ty) := by
  refine ⟨fun pins s σ H Q I h => ?_⟩
  refine wpAny_Call_method m.base m.few m.line PySem.F.plainAttrs_dict PySem.F.slot_dict_get PySem.F.type_dict_get (thn (ho.run pins s σ H _ I h) fun u s1 ⟨x, H1, I1, rx, a, ex, d, q1⟩ => ?_)
  subst ex
  obtain rfl : u = Value.ref a := rx
  obtain ⟨es, n, hl, hk, low⟩ := d
  have hm1 := PySem.W.mapOf_K (prog := X.prog) (w := X.w) I1.kIn hl hk
  refine ⟨hm1.typeIs, fun b q => ?_, ?_⟩
  · cases q
    exact ⟨_, I1.kIn _ _ hl, rfl⟩
  rw [m.trees]
  refine Calls.callWith_builtin rfl (Calls.evalArgs_plain (Calls.spliced_cons (thn (he.run pins s1 σ H1 _ I1 q1) fun iv s2 ⟨y, H2, I2, ry, z, ov, ey, g, q2⟩ => Calls.spliced_nil ?_)))
  subst ey
  obtain ⟨t, rfl⟩ := (show ∃ t, iv = Value.str z t from ry)
  have hm2 := PySem.W.mapOf_K (prog := X.prog) (w := X.w) I2.kIn hl hk
  refine call_meetsIn PySem.F.slot_dict_get hm2.typeIs PySem.F.entry_dict_get (PySem.F.args_dict_get_2 _ _) (meets_dict_get (strKind X.prog X.w) a (strKind_is X.prog X.w z t) low) ⟨_, hm2, ?_⟩
  cases ov with
  | none =>
    rw [PySem.W.find_K hl g]
    exact ⟨.non, H2, I2.tok _, rfl, q2⟩
  | some v =>
    obtain ⟨u, g1, g2⟩ := g
    rw [PySem.W.find_K hl g1]
    exact ⟨_, H2, I2.tok _, g2, q2⟩
end
def lookS (z : Str) : List (Str × PyData) → Option PyData
  | [] => none
  | (k, d) :: r => if k = z then some d else lookS z r
/-- the module's name x stands for that dict -/
structure KDic (K : PySem.W.Frag) (w : World) (mg : Str → Option Value) (x : Str) (es : List (Str × PyData)) : Prop where
  ex : ∃ a, mg x = some (.ref a) ∧ KD K w a ∧ ∀ z, match lookS z es with
    | none => PySem.W.nsIn K a z = some none
    | some d => ∃ u v, PySem.W.nsIn K a z = some (some u) ∧ RelV v u ∧ ∀ F, Rp K F v d
def kgetD (es : List (Str × PyData)) : Sl → EnvD → M (Sl × EnvD) := fun s env => match rd s env with
  | some (.str z) => match lookS z es with
    | none => M.ok (.val .none, env)
    | some d => M.ok (.val d, env)
  | _ => none
def eKGet (es : List (Str × PyData)) (f : FE) : FE := fun env => M.bind (f env) fun p => kgetD es (fz p.1) p.2
section
variable {X : Cx} {W : WX} {o e : Expr} {apos cpos : Pos} {f : FE}
theorem de_kget {x : Str} {p : Pos} {es : List (Str × PyData)} (h : KDic X.K X.w X.mg x es) (hg : Gl X x) (he : DE X W e f) (m : M1 X (.Name x p) "get" apos e cpos) (hd : (x == ("__debug__" : Str)) = false := by decide) :
    DE X W (.Call (.Attribute (.Name x p) "get" apos) [e] [] cpos) (eKGet es f) := by
  obtain ⟨t, pe, se⟩ := he.ex
  obtain ⟨a, h1, h2, h3⟩ := h.ex
  refine ⟨_, pe_kget (pe_glob (v := .ref a) hg h1 rfl hd) pe m, fun G O P ts env σ F H Q S hp => ?_⟩
  refine ⟨a, rfl, h2, se.thn S hp fun s env' v F' H' S' hp' => ?_⟩
  unfold kgetD at hp'
  cases q : rd s env' with
  | none => rw [q] at hp'; exact hp'.elim
  | some d =>
    rw [q] at hp'
    have rv := S'.sh (s := s) (v := v) (by simp) q
    cases d with
    | str z =>
      cases rv
      have h4 := h3 z
      cases q2 : lookS z es with
      | none =>
        rw [q2] at h4
        simp only [q2] at hp'
        exact ⟨z, none, rfl, h4, hp' .non F' H' S'.pop Rp.non⟩
      | some d =>
        rw [q2] at h4
        simp only [q2] at hp'
        obtain ⟨u, v, y1, y2, y3⟩ := h4
        exact ⟨z, some v, rfl, ⟨u, y1, y2⟩, hp' v F' H' S'.pop (y3 F')⟩
    | _ => exact hp'.elim
end
end DL
set_option Elab.async false
set_option linter.all false
set_option maxRecDepth 100000
set_option maxHeartbeats 4000000
namespace DL
open PySem PySem.Spec PyProof.Rows L2

/-! ### l.index(x), l.count(x) -/
def rCountD (K : PySem.W.Frag) : V → List V → Hp → VK → Prop := fun x xs H Q => ∃ (a : Addr) (y : V) (d : PyData) (ds : List PyData), x = V.ref a ∧ xs = [y] ∧ Dp K H (V.ref a) (.list ds) ∧ Dp K H y d ∧
  SeqAt.shaped (.list ds) = true ∧ SeqAt.shaped d = true ∧ Q (.int (ds.countP fun z => PyData.eqv z d : Nat)) H
theorem mt_countD {X : Cx} (hu : X.A.units + 65 < cLine) : MtR X "list.count" (rCountD X.K) := by
  intro pins s σ H x xs v us Q I rx rxs h
  obtain ⟨a, y, d, ds, rfl, rfl, hl, hy, sl, sd, q⟩ := h
  cases rx
  cases rxs with
  | cons ry rt =>
    rename_i uy ut
    cases rt
    obtain ⟨bs, r1⟩ := Dp.reads I d y uy hy ry
    have hxs : PyData.canLayAll0 ds = true := SeqAt.canLay_of_shaped sl
    have hroom : X.A.units + 1 + min (PyData.depthAll ds) d.depth < cLine := room_in_shaped sd hu
    cases hl with
    | lst hs ha =>
      obtain ⟨its, rv, ⟨⟨cls, dd, data, sls⟩, n, ho, hc, hdn, hdt⟩, hlen⟩ := I.list hs
      simp only at hc hdt
      subst hc hdt
      obtain ⟨as, h4⟩ := Dp.readsAll I ds _ its ha rv
      have hmap : its.map (SeqAt.readOf s.heap) = ds := SeqAt.readsAll_map ds its as hxs h4
      refine call_meets PySem.F.slot_list_count ⟨_, ho, rfl⟩ PySem.F.entry_list_count (PySem.F.args_list_count_2 _ _)
        (SeqAt.list_countAt a its.toArray n dd sls uy (fun u => PyData.eqv (SeqAt.readOf s.heap u) d)) ⟨ho, SeqAt.items_eqAt (vs := its.toArray) (show ReadsAll s.heap its.toArray.toList ds as from h4) r1 hxs (SeqAt.canLay_of_shaped sd) hroom, ?_⟩
      have e1 : its.toArray.toList.countP (fun u => PyData.eqv (SeqAt.readOf s.heap u) d) = ds.countP fun z => PyData.eqv z d := by
        rw [← hmap, List.countP_map] <;> rfl
      rw [e1]
      exact ⟨.int (ds.countP fun z => PyData.eqv z d : Nat), H, I.tok _, ⟨_, rfl⟩, q⟩
/-- the first place of an equal one -/
def idxN (ds : List PyData) (d : PyData) : Nat → Option Nat := fun k => match ds with
  | [] => none
  | z :: r => if PyData.eqv z d = true then some k else idxN r d (k + 1)
theorem idxN_ok {d : PyData} : ∀ {ds : List PyData} {k j : Nat}, idxN ds d k = some j → ∃ z, k ≤ j ∧ ds[j - k]? = some z ∧ PyData.eqv z d = true ∧ ∀ (m : Nat) (z' : PyData), m < j - k → ds[m]? = some z' → PyData.eqv z' d = false
  | [], k, j, h => by cases h
  | z :: r, k, j, h => by
    unfold idxN at h
    split at h
    · cases h
      exact ⟨z, Nat.le_refl _, by simp, by assumption, fun m z' hm _ => by omega⟩
    · rename_i hz
      obtain ⟨y, h1, h2, h3, h4⟩ := idxN_ok h
      have e : j - k = (j - (k + 1)) + 1 := by omega
      refine ⟨y, by omega, by rw [e]; simpa using h2, h3, fun m z' hm hz' => ?_⟩
      cases m with
      | zero =>
        simp at hz'
        subst hz'
        simpa using hz
      | succ m => exact h4 m z' (by omega) (by simpa using hz')
def indexD (l d : PyData) : Option Sl := match l with
  | .list ds => if SeqAt.shaped (.list ds) = true ∧ SeqAt.shaped d = true then (match idxN ds d 0 with
    | some j => some (.val (.int (j : Nat)))
    | none => none) else none
  | _ => none
def countD (l d : PyData) : Option Sl := match l with
  | .list ds => if SeqAt.shaped (.list ds) = true ∧ SeqAt.shaped d = true then some (.val (.int (ds.countP fun z => PyData.eqv z d : Nat))) else none
  | _ => none
def MtD (X : Cx) (r : V → List V → Hp → VK → Prop) (g : PyData → PyData → Option Sl) : Prop := ∀ (G O : Hp) (P : Nat → Option Addr) (ts : List (Sl × V)) (env : EnvD) (σ : L2.St) (F H : Hp) (x y : V) (d1 d2 : PyData) (s : Sl) (Q : VK),
  SR X.K G O P ts env σ F H → Sh X.K F H x d1 → Sh X.K F H y d2 → g d1 d2 = some s → (∀ v F' H', SR X.K G O P ts env σ F' H' → RsOk X.K F' H' O env σ s v → Q v H') → r x [y] H Q
theorem md_index {X : Cx} : MtD X (rIndexD X.K) indexD := by
  intro G O P ts env σ F H x y d1 d2 s Q S h1 h2 e q
  unfold indexD at e
  split at e
  · rename_i ds
    split at e
    · rename_i hs
      split at e
      · rename_i j hj
        cases e
        obtain ⟨z, _, z1, z2, z3⟩ := idxN_ok hj
        obtain ⟨a, xs, rfl, q1, r1⟩ := id h1
        exact ⟨a, y, d2, ds, j, z, rfl, rfl, Sh.dp S.fh (SeqAt.canLay_of_shaped hs.1) h1, Sh.dp S.fh (SeqAt.canLay_of_shaped hs.2) h2, hs.1, hs.2, z1, z2, z3, q _ F H S (.int _)⟩
      · cases e
    · cases e
  · cases e
theorem md_count {X : Cx} : MtD X (rCountD X.K) countD := by
  intro G O P ts env σ F H x y d1 d2 s Q S h1 h2 e q
  unfold countD at e
  split at e
  · rename_i ds
    split at e
    · rename_i hs
      cases e
      obtain ⟨a, xs, rfl, q1, r1⟩ := id h1
      exact ⟨a, y, d2, ds, rfl, rfl, Sh.dp S.fh (SeqAt.canLay_of_shaped hs.1) h1, Sh.dp S.fh (SeqAt.canLay_of_shaped hs.2) h2, hs.1, hs.2, q _ F H S (.int _)⟩
    · cases e
  · cases e
def eM1 (g : PyData → PyData → Option Sl) (fo fe : FE) : FE := fun env => M.bind (fo env) fun p => match rd (fz p.1) p.2 with
  | some (.list _) => M.bind (fe p.2) fun q => fin (g2 g (rd (fz p.1) q.2) (rd (fz q.1) q.2)) q.2
  | _ => none
section
variable {X : Cx} {W : WX} {o e : Expr} {apos cpos : Pos} {fo fe : FE} {name : Str} {id : String} {r : V → List V → Hp → VK → Prop} {g : PyData → PyData → Option Sl}
theorem de_m1 (slot : Slot "list" name id) (hty : typeOf (.builtin id) = pure (.type "method_descriptor")) (hm : MtR X id r) (hg : MtD X r g) (ho : DE X W o fo) (he : DE X W e fe)
    (hbase : attributeBase o name X.env (eval o X.env) = eval o X.env := by rfl)
    (hfew : ((backTo cpos (starEach [e] X.env)).all (fun x => !x.1) && (backToKw cpos (keywordEach [] X.env)).all (fun x => x.1.isSome)
      && decide (([e] : List Expr).length + ([] : List Keyword).length + (if ([] : List Keyword).isEmpty then 0 else 1) < 30)) = true := by rfl)
    (hline : (apos.endLine == cpos.line) = true := by rfl) (hs : starEach [e] X.env = (false, eval e X.env) :: starEach [] X.env := by rfl) (hplain : (backTo cpos (starEach [] X.env)).any (·.1) = false := by rfl) :
    DE X W (.Call (.Attribute o name apos) [e] [] cpos) (eM1 g fo fe) := by
  obtain ⟨to, po, so⟩ := ho.ex
  obtain ⟨te, pe, se⟩ := he.ex
  refine ⟨_, pe_bm PySem.F.plainAttrs_list slot hty hm po (pa_cons pe pa_nil hs) hbase hfew hline hs hplain, fun G O P ts env σ F H Q S hp => ?_⟩
  refine so.thn (k := fun s env' => match rd s env' with
    | some (.list _) => M.bind (fe env') fun q => fin (g2 g (rd s q.2) (rd (fz q.1) q.2)) q.2
    | _ => none) S hp fun s env' v F' H' S' hp' => ?_
  cases q : rd s env' with
  | none => rw [q] at hp'; exact hp'.elim
  | some d =>
    rw [q] at hp'
    cases d with
    | list ds =>
      dsimp only at hp'
      have h1 := S'.sh (s := s) (v := v) (by simp) q
      obtain ⟨a, xs, rfl, q1, r1⟩ := (show Sh X.K F' H' v (.list ds) from h1)
      refine ⟨.inl ⟨rfl, xs, .inl q1⟩, ?_⟩
      refine se.thn (k := fun s2 env2 => fin (g2 g (rd s env2) (rd s2 env2)) env2) S' hp' fun s2 env2 v2 F2 H2 S2 hp2 => ?_
      obtain ⟨sr, e0, q2⟩ := fin_ok hp2
      unfold g2 at e0
      split at e0
      · rename_i da z1
        split at e0
        · rename_i db z2
          have y1 := S2.sh (s := s) (v := .ref a) (by simp) z1
          have y2 := S2.sh (s := s2) (v := v2) (by simp) z2
          exact hg G O P ts env2 σ F2 H2 _ _ da db sr Q (S2.sub fun p hp => by simp [hp]) y1 y2 e0 q2
        · cases e0
      · cases e0
    | _ => exact hp'.elim
end
end DL
set_option Elab.async false
set_option linter.all false
set_option maxRecDepth 100000
set_option maxHeartbeats 4000000
namespace DL
open PySem PySem.Spec PyProof.Rows L2

/-! ### repr of lists and tuples -/
def reprOk (d : PyData) : Bool := PyData.layable0 d && (d.showable && (!d.hasDict && d.intsShort 13))
def reprD : List PyData → Option Sl := fun ds => match ds with
  | [.list xs] => if reprOk (.list xs) = true then some (.val (.str (PyData.shown (.list xs)))) else none
  | [.tuple xs] => if reprOk (.tuple xs) = true then some (.val (.str (PyData.shown (.tuple xs)))) else none
  | _ => none
def rRepr (K : PySem.W.Frag) : List V → Hp → VK → Prop := fun xs H Q => ∃ a d, xs = [.ref a] ∧ Dp K H (.ref a) d ∧ reprOk d = true ∧ Q (.str d.shown) H
section
variable {X : Cx}
theorem call_reprD (hg : X.A.guards = some []) (hu : X.A.units + 128 < cLine) : CallR X (.builtin "repr") (rRepr X.K) := by
  intro pins s σ H xs us Q I r h
  obtain ⟨a, d, rfl, hd, hok, q⟩ := h
  obtain ⟨u, rfl, ru⟩ := r.one
  cases ru
  obtain ⟨as, r1⟩ := Dp.reads I d (.ref a) (.ref a) hd rfl
  unfold reprOk at hok
  simp only [Bool.and_eq_true, Bool.not_eq_true'] at hok
  obtain ⟨h1, h2, h3, h4⟩ := hok
  have h5 : d.shown.length ≤ sizeLine := by
    have := shown_le13 h1 h4
    rw [sizeLine_eq]; omega
  have h6 : d.depth ≤ 64 := by
    have h7 : (PyData.canLay0 d && decide (PyData.depth d ≤ 64) && decide (PyData.weight d ≤ 2 ^ 20)) = true := h1
    simp only [Bool.and_eq_true, decide_eq_true_eq] at h7
    exact h7.1.2
  exact repr_of_reads' r1 h2 (PyData.noDict_hsm h3) hg (by omega) (fun _ _ e => e) (fun h' u tk hk => ⟨.str d.shown, H, I.kept (t' := tk) hk, ⟨u, rfl⟩, q⟩) h5
theorem reprOk_lay {d : PyData} (h : reprOk d = true) : d.canLay0 = true := by
  unfold reprOk at h
  simp only [Bool.and_eq_true] at h
  have h1 : (PyData.canLay0 d && decide (PyData.depth d ≤ 64) && decide (PyData.weight d ≤ 2 ^ 20)) = true := h.1
  simp only [Bool.and_eq_true] at h1
  exact h1.1.1
theorem cd_repr : CallD X (rRepr X.K) reprD := by
  intro G O P ts env σ F H vs ds s Q S h e q
  unfold reprD at e
  split at e
  · split at e
    · rename_i hk
      cases e
      cases h with
      | cons h1 h2 =>
        cases h2
        obtain ⟨a, xs, rfl, z⟩ := id h1
        exact ⟨a, _, rfl, Sh.dp S.fh (reprOk_lay hk) h1, hk, q _ F H S (.str _)⟩
    · cases e
  · split at e
    · rename_i hk
      cases e
      cases h with
      | cons h1 h2 =>
        cases h2
        obtain ⟨a, xs, rfl, z⟩ := Sh.tup S.fh h1
        exact ⟨a, _, rfl, Sh.dp S.fh (reprOk_lay hk) h1, hk, q _ F H S (.str _)⟩
    · cases e
  · cases e
end

/-! ### isinstance of the error that a suite holds -/
/-- the text's classes of errors: each is of itself alone, a ValueError, a WaterError -/
structure ErrF (K : PySem.W.Frag) (mg : Str → Option Value) (cs : List Str) : Prop where
  ex : ∀ c ∈ cs, ∃ D, mg c = some (.ref D) ∧ ExcC K D ∧ PySem.W.kitOne K (.ref D) (.type "ValueError") = some true ∧ (∃ CW, mg "WaterError" = some (.ref CW) ∧ PySem.W.exmOne K (.ref D) (.ref CW) = some true) ∧
    ∀ x ∈ cs, ∃ Cx, mg x = some (.ref Cx) ∧ PySem.W.kitOne K (.ref D) (.ref Cx) = some (decide (c = x))
def eIsE (i a : Nat) (b : Bool) : FE := fun env => match env[i]? with
  | some (some (.al j)) => if j = a then M.ok (.val (.bool b), env) else none
  | _ => none
section
variable {X : Cx} {W : WX} {c x n : Str} {D a : Addr} {oe : Obj} {pn : List (Addr × Obj)} {cs : List Str} {p pe px pos : Pos}
theorem snd_isE {K : PySem.W.Frag} {mg : Str → Option Value} {i : Nat} {b : Bool} {cv : V} {u : Value} (hu : ∀ z, RelV cv z → z = u) (hk : PySem.W.kitOne K (.ref D) u = some b) {tc : TE} (ht : ∀ σ H (Q : VK), Q cv H → tc σ H Q) :
    SndE K mg W (tCB (rIsE K D a) (tCons (tVar i) (tCons tc tNil))) (eIsE i a b) := by
  intro G O P ts env σ F H Q S hp
  unfold eIsE at hp
  cases q : env[i]? with
  | none => rw [q] at hp; exact hp.elim
  | some o =>
    rw [q] at hp
    cases o with
    | none => exact hp.elim
    | some s =>
      cases s with
      | al j =>
        dsimp only at hp
        split at hp
        · rename_i hj
          subst hj
          obtain ⟨v, f1, f2⟩ := S.slot i _ q
          cases f2
          exact ⟨.ref j, f1, ht _ _ _ ⟨cv, u, b, rfl, hu, hk, hp (.bl b) F H S (.bl b)⟩⟩
        · exact hp.elim
      | val _ => exact hp.elim
      | own _ => exact hp.elim
      | pen _ => exact hp.elim
theorem de_isX (i : Nat) (EF : ErrF X.K X.mg cs) (hc : c ∈ cs) (hD : X.mg c = some (.ref D)) (hx : x ∈ cs) (hz : Zc (.ref D) none oe) (hf : ∃ vs, oe.data = .fields vs) (hgi : Gl (X.suite a ((a, oe) :: pn)) "isinstance") (hmi : X.mg "isinstance" = none) (hgx : Gl (X.suite a ((a, oe) :: pn)) x)
    (hN : (X.suite a ((a, oe) :: pn)).N[i]? = some n) (hv : Vis (X.suite a ((a, oe) :: pn)).env.scope n) (hd : (n == ("__debug__" : Str)) = false := by decide) (hcd : (n == ("__classdict__" : Str)) = false := by decide) (hdx : (x == ("__debug__" : Str)) = false := by decide)
    (he : starEach [.Name n pe, .Name x px] (X.suite a ((a, oe) :: pn)).env = (false, eval (.Name n pe) (X.suite a ((a, oe) :: pn)).env) :: starEach [.Name x px] (X.suite a ((a, oe) :: pn)).env := by rfl) (he2 : starEach [.Name x px] (X.suite a ((a, oe) :: pn)).env = (false, eval (.Name x px) (X.suite a ((a, oe) :: pn)).env) :: starEach [] (X.suite a ((a, oe) :: pn)).env := by rfl)
    (hpl : (backTo pos (starEach [.Name x px] (X.suite a ((a, oe) :: pn)).env)).any (·.1) = false := by rfl) :
    DE (X.suite a ((a, oe) :: pn)) W (.Call (.Name "isinstance" p) [.Name n pe, .Name x px] [] pos) (eIsE i a (decide (c = x))) := by
  obtain ⟨D', h1, h2, h3, h4, h5⟩ := EF.ex c hc
  rw [hD] at h1
  cases h1
  obtain ⟨Cx, g1, g2⟩ := h5 x hx
  have pc : PE (X.suite a ((a, oe) :: pn)) (.Name x px) _ := pe_glob (X := X.suite a ((a, oe) :: pn)) (v := .ref Cx) hgx g1 rfl hdx
  exact ⟨_, pe_callB (call_isE h2 hz hf) hgi hmi (by decide +kernel) (pa_cons (pe_var hN hv hd hcd) (pa_cons pc pa_nil he2) he) (by decide) (by decide) he hpl, snd_isE (cv := .ref Cx) (u := .ref Cx) (fun z r => r) g2 fun σ H Q q => q⟩
theorem de_isV (i : Nat) (EF : ErrF X.K X.mg cs) (hc : c ∈ cs) (hD : X.mg c = some (.ref D)) (hz : Zc (.ref D) none oe) (hf : ∃ vs, oe.data = .fields vs) (hgi : Gl (X.suite a ((a, oe) :: pn)) "isinstance") (hmi : X.mg "isinstance" = none) (hgx : Gl (X.suite a ((a, oe) :: pn)) "ValueError") (hmx : X.mg "ValueError" = none)
    (hN : (X.suite a ((a, oe) :: pn)).N[i]? = some n) (hv : Vis (X.suite a ((a, oe) :: pn)).env.scope n) (hd : (n == ("__debug__" : Str)) = false := by decide) (hcd : (n == ("__classdict__" : Str)) = false := by decide)
    (he : starEach [.Name n pe, .Name "ValueError" px] (X.suite a ((a, oe) :: pn)).env = (false, eval (.Name n pe) (X.suite a ((a, oe) :: pn)).env) :: starEach [.Name "ValueError" px] (X.suite a ((a, oe) :: pn)).env := by rfl) (he2 : starEach [.Name "ValueError" px] (X.suite a ((a, oe) :: pn)).env = (false, eval (.Name "ValueError" px) (X.suite a ((a, oe) :: pn)).env) :: starEach [] (X.suite a ((a, oe) :: pn)).env := by rfl)
    (hpl : (backTo pos (starEach [.Name "ValueError" px] (X.suite a ((a, oe) :: pn)).env)).any (·.1) = false := by rfl) :
    DE (X.suite a ((a, oe) :: pn)) W (.Call (.Name "isinstance" p) [.Name n pe, .Name "ValueError" px] [] pos) (eIsE i a true) := by
  obtain ⟨D', h1, h2, h3, h4, h5⟩ := EF.ex c hc
  rw [hD] at h1
  cases h1
  have pc : PE (X.suite a ((a, oe) :: pn)) (.Name "ValueError" px) _ := pe_bltn (X := X.suite a ((a, oe) :: pn)) (v := .ty "ValueError") hgx hmx (by decide +kernel) rfl (by decide) (by decide)
  exact ⟨_, pe_callB (call_isE h2 hz hf) hgi hmi (by decide +kernel) (pa_cons (pe_var hN hv hd hcd) (pa_cons pc pa_nil he2) he) (by decide) (by decide) he hpl, snd_isE (cv := .ty "ValueError") (u := .type "ValueError") (fun z r => r) h3 fun σ H Q q => q⟩
end
end DL
set_option Elab.async false
set_option linter.all false
set_option maxRecDepth 100000
set_option maxHeartbeats 4000000
namespace DL
open PySem PySem.Spec PyProof.Rows L2 LamX

/-! ### x(lambda: ..), x a def that tells what the lambda tells, or a word of the refusal -/
def tSD (K : PySem.W.Frag) (mg : Str → Option Value) (W : WX) (f : FS) : TS := fun D σ H => ∃ G O P env F, SR K G O P [] env σ F H ∧ PostS K mg W G O P D (f env)
theorem DSs.can {X : Cx} {W : WX} {st : List Stmt} {f : FS} (h : DSs X W st f) : PSs X st (tSD X.K X.mg W f) := by
  obtain ⟨t, p, s⟩ := h.ex
  exact ⟨fun pins sh σ H D I ⟨G, O, P, env, F, S, hp⟩ => p.run pins sh σ H D I (s G O P env σ F H D S hp)⟩
section
variable {K : PySem.W.Frag} {mg : Str → Option Value} {G O F F' F2 H H1 H2 H3 : Hp} {P : Nat → Option Addr} {ts : List (Sl × V)} {env : EnvD} {σ : L2.St}
/-- a lambda was made -/
theorem SR.lam (h : SR K G O P ts env σ F H) (e : ExtN H H1) (t : Tabs (TabK K) H1) : SR K G O P ts env σ F H1 := by
  refine ⟨h.gf, fun b x q => e b x (h.fh b x q) fun ps z => h.nt b ps (z ▸ q), h.oh.lam e t, h.dj, h.len, fun i s q => ?_, h.tmp, h.sep, h.nt⟩
  obtain ⟨v, f1, f2⟩ := h.slot i s q
  refine ⟨v, f1, ?_⟩
  cases s with
  | val d => exact f2
  | own o =>
    obtain ⟨a, rfl, z1, z2, z3⟩ := f2
    obtain ⟨u, y1, y2⟩ := z3.soft
    exact ⟨a, rfl, z1, z2, z3.mono (Same.refl _) (by rw [e a u y1 y2.nt, y1])⟩
  | pen o =>
    obtain ⟨a, rfl, z0, z1, z2, z3⟩ := f2
    obtain ⟨u, y1, y2⟩ := z3.soft
    exact ⟨a, rfl, z0, z1, z2, z3.mono (Same.refl _) (by rw [e a u y1 y2.nt, y1])⟩
  | al j => exact f2
def mrg (F F' : Hp) : Hp := fun b => match F b with
  | some x => some x
  | none => F' b
theorem mrg_l : Same F (mrg F F') := fun b x q => by unfold mrg; rw [q]
theorem mrg_r (h : ∀ b x, F b = some x → F' b = none) : Same F' (mrg F F') := fun b x q => by
  unfold mrg
  cases e : F b with
  | none => exact q
  | some y => rw [h b y e] at q; cases q
/-- something else's heap behind it -/
theorem SR.mrg (h : SR K G O P ts env σ F2 H2) (e : ∀ b x, H2 b = some x → (∀ ps, x ≠ .tbl ps) → H3 b = some x ∧ F' b = none) (t : Tabs (TabK K) H3) (sf : Same F' H3) (nt : NoT F') : SR K G O P ts env σ (mrg F2 F') H3 := by
  have cs : ∀ b x, DL.mrg F2 F' b = some x → F2 b = some x ∨ (F2 b = none ∧ F' b = some x) := fun b x q => by
    unfold DL.mrg at q
    cases z : F2 b with
    | none => rw [z] at q; exact .inr ⟨rfl, q⟩
    | some y => rw [z] at q; exact .inl q
  have nn : ∀ b, F2 b = none → F' b = none → DL.mrg F2 F' b = none := fun b q1 q2 => by unfold DL.mrg; rw [q1]; exact q2
  refine ⟨h.gf.trans mrg_l, fun b x q => ?_, ⟨fun b x q => (e b x (h.oh.val b x q) fun ps z => h.oh.nt b ps (z ▸ q)).1, h.oh.nt, t⟩, fun b x q => ?_, h.len, fun i s q => ?_, fun p hp => (h.tmp p hp).mono mrg_l, h.sep, fun b ps q => ?_⟩
  · rcases cs b x q with z | ⟨_, z⟩
    · exact (e b x (h.fh b x z) fun ps y => h.nt b ps (y ▸ z)).1
    · exact sf b x z
  · exact nn b (h.dj b x q) (e b x (h.oh.val b x q) fun ps z => h.oh.nt b ps (z ▸ q)).2
  · obtain ⟨v, f1, f2⟩ := h.slot i s q
    refine ⟨v, f1, ?_⟩
    cases s with
    | val d => exact Rp.mono mrg_l _ _ f2
    | own o =>
      obtain ⟨a, rfl, z1, z2, z3⟩ := f2
      obtain ⟨u, y1, y2⟩ := z3.soft
      obtain ⟨g1, g2⟩ := e a u y1 y2.nt
      exact ⟨a, rfl, nn a z1 g2, z2, z3.mono mrg_l (by rw [g1, y1])⟩
    | pen o =>
      obtain ⟨a, rfl, z0, z1, z2, z3⟩ := f2
      obtain ⟨u, y1, y2⟩ := z3.soft
      obtain ⟨g1, g2⟩ := e a u y1 y2.nt
      exact ⟨a, rfl, z0, nn a z1 g2, z2, z3.mono mrg_l (by rw [g1, y1])⟩
    | al j => exact f2
  · rcases cs b _ q with z | ⟨_, z⟩
    · exact h.nt b ps z
    · exact nt b ps z
end
/-- what the def that calls wishes of a refusal -/
def EchS (K : PySem.W.Frag) (mg : Str → Option Value) (cs : List Str) (said : Str → PyData) (Q : VK) : XK := fun cls d H1 => d = none ∧ ∃ c C, cls = .ref C ∧ mg c = some (.ref C) ∧ c ∈ cs ∧ Tabs (TabK K) H1 ∧
  ∀ v F' H2, (∀ b x, H1 b = some x → (∀ ps, x ≠ .tbl ps) → H2 b = some x ∧ F' b = none) → Tabs (TabK K) H2 → Same F' H2 → NoT F' → Rp K F' v (said c) → Q v H2
def TTs (K : PySem.W.Frag) (mg : Str → Option Value) (cs : List Str) (told : Str) (said : Str → PyData) : (XK → Hp → VK → Prop) → Hp → VK → Prop := fun tl H Q =>
  tl (EchS K mg cs said Q) H fun v H1 => ([V.str told, v] : List V).length ≤ sizeLine ∧ ∀ p, H1 p = none → Q (.ref p) (upd H1 p (.tup [.str told, v]))
def hEnv (n i a : Nat) : EnvD := (List.replicate n none).set i (some (.al a))
theorem sr_hand {K : PySem.W.Frag} {H1 : Hp} {σ : L2.St} {n i a : Nat} (hn : σ.length = n) (hi : i < n) (t : Tabs (TabK K) H1) : SR K (fun _ => none) (fun b => match H1 b with | some (.tbl _) => none | o => o) (fun _ => none) [] (hEnv n i a) (σ.set i (some (.ref a))) (fun _ => none) H1 := by
  have at_ : ∀ (j : Nat) (s : Sl), (hEnv n i a)[j]? = some (some s) → j = i ∧ s = .al a := fun j s q => by
    unfold hEnv at q
    by_cases hj : i = j
    · subst hj
      rw [List.getElem?_set_self (by simpa using hi)] at q
      cases q
      exact ⟨rfl, rfl⟩
    · rw [List.getElem?_set_ne hj, List.getElem?_replicate] at q
      split at q <;> cases q
  refine ⟨Same.refl _, fun b x q => (by cases q), ⟨fun b x q => ?_, fun b ps q => ?_, t⟩, fun _ _ _ => rfl, by simp [hEnv, hn], fun j s q => ?_, fun p hp => absurd hp (by simp), fun j k s s' b q1 q2 w1 => ?_, fun b ps q => (by cases q)⟩
  · split at q
    · cases q
    · exact q
  · split at q
    · cases q
    · rename_i z
      exact z ps q
  · obtain ⟨rfl, rfl⟩ := at_ j s q
    exact ⟨.ref a, by rw [List.getElem?_set_self (by omega)], rfl⟩
  · obtain ⟨_, rfl⟩ := at_ j s q1
    exact w1.elim
section
variable {X : Cx}
theorem said_gives {Ng : List Str} {x a e q told : Str} {sg : Scope} {g CW : Addr} {cdg : Value} {i j kk : Nat} {p0 p1 p2 p3 p4 p7 p8 pt : Pos} {b0 : Stmt} {suite : List Stmt} {cs : List Str} {hS : Str → Nat → FS} {said : Str → PyData} (EF : ErrF X.K X.mg cs)
    (hge : sg.names.lookup ("WaterError" : Str) = some .globalImplicit) (hCW : X.mg "WaterError" = some (.ref CW)) (hN : Ng.Nodup) (hi : Ng[i]? = some e) (hle : sg.names.lookup e = some .local) (h0 : ∀ f : Addr, (L2.start Ng [V.ref f])[0]? = some (some (V.ref f)))
    (hH : ∀ (s : Shared) (H : Hp) (c : Str) (D ad : Addr) (oe : Obj) (pn : List (Addr × Obj)), c ∈ cs → X.mg c = some (.ref D) → Zc (.ref D) none oe → (∃ vs, oe.data = .fields vs) →
      DSs (((cxOf C8.CX0 X.prog X.w X.K X.mg X.base Ng x sg g cdg X.A X.stack s H C8.E0).nox).suite ad ((ad, oe) :: pn)) WF (b0 :: suite) (hS c ad))
    (hv : ∀ c ad, c ∈ cs → ∃ env', hS c ad (hEnv Ng.length i ad) = M.ok (.rt (.val (said c)) env')) :
    GivesTo X Ng x sg g cdg [.Try [.Return (some (.Tuple [.Constant (.str told) j p0, .Call (.Name a p1) [] [] p2] kk pt)) p3] [.ExceptHandler (some (.Name "WaterError" p4)) (some e) (b0 :: suite) p7] [] [] p8] a q (TTs X.K X.mg cs told said) := by
  intro f c' s H Q tl act hc h
  have hgl : Gl (cxOf C8.CX0 X.prog X.w X.K X.mg X.base Ng x sg g cdg X.A X.stack s H C8.E0).nox "WaterError" := hge
  have hin : i < Ng.length := (List.getElem?_eq_some_iff.mp hi).1
  refine ⟨_, pss_one (ps_try_as (X := (cxOf C8.CX0 X.prog X.w X.K X.mg X.base Ng x sg g cdg X.A X.stack s H C8.E0).nox) (c := .ref CW) (i := i) (n := e)
      (tb := fun W D σ H => ∃ Ech : XK, (∀ cls d σ' H', Ech cls d H' → W cls d σ' H') ∧ σ[0]? = some (some (.ref f)) ∧ H c' = some (CodeO c' q) ∧ tl Ech H fun v H1 => ([V.str told, v] : List V).length ≤ sizeLine ∧ ∀ p, H1 p = none → D.rt (.ref p) (upd H1 p (.tup [.str told, v])))
      (ts := fun ad cls d D σ H => σ.length = Ng.length → ∃ c C, cls = .ref C ∧ d = none ∧ X.mg c = some (.ref C) ∧ c ∈ cs ∧ tSD X.K X.mg WF (hS c ad) D σ H)
      rfl rfl hN hi hle ⟨hgl, by decide, .inl hCW⟩ L2.takes0 (fun W pn xe tk _ => ?_) (fun ad oe cls d pn hz hf => ?_)), ?_⟩
  · refine ⟨fun pins s' σ H' D I h' => ?_⟩
    obtain ⟨Ech, hW, h1, h2, h3⟩ := h'
    have hp := act W pn xe Ech p1 p2 tk hW
    have hq := pss_one (ps_ret (pos := p3) (pe_tup (x1 := kk) (pos := pt) (pa_cons (pe_str (x := told) (j := j) (pos := p0)) (pa_cons hp pa_nil))))
    exact hq.run pins s' σ H' D I ⟨h1, h2, h3⟩
  · refine ⟨fun pins sh σ H' D I hh => ?_⟩
    obtain ⟨c, C, rfl, rfl, hcm, hcs, h1⟩ := hh I.len
    exact (hH s H c C ad oe pn hcs hcm hz hf).can.run pins sh σ H' D I h1
  · refine ⟨EchS X.K X.mg cs said Q, fun cls d σ' H' hE => ?_, h0 f, hc, h⟩
    obtain ⟨rfl, c, C, rfl, hcm, hcs, tb, hq⟩ := hE
    obtain ⟨D', y1, y2, y3, ⟨CW', y4, y5⟩, y6⟩ := EF.ex c hcs
    rw [hcm] at y1
    cases y1
    rw [hCW] at y4
    cases y4
    refine ⟨true, y5, fun _ ad na hl => ⟨c, C, rfl, rfl, hcm, hcs, ?_⟩, fun z => by cases z⟩
    have hl' : σ'.length = Ng.length := by simpa using hl
    refine ⟨_, _, _, _, _, sr_hand hl' hin tb, ?_⟩
    obtain ⟨env', e1⟩ := hv c ad hcs
    rw [e1]
    intro v σ2 F' H2 S2 r2
    refine hq v F' H2 (fun b x hb hx => ?_) S2.oh.tb S2.fh S2.nt r2
    have ho : (match H' b with | some (.tbl _) => none | o => o) = some x := by
      rw [hb]
      cases x with
      | tbl ps => exact absurd rfl (hx ps)
      | _ => rfl
    exact ⟨S2.oh.val b x ho, S2.dj b x ho⟩
end
def saidF (cs : List Str) (told : Str) (said : Str → PyData) (fb : FE) : FE := fun env => match fb env with
  | none => none
  | some (.ok p) => match frz1 (fz p.1) p.2 with
    | some q => M.ok (.val (.tuple [.str told, q.1]), q.2)
    | none => none
  | some (.err c env1) => if c ∈ cs then M.ok (.val (said c), env1) else none
section
variable {X : Cx} {W : WX}
theorem snd_said {cs : List Str} {told : Str} {said : Str → PyData} {fb : FE} {σ : L2.St} : SndE X.K X.mg W (tLam (TabK X.K) (TTs X.K X.mg cs told said) fun E => tE X.K X.mg (WD E) fb) (saidF cs told said fb) := by
  intro G O P ts env σ F H Q S hp
  refine ⟨S.oh.tb, fun H1 eN T1 => ?_⟩
  have S1 := S.lam eN T1
  refine ⟨F, O, P, [], env, F, (S1.sub (ts' := []) (fun p hp => absurd hp (by simp))).base, ?_⟩
  unfold saidF at hp
  cases e : fb env with
  | none => rw [e] at hp; exact hp.elim
  | some o =>
    rw [e] at hp
    cases o with
    | ok pr =>
      intro v F2 H2 S2 r2
      refine ⟨by rw [sizeLine_eq]; show 2 ≤ 16777216; decide, fun p np => ?_⟩
      dsimp only at hp
      obtain ⟨F3, m3, S3⟩ := S2.keep r2
      cases e2 : frz1 (fz pr.1) pr.2 with
      | none => rw [e2] at hp; exact hp.elim
      | some q =>
        obtain ⟨d, env2⟩ := q
        rw [e2] at hp
        obtain ⟨F4, m4, S4, r4⟩ := S3.frz1 (S3.tmp (fz pr.1, v) (by simp)) e2
        obtain ⟨S5, r5⟩ := (S4.pop).valT np (.cons (Rp.str told) (.cons r4 .nil))
        exact hp _ _ _ ((S5.retmp S1 S5.gf).rebase S.gf) r5
    | err c env1 =>
      dsimp only at hp
      split at hp
      · rename_i hc
        intro C F2 H2 hcm S2
        refine ⟨rfl, c, C, rfl, hcm, hc, S2.oh.tb, fun v F' H3 e3 T3 sf nt r => ?_⟩
        have dis : ∀ b x, F2 b = some x → F' b = none := fun b x q => (e3 b x (S2.fh b x q) fun ps z => S2.nt b ps (z ▸ q)).2
        exact hp v _ H3 (((S2.retmp S1 S2.gf).mrg e3 T3 sf nt).rebase S.gf) (Rp.mono (mrg_r dis) _ _ r)
      · exact hp.elim
theorem de_said {cs : List Str} {told : Str} {said : Str → PyData} {fb : FE} {x a : Str} {g c P : Addr} {k : Nat} {pg : Arguments} {bg : List Stmt} {sg : Scope} {dV kV doc pm cdv ct oc : Value} {an od : Option Addr} {osl : Array (Option Value)} {Ng : List Str}
    {params : Arguments} {body : Expr} {scope : Scope} {p lpos pos : Pos} (hg : Gl X x) (hm : X.mg x = some (.ref g)) (hk : PySem.W.keepIn X.K (.ref g) = true)
    (lk : X.K.lookup g = some ⟨oc, od, .func (PySem.W.fnOf x x pg bg sg dV kV doc pm an cdv ct), osl⟩) (hcg : PySem.W.codeIn X.K cdv x = true) (hb : L2.Binds X.K (PySem.W.fnOf x x pg bg sg dV kV doc pm an cdv ct) [a] []) (Sg : FnScope Ng [a] sg) (hNg : Ng[0]? = some a) (hva : Vis sg a)
    (hG : GivesTo X Ng x sg g cdv bg a (X.env.qual ++ "<lambda>") (TTs X.K X.mg cs told said))
    (TB : TabB X.base X.mg c P) (hcode : X.env.code = .ref c) (hmT : (P, X.env.qual ++ "<lambda>") ∈ TabK X.K) (hu : ∀ p ∈ TabK X.K, p.1 = P → p.2 = X.env.qual ++ "<lambda>") (hr : Room (k + 2) X.A) (L : LamS X.env.scope scope) (hdef : defaultsOf params X.env = ([], []))
    (hbind : ∀ (q : Str) (cl : List (Str × Addr)) (pm cv ctv : Value), bindArgs (PySem.W.kla_fn "<lambda>" q params body scope cl pm cv ctv) ⟨[], []⟩ = pure [])
    (hbody : ∀ (A : Around) (outer : List Env) (s : Shared) (H : Hp) (E : XK) (f c' : Addr), Room k (A.deeper (lamEnv X scope s.heap.objs.size f c')) → DE (lamCx X A outer s H E scope f c') (WD E) body fb)
    (hdb : (x == ("__debug__" : Str)) = false := by decide) (hd : (a == ("__debug__" : Str)) = false := by decide) (hcd : (a == ("__classdict__" : Str)) = false := by decide) :
    DE X W (.Call (.Name x p) [.Lambda params body scope lpos] [] pos) (saidF cs told said fb) :=
  ⟨_, pe_lamcall (k := k) hg hm hk lk hcg hb Sg hNg hva hG TB hcode hmT hu hr L hdef hbind (fun A outer s H E f c' hr2 => (hbody A outer s H E f c' hr2).can) hdb hd hcd, snd_said (σ := [])⟩
end
end DL
set_option Elab.async false
set_option linter.all false
set_option maxRecDepth 100000
set_option maxHeartbeats 4000000
namespace DL
open PySem PySem.Spec PyProof.Rows L2 LamX

/-! ### the end of a law's row: the script stays, the tables grow -/
/-- the heap that is tracked at the law's beginning: the script at a, the tables -/
def H0 (a : Addr) (vs : List Value) (ns : List Int) (T : List Addr) : Hp := fun b => if b = a then some (.frz { cls := .type "list", data := .seq vs.toArray } (.lst (ns.map V.int))) else if b ∈ T then some (.tbl #[]) else none
theorem law_end {P : Program} {w : World} {K : PySem.W.Frag} {mg mb : Str → Option Value} {k : Nat} {fa a : Addr} {cs : List (Addr × Addr)} {x : Str} {m : MF} {s₁ : Shared} {vs : List Value} {ns : List Int}
    (KX : K.In s₁.heap) (hns : s₁.heap.Ns mainGlobals mg) (hb : s₁.heap.Ns builtinsNs mb) (hbb : ∀ x : Str, x ≠ "__name__" → mb x = bootBuiltins x) (hlim : s₁.heap.NoLimit) (hg : s₁.gens = #[])
    (hT : ∀ p ∈ cs, s₁.heap.get? p.2 = some { cls := .none, data := .fields #[] }) (nT : ∀ p ∈ cs, K.lookup p.2 = none) (C : ∀ p ∈ cs, PySem.W.CodeHd s₁.heap p.1 p.2) (hTK : ∀ p ∈ TabK K, p.1 ∈ cs.map (·.2))
    (hbm : ∃ (bm : Addr) (ob : Obj), mg "__builtins__" = some (.ref bm) ∧ bm ≠ builtinsNs ∧ s₁.heap.get? bm = some ob ∧ ob.cls = .type "module" ∧ ob.dict = some builtinsNs ∧ ob.data = .plain)
    (ha : s₁.heap.get? a = some { cls := .type "list", data := .seq vs.toArray }) (nK : K.lookup a = none) (hi : IntsAre vs ns) (hl : ns.length ≤ sizeLine) (hr : Room k callerA)
    (F : ∀ base : Heap, K.In base → base.Ns mainGlobals mg → (∀ p ∈ cs, TabB base mg p.1 p.2) → ∃ fd, FnG true P w K mg base (L2.CX P w) k fa fd [x] (spD K mg m) ∧ L2.Binds K fd [x] [])
    (hm : ∃ outs, m [.val (.list (ns.map PyData.int))] = M.ok (.val (.bool true), outs)) :
    codeAny (model P w) callerA (.call (.ref fa) ⟨[.ref a], []⟩) (fun r s' => r = .ok (.ret (.bool true)) ∧ OldK s₁.heap s'.heap ∧ s'.os = s₁.os ∧ AllBare s'.gens) s₁ := by
  have rv := vals_ints hi
  let T := cs.map (·.2)
  let H := H0 a vs ns T
  have tab : ∀ b ∈ T, s₁.heap.get? b = some { cls := .none, data := .fields #[] } := fun b hb => by
    obtain ⟨p, hp, rfl⟩ := List.mem_map.mp hb
    exact hT p hp
  have naT : a ∉ T := fun z => by
    have q := tab a z
    rw [ha] at q
    have z' : Data.seq vs.toArray _ = Data.fields #[] := congrArg Obj.data (Option.some.inj q)
    cases z'
  have Ha : H a = some (.frz { cls := .type "list", data := .seq vs.toArray } (.lst (ns.map V.int))) := if_pos rfl
  have HT : ∀ b ∈ T, H b = some (.tbl #[]) := fun b hb => (if_neg fun z : b = a => naT (by rw [← z]; exact hb)).trans (if_pos hb)
  have HN : ∀ b, b ≠ a → b ∉ T → H b = none := fun b h1 h2 => (if_neg h1).trans (if_neg h2)
  have cases3 : ∀ b, b = a ∨ b ∈ T ∨ H b = none := fun b => by
    by_cases h1 : b = a
    · exact .inl h1
    · by_cases h2 : b ∈ T
      · exact .inr (.inl h2)
      · exact .inr (.inr (HN b h1 h2))
  -- what is no list and no empty table is not tracked
  have off : ∀ {b : Addr} {o : Obj}, s₁.heap.get? b = some o → (∀ vs n, o.data ≠ .seq vs n) → o.data ≠ .fields #[] → H b = none := fun {b o} e h1 h2 => by
    rcases cases3 b with rfl | z | z
    · rw [ha] at e; cases e; exact (h1 _ _ rfl).elim
    · rw [tab b z] at e; cases e; exact (h2 rfl).elim
    · exact z
  have offD : ∀ {b : Addr} {o : Obj} {es : Array DictEntry} {ep : Nat}, s₁.heap.get? b = some o → o.data = .dict es ep → H b = none := fun {b o es ep} e d => off e (fun vs n z => by rw [d] at z; cases z) fun z => by rw [d] at z; cases z
  have nsK : ∀ {b : Addr} {m : Str → Option Value}, s₁.heap.Ns b m → (hidT s₁.heap H).Ns b m := fun {b m} ⟨o, es, ep, e, d, r⟩ => ⟨o, es, ep, hidT_get e (offD e d), d, r⟩
  have hok : HOk P w H s₁.heap := fun b u z => by
    rcases cases3 b with rfl | y | y
    · rw [Ha] at z; cases z
      exact ⟨ha, by rw [List.length_map]; exact hl, vs, _, rv, ha⟩
    · rw [HT b y] at z; cases z
      exact tab b y
    · rw [y] at z; cases z
  have hKb : K.In (hidT s₁.heap H) := fun b o e => hidT_get (KX b o e) (by
    rcases cases3 b with rfl | y | y
    · rw [nK] at e; cases e
    · obtain ⟨p, hp, rfl⟩ := List.mem_map.mp y
      rw [nT p hp] at e; cases e
    · exact y)
  have TB : ∀ p ∈ cs, TabB (hidT s₁.heap H) mg p.1 p.2 := fun p hp => by
    have hTp := hT p hp
    refine ⟨?_, ?_, fun z => ?_⟩
    · obtain ⟨o, us, file, tf, flags, tg, inF, text, tt, e1, r1, r2, r3, r4, r5, r6, r7, r8, hne⟩ := C p hp
      refine ⟨o, us, file, tf, flags, tg, inF, text, tt, hidT_get e1 (off e1 (fun vs n z => ?_) fun z => ?_), r1, r2, r3, r4, r5, r6, r7, r8, hne⟩
      · rw [r2] at z; cases z
      · rw [r2] at z; cases z; simp at r3
    · obtain ⟨bm, ob, b1, b2, b3, b4, b5, b6⟩ := hbm
      refine ⟨bm, ob, b1, b2, fun q => ?_, fun q => ?_, hidT_get b3 (off b3 (fun vs n z => ?_) fun z => ?_), b4, b5, b6⟩
      · obtain ⟨o, es, ep, e, hd, _⟩ := hns
        rw [q, e] at b3; cases b3; rw [hd] at b6; cases b6
      · rw [q, hTp] at b3; cases b3; cases b6
      · rw [b6] at z; cases z
      · rw [b6] at z; cases z
    · obtain ⟨o, es, ep, e, hd, _⟩ := hns
      rw [z, hTp] at e; cases e; cases hd
  have e0 : Env0 P w K mg (hidT s₁.heap H) callerA [] s₁ H := ⟨rfl, ⟨hKb, nsK hns, ⟨mb, nsK hb, hbb⟩, let ⟨mc, h1, h2⟩ := hlim; ⟨mc, nsK h1, h2⟩⟩, fun b o e => of_hidT e, Nat.le_of_eq (hidT_size _ _), trivial, fun b hb => absurd (show b ∈ ([] : List Addr) from hb) (by simp), hok, .of_eq hg⟩
  have hsp : spD K mg m [.ref a] H (fun v _ => v = .bl true) fun _ _ _ => False := by
    have rl : ∀ (G : Hp) (ns : List Int), RpL K G (ns.map V.int) (ns.map PyData.int) := fun G ns => by
      induction ns with
      | nil => exact .nil
      | cons i r ih => exact .cons (.int i) ih
    refine ⟨[.val (.list (ns.map PyData.int))], fun _ => none, fun b => if b = a then H b else none, fun _ => none, fun s hs => ?_, ⟨Same.refl _, fun b x q => ?_, ⟨fun b x q => (by cases q), fun b ps q => (by cases q), fun p hp => ?_⟩, fun _ _ q => (by cases q), rfl, fun i s q => ?_, fun p hp => absurd hp (by simp), fun i j s t b q1 q2 w1 => ?_, fun b ps q => ?_⟩, ?_⟩
    · simp at hs; subst hs; trivial
    · split at q
      · exact q
      · cases q
    · exact TabS.nil (HT p.1 (hTK p hp))
    · cases i with
      | zero =>
        simp at q
        subst q
        exact ⟨.ref a, rfl, .lst (.inr ⟨_, (if_pos rfl).trans Ha⟩) (rl _ ns)⟩
      | succ i => simp at q
    · cases i with
      | zero =>
        simp at q1
        subst q1
        exact w1.elim
      | succ i => simp at q1
    · split at q
      · rename_i h
        subst h
        rw [Ha] at q; cases q
      · cases q
    · obtain ⟨outs, e⟩ := hm
      rw [e]
      intro v F' H' S r
      cases r
      rfl
  obtain ⟨fd, hF, hbd⟩ := F _ hKb (nsK hns) TB
  refine codeAny_mono (hF.run callerA [] s₁ H ⟨[.ref a], []⟩ [.ref a] [.ref a] _ _ ⟨hr, fun _ => rfl⟩ e0 (hbd s₁ [.ref a] KX rfl) (.cons rfl .nil) hsp) fun r s' h => ?_
  match r, h with
  | .error e, h =>
    exact False.elim (by
      obtain ⟨_, _, _, _, _, _, _, _, _, _, _, _, _, _, _, z⟩ := h)
  | .ok .next, h => exact False.elim h
  | .ok .brk, h => exact False.elim h
  | .ok .cont, h => exact False.elim h
  | .ok (.ret u), h =>
    obtain ⟨v, H', os, bare, un, hok', r', q⟩ := h
    obtain rfl : v = .bl true := q
    obtain rfl : u = Value.bool true := r'
    have key : ∀ b o, b ∉ T → s₁.heap.get? b = some o → s'.heap.get? b = some o := fun b o nb e => by
      rcases cases3 b with rfl | y | y
      · obtain ⟨e2, _⟩ := hok' _ _ (un.frzs _ _ _ Ha)
        rw [ha] at e; cases e
        exact e2
      · exact absurd y nb
      · exact un.keep b o e y (by intro z; exact absurd (show b ∈ ([] : List Addr) from z) (by simp)) (by simp)
    have grown : ∀ b ∈ T, ∃ more : Array Value, s'.heap.get? b = some { cls := .none, data := .fields more } := fun b hb => by
      obtain ⟨more, z⟩ := un.tbls b #[] (HT b hb)
      exact ⟨_, hok' b _ z⟩
    refine ⟨rfl, ⟨fun b o e => ?_, fun b o e => ?_⟩, os, bare⟩
    · by_cases hb : b ∈ T
      · obtain ⟨more, hm⟩ := grown b hb
        rw [tab b hb] at e
        cases e
        obtain ⟨p, hp, rfl⟩ := List.mem_map.mp hb
        exact .inr (.inl ⟨((C p hp).tab (hT p hp)).isCodeTable, rfl, #[], more, rfl, by rw [Array.empty_append]; exact hm⟩)
      · exact .inl (key b o hb e)
    · by_cases hb : b ∈ T
      · obtain ⟨more, hm⟩ := grown b hb
        exact ⟨_, hm⟩
      · exact ⟨o, key b o hb e⟩
end DL
set_option Elab.async false
set_option linter.all false
set_option maxRecDepth 100000
set_option maxHeartbeats 4000000
namespace DL
open PySem PySem.Spec PyProof.Rows L2 LamX He

/-! ### what the head tells, read by checks of its part of the heap -/
/-- no list of the text stands there -/
def noLst (K : PySem.W.Frag) : Bool := K.all fun p => !decide (p.2.cls = .type "list")
theorem noLst_ok {K : PySem.W.Frag} {h : Heap} {a : Addr} {vs : Array Value} (X : K.In h) (c : noLst K = true) (ha : h.get? a = some { cls := .type "list", data := .seq vs }) : K.lookup a = none := by
  cases q : K.lookup a with
  | none => rfl
  | some o =>
    have e := X a o q
    rw [ha] at e
    have z := List.all_eq_true.mp c _ (lookup_mem q)
    rw [← Option.some.inj e] at z
    simp at z
/-- the module's name x is a written dict of these -/
def dicEs (K : PySem.W.Frag) : List (Str × PyData) → List DictEntry → Bool
  | [], es => es.isEmpty
  | (k, d) :: r, es => match es with
    | e :: es => (match e.key with
      | .str y _ => decide (y = k)
      | _ => false) && (cB K d e.val && dicEs K r es)
    | [] => false
def dicB (K : PySem.W.Frag) (x : Str) (es : List (Str × PyData)) : Bool := match K.lookup (ga K x) with
  | some ⟨_, _, .dict des _, _⟩ => dicEs K es des.toList
  | _ => false
theorem dicEs_get {K : PySem.W.Frag} : ∀ {es : List (Str × PyData)} {des : List DictEntry}, dicEs K es des = true → ∀ z, match lookS z es with
    | none => des.find? (fun e => e.key.isStr z) = none ∧ des.any (·.refKey) = false
    | some d => ∃ e v, des.find? (fun e => e.key.isStr z) = some e ∧ RelV v e.val ∧ ∀ F, Rp K F v d
  | [], des, h, z => by
    cases des with
    | nil => exact ⟨rfl, rfl⟩
    | cons _ _ => simp [dicEs] at h
  | (k, d) :: r, des, h, z => by
    cases des with
    | nil => simp [dicEs] at h
    | cons e des =>
      unfold dicEs at h
      dsimp only at h
      simp only [Bool.and_eq_true] at h
      obtain ⟨h1, h2, h3⟩ := h
      obtain ⟨v, r1, r2⟩ := cB_ok d _ h2
      have ih := dicEs_get h3 z
      cases ek : e.key with
      | str y t =>
        rw [ek] at h1
        have hy : y = k := of_decide_eq_true h1
        subst hy
        have hs : e.key.isStr z = decide (y = z) := by
          rw [ek]
          show (y == z) = decide (y = z)
          rw [Bool.eq_iff_iff, beq_iff_eq, decide_eq_true_eq]
        have hr : e.refKey = false := by simp [DictEntry.refKey, ek]
        unfold lookS
        by_cases hz : y = z
        · subst hz
          rw [if_pos rfl]
          exact ⟨e, v, by rw [List.find?_cons, hs]; simp, r1, r2⟩
        · rw [if_neg hz]
          cases q : lookS z r with
          | none =>
            rw [q] at ih
            exact ⟨by rw [List.find?_cons, hs]; simp [hz]; simpa using ih.1, by rw [List.any_cons, hr, ih.2]; rfl⟩
          | some d' =>
            rw [q] at ih
            obtain ⟨e', v', i1, i2, i3⟩ := ih
            exact ⟨e', v', by rw [List.find?_cons, hs]; simp only [hz, decide_false]; exact i1, i2, i3⟩
      | _ => rw [ek] at h1; cases h1
theorem dicB_ok {K : PySem.W.Frag} {w : World} {h : Heap} {mg : Str → Option Value} (X : K.In h) (G : h.Ns mainGlobals mg) {x : Str} {es : List (Str × PyData)} (hg : (Fa.glo x).ok K = true) (hd : ∃ des n, KDict K w (ga K x) des n) (c : dicB K x es = true) : KDic K w mg x es := by
  obtain ⟨des, n, hl, hk, hn⟩ := hd
  unfold dicB at c
  rw [hl] at c
  dsimp only at c
  refine ⟨ga K x, glo_ok X G hg, ⟨des, n, hl, hk, hn⟩, fun z => ?_⟩
  have g := dicEs_get c z
  cases q : lookS z es with
  | none =>
    rw [q] at g
    show PySem.W.nsIn K (ga K x) z = some none
    unfold PySem.W.nsIn
    rw [hl]
    dsimp only
    rw [g.1]
    dsimp only
    rw [g.2]
    rfl
  | some d =>
    rw [q] at g
    obtain ⟨e, v, g1, g2, g3⟩ := g
    refine ⟨e.val, v, ?_, g2, g3⟩
    unfold PySem.W.nsIn
    rw [hl]
    dsimp only
    rw [g1]
/-- the classes of errors -/
def excCB (K : PySem.W.Frag) (D : Addr) : Bool := eqO (PySem.W.findIn K (.ref D) "__getattribute__") (some (some (.builtin "BaseException.__getattribute__"))) && (eqO (PySem.W.findIn K (.ref D) "__getattr__") (some none) && (decide (PySem.W.subIn K (.ref D) (.type "BaseException") = some true) && (PySem.W.hasDictIn K D &&
  (eqO (PySem.W.findIn K (.ref D) "__class__") (some (some (.builtin "object.__class__"))) && (eqO (PySem.W.specialIn K (.builtin "object.__class__") "__get__") (some (some (.builtin "getset_descriptor.__get__"))) && (decide (PySem.W.takesIn K (.builtin "object.__class__") = some true) && decide (PySem.W.mroIn K D (.type "object") = some true)))))))
theorem excCB_ok {K : PySem.W.Frag} {D : Addr} (h : excCB K D = true) : ExcC K D := by
  unfold excCB at h
  simp only [Bool.and_eq_true, decide_eq_true_eq] at h
  obtain ⟨h1, h2, h3, h4, h5, h6, h7, h8⟩ := h
  exact ⟨eqO_ok h1, eqO_ok h2, h3, h4, eqO_ok h5, eqO_ok h6, h7, h8⟩
def errB (K : PySem.W.Frag) (cs : List Str) : Bool := cs.all fun c => (Fa.glo c).ok K && (excCB K (ga K c) && (decide (PySem.W.kitOne K (.ref (ga K c)) (.type "ValueError") = some true) && ((Fa.glo "WaterError").ok K && (decide (PySem.W.exmOne K (.ref (ga K c)) (.ref (ga K "WaterError")) = some true) &&
  cs.all fun x => decide (PySem.W.kitOne K (.ref (ga K c)) (.ref (ga K x)) = some (decide (c = x)))))))
theorem errB_ok {K : PySem.W.Frag} {h : Heap} {mg : Str → Option Value} (X : K.In h) (G : h.Ns mainGlobals mg) {cs : List Str} (c : errB K cs = true) : ErrF K mg cs := by
  have all := fun c0 hc => List.all_eq_true.mp c c0 hc
  refine ⟨fun c0 hc => ?_⟩
  have z := all c0 hc
  simp only [Bool.and_eq_true, decide_eq_true_eq] at z
  obtain ⟨h1, h2, h3, h4, h5, h6⟩ := z
  refine ⟨ga K c0, glo_ok X G h1, excCB_ok h2, h3, ⟨_, glo_ok X G h4, h5⟩, fun x hx => ⟨ga K x, ?_, ?_⟩⟩
  · have y := all x hx
    simp only [Bool.and_eq_true] at y
    exact glo_ok X G y.1
  · have y := List.all_eq_true.mp h6 x hx
    exact of_decide_eq_true y
theorem clsX_ok {K : PySem.W.Frag} {h : Heap} {mg : Str → Option Value} (X : K.In h) (G : h.Ns mainGlobals mg) {x : Str} (h1 : (Fa.glo x).ok K = true) (h2 : (Fa.exc x).ok K = true) : ClsX K mg x := by
  obtain ⟨a, b, c, d⟩ := exc_ok h2
  exact ⟨ga K x, glo_ok X G h1, a, b, c, d⟩
/-- a def -/
theorem fun_of {K : PySem.W.Frag} {x : Str} {st : Stmt} {f : Addr} {fd : FuncData} (F : FunD K x x (defArgs st) (defBody st) (defScope st) [] [] f fd) : Fun K x x st f fd := by
  obtain ⟨oc, od, dV, kV, doc, pm, an, cdv, ct, osl, rfl, lk, hcd, dv, kw⟩ := F.ex
  rcases dv with ⟨_, rfl⟩ | ⟨z, _⟩
  · exact ⟨⟨oc, od, kV, doc, pm, an, cdv, ct, osl, rfl, lk, hcd⟩, F.kp⟩
  · exact absurd rfl z
def defD (x : Str) (st : Stmt) : DefD := ⟨(x, none), x, x, defArgs st, defBody st, defScope st, [], []⟩
theorem has_of {K : PySem.W.Frag} {h : Heap} {mg : Str → Option Value} (X : K.In h) (G : h.Ns mainGlobals mg) {fa : List Fa} {fn : List DefD} (c : SaysD fa fn K) {x : Str} {st : Stmt} {ps : List Str} (i j : Nat) (hi : fn[i]? = some (defD x st)) (hj : fa[j]? = some (.glo x))
    (hb : ∀ (kV doc pm : Value) (an : Option Addr) (cdv ct : Value) (us : List Value), us.length = ps.length → bindArgs (PySem.W.fnOf x x (defArgs st) (defBody st) (defScope st) .none kV doc pm an cdv ct) ⟨us, []⟩ = pure (ps.zip us)) : Has K mg x st ps := by
  obtain ⟨fd, F⟩ := c.def_ i hi
  have Fu := fun_of F
  exact ⟨_, fd, Fu, glo_ok X G (c.fact j hj), Fu.binds hb⟩

/-! ### lambdas of a def -/
structure LamAt (K : PySem.W.Frag) (mg : Str → Option Value) (base : Heap) (x : Str) : Prop where
  ex : ∀ f cdv, mg x = some (.ref f) → CdOf K f cdv → ∃ c P, cdv = .ref c ∧ TabB base mg c P ∧ (P, x ++ ".<locals>." ++ "<lambda>") ∈ TabK K ∧ ∀ p ∈ TabK K, p.1 = P → p.2 = x ++ ".<locals>." ++ "<lambda>"
/-- the defs of these names, and no other that TabK looks for, have tables: the i-th's is (cT K (x, none)).2 -/
def tabB (K : PySem.W.Frag) (xs : List Str) : Bool := decide (TabK K = xs.map fun x => ((cT K (x, none)).2, x ++ ".<locals>." ++ "<lambda>")) && decide ((xs.map fun x => (cT K (x, none)).2).Nodup)
theorem lamAt_of {K : PySem.W.Frag} {h base : Heap} {mg : Str → Option Value} (X : K.In h) (G : h.Ns mainGlobals mg) {xs : List Str} (ht : tabB K xs = true) {x : Str} (hx : x ∈ xs) (hg : (Fa.glo x).ok K = true) (hc : (Fa.code (x, none) x).ok K = true) (TB : TabB base mg (cT K (x, none)).1 (cT K (x, none)).2) : LamAt K mg base x := by
  unfold tabB at ht
  simp only [Bool.and_eq_true, decide_eq_true_eq] at ht
  obtain ⟨e1, e2⟩ := ht
  refine ⟨fun f cdv hf hcd => ?_⟩
  have g := glo_ok X G hg
  rw [hf] at g
  cases g
  obtain ⟨oc, od, fd, osl, lk, rfl⟩ := hcd.ex
  have c2 : (match K.lookup (fAd K (x, none)) with
    | some ⟨_, _, .func fd, _⟩ => PySem.W.codeIn K fd.code x
    | _ => false) = true := hc
  rw [show fAd K (x, none) = ga K x from rfl, lk] at c2
  obtain ⟨c, ec⟩ := codeIn_ref c2
  have e3 : codeOf K (x, none) = c := codeOf_eq (p := (x, none)) lk ec
  have e4 : (cT K (x, none)).1 = c := e3
  refine ⟨c, (cT K (x, none)).2, ec, e4 ▸ TB, ?_, fun p hp ep => ?_⟩
  · rw [e1]
    exact List.mem_map.mpr ⟨x, hx, rfl⟩
  · rw [e1] at hp
    obtain ⟨y, hy, rfl⟩ := List.mem_map.mp hp
    have inj : y = x := by
      by_cases z : y = x
      · exact z
      · exact absurd ep (nodup_map_ne e2 hy hx z)
    rw [inj]
where
  nodup_map_ne : ∀ {α β : Type} {f : α → β} {l : List α} {a b : α}, (l.map f).Nodup → a ∈ l → b ∈ l → a ≠ b → f a ≠ f b := by
    intro α β f l a b h ha hb ne e
    induction l with
    | nil => cases ha
    | cons c r ih =>
      rw [List.map_cons, List.nodup_cons] at h
      rcases List.mem_cons.mp ha with rfl | ha
      · rcases List.mem_cons.mp hb with rfl | hb
        · exact ne rfl
        · exact h.1 (List.mem_map.mpr ⟨b, hb, e.symm⟩)
      · rcases List.mem_cons.mp hb with hb | hb
        · exact h.1 (List.mem_map.mpr ⟨a, ha, by rw [e, hb]⟩)
        · exact ih h.2 ha hb

theorem ru_deep {k : Nat} {A : Around} (h : Room (k + 1) A) (env : Env) : (A.deeper env).units + 65 < cLine := by
  have := (h.deeper env).un
  omega
theorem ru64d {k : Nat} {A : Around} (h : Room (k + 1) A) (env : Env) : (A.deeper env).units + 64 < cLine := by
  have := (h.deeper env).un
  omega
theorem ru128d {k : Nat} {A : Around} (h : Room (k + 1) A) (env : Env) : (A.deeper env).units + 128 < cLine := by
  have := (h.deeper env).un
  omega
section
variable {X : Cx} {W : WX}
theorem de_saidC {gd : Bool} {cs : List Str} {told : Str} {said : Str → PyData} {fb : FE} {x a lx : Str} {f : Addr} {k j : Nat} {st : Stmt} {Ng : List Str} {params : Arguments} {body : Expr} {scope : Scope} {p lpos pos : Pos}
    (Hs : Has X.K X.mg x st [a]) (Sg : FnScope Ng [a] (defScope st)) (hG : ∀ g cdv, GivesTo X Ng x (defScope st) g cdv (defBody st) a (X.env.qual ++ "<lambda>") (TTs X.K X.mg cs told said))
    (LA : LamAt X.K X.mg X.base lx) (hf : X.mg lx = some (.ref f)) (hcf : CdOf X.K f X.env.code) (hq : X.env.qual = lx ++ ".<locals>.") (hr : RG gd j X.A) (hj : k + 2 ≤ j) (hg : Gl X x) (hNg : Ng[0]? = some a) (hva : Vis (defScope st) a)
    (L : LamS X.env.scope scope) (hdef : defaultsOf params X.env = ([], [])) (hbind : ∀ (q : Str) (cl : List (Str × Addr)) (pm cv ctv : Value), bindArgs (PySem.W.kla_fn "<lambda>" q params body scope cl pm cv ctv) ⟨[], []⟩ = pure [])
    (hbody : ∀ (A : Around) (outer : List Env) (s : Shared) (H : Hp) (E : XK) (f c' : Addr), Room k (A.deeper (lamEnv X scope s.heap.objs.size f c')) → DE (lamCx X A outer s H E scope f c') (WD E) body fb)
    (hdb : (x == ("__debug__" : Str)) = false := by decide) (hd : (a == ("__debug__" : Str)) = false := by decide) (hcd : (a == ("__classdict__" : Str)) = false := by decide) :
    DE X W (.Call (.Name x p) [.Lambda params body scope lpos] [] pos) (saidF cs told said fb) := by
  obtain ⟨g, fd, Fu, hm, hb⟩ := Hs.ex
  obtain ⟨oc, od, kV, doc, pm, an, cdv, ct, osl, rfl, lk, hcg⟩ := Fu.ex
  obtain ⟨c, P, ec, TB, m1, m2⟩ := LA.ex f _ hf hcf
  rw [← hq] at m1 m2
  exact de_said hg hm Fu.kp lk hcg hb Sg hNg hva (hG g cdv) TB ec m1 m2 (hr.rm.mono hj) L hdef hbind hbody hdb hd hcd
end

/-- the law's walk, of a row whose head is read by hookX -/
theorem walk_D {l : PySem.W.OpenLaw} {n k N : Nat} {q : Program} {loose : List Str} {XP : (Str → Option Value) → Heap → Prop} {d : DefRec} {x : Str} {fa : List Fa} {fn : List DefD} {tabs : List Tab} {tf : List Defn} {ex : PySem.W.Frag → Bool} {m : MF}
    (hn : l.most = some n) (hn2 : n ≤ sizeLine) (hdf : d.params.defaults = []) (hr : Room k callerA) (hdn : d.name = "law") (hx : ∀ K, ex K = true → noLst K = true) (htk : ∀ K, ex K = true → ∀ p ∈ TabK K, p.1 ∈ (tf.map (cT K)).map (·.2))
    (F : ∀ (w : World) (K : PySem.W.Frag) (h : Heap) (mg : Str → Option Value), K.In h → h.Ns mainGlobals mg → SaysX fa fn tabs tf ex w h K → ∀ base : Heap, (∀ p ∈ tf.map (cT K), TabB base mg p.1 p.2) → Callee true l.prog w K mg base k "law" [x] m)
    (hm : ∀ ns : List Int, ns.length ≤ n → (∀ z ∈ ns, Builtin.Int.intBits z ≤ 1048576) → ∃ outs, m [.val (.list (ns.map PyData.int))] = M.ok (.val (.bool true), outs)) :
    PySem.W.WalkO q loose XP (hookX N fa fn tabs tf ex).says l.row.toRowW d [] (fun f vs => PySem.call f vs) := by
  refine Att.attach_callB hn hdf fun w s₀ s₁ mg mb fa' o pm cd doc a vs ns G Y ho hd hcd hmg hobj hints hlen hbits hg => ?_
  obtain ⟨K, KX, c⟩ := Y
  rw [hdn] at hmg
  have mem : ∀ p ∈ tf.map (cT K), ∃ y ∈ tf, cT K y = p := fun p hp => List.mem_map.mp hp
  refine law_end (k := k) (cs := tf.map (cT K)) (x := x) (m := m) KX G.T.g G.T.b G.T.builtins G.T.nolimit hg (fun p hp => ?_) (fun p hp => ?_) (fun p hp => ?_) (htk K c.more) G.T.bmain hobj (noLst_ok KX (hx K c.more) hobj) hints (Nat.le_trans hlen hn2) hr (fun base hK hB TB => ?_) (hm ns hlen hbits)
  · obtain ⟨y, hy, rfl⟩ := mem p hp
    exact c.empty y hy
  · obtain ⟨y, hy, rfl⟩ := mem p hp
    exact c.out y hy
  · obtain ⟨y, hy, rfl⟩ := mem p hp
    exact PySem.W.codeHd_of_K KX (c.hd y hy)
  · obtain ⟨f, fd, h1, h2, h3, h4⟩ := (F w K _ mg KX G.T.g c base TB).ex
    rw [hmg] at h2
    cases h2
    exact ⟨fd, h1, h4⟩
theorem htk_of {K : PySem.W.Frag} {xs : List Str} (h : tabB K xs = true) : ∀ p ∈ TabK K, p.1 ∈ ((xs.map fun x => ((x, none) : Defn)).map (cT K)).map (·.2) := fun p hp => by
  unfold tabB at h
  simp only [Bool.and_eq_true, decide_eq_true_eq] at h
  rw [h.1] at hp
  obtain ⟨y, hy, rfl⟩ := List.mem_map.mp hp
  exact List.mem_map.mpr ⟨cT K (y, none), List.mem_map.mpr ⟨(y, none), List.mem_map.mpr ⟨y, hy, rfl⟩, rfl⟩, rfl⟩
end DL
set_option Elab.async false
set_option linter.all false
set_option maxRecDepth 100000
set_option maxHeartbeats 4000000
namespace DL
open PySem PySem.Spec PyProof.Rows L2

/-! ### the functions, reckoned by simp -/
section
variable {α β : Type} {a : α} {f : α → M β} {c : Str} {e env : EnvD} {fa fb fe fo : FE} {u v : FS} {fc ft : FT} {fA : FA} {i j n l : Nat} {g g' : PyData → PyData → Option Sl} {s : Sl} {d : PyData} {o : Own}
@[simp] theorem s_bok : M.bind (some (.ok a)) f = f a := rfl
@[simp] theorem s_berr : M.bind (some (.err c e) : M α) f = some (.err c e) := rfl
@[simp] theorem s_bnone : M.bind (none : M α) f = none := rfl
@[simp] theorem s_eC : eC d env = some (.ok (.val d, env)) := rfl
@[simp] theorem s_eVar : eVar i env = match env[i]? with
  | some (some (.val d)) => M.ok (.val d, env)
  | some (some (.own _)) => M.ok (.al i, env)
  | some (some (.pen _)) => M.ok (.al i, env)
  | _ => none := rfl
@[simp] theorem s_fz1 : fz (.val d) = .val d := rfl
@[simp] theorem s_fz2 : fz (.al i) = .al i := rfl
@[simp] theorem s_fz3 : fz (.own o) = .val o.d := rfl
@[simp] theorem s_rd1 : rd (.val d) env = some d := rfl
@[simp] theorem s_rd2 : rd (.al i) env = match env[i]? with
    | some (some (.val d)) => some d
    | some (some (.own o)) => some o.d
    | some (some (.pen o)) => some o.d
    | _ => none := rfl
@[simp] theorem s_g1n (g : PyData → Option Sl) : g1 g none = none := rfl
@[simp] theorem s_g1 (g : PyData → Option Sl) : g1 g (some d) = g d := rfl
@[simp] theorem s_g2 {d' : PyData} : g2 g (some d) (some d') = g d d' := rfl
@[simp] theorem s_fin : fin (some s) env = some (.ok (s, env)) := rfl
@[simp] theorem s_finn : fin none env = none := rfl
@[simp] theorem s_e1 (g : PyData → Option Sl) : e1 g fa env = M.bind (fa env) fun p => fin (g1 g (rd (fz p.1) p.2)) p.2 := rfl
@[simp] theorem s_e2 : e2 g fa fb env = M.bind (fa env) fun p => M.bind (fb p.2) fun q => fin (g2 g (rd (fz p.1) q.2) (rd (fz q.1) q.2)) q.2 := rfl
@[simp] theorem s_asB {b : Bool} : asB (.val (.bool b)) = some b := rfl
@[simp] theorem s_eT : eT fa env = M.bind (fa env) fun p => match asB p.1 with
  | some b => M.ok (b, p.2)
  | none => none := rfl
@[simp] theorem s_eAnd : eAnd fa fb env = M.bind (fa env) fun p => match asB p.1 with
  | some true => fb p.2
  | some false => M.ok (.val (.bool false), p.2)
  | none => none := rfl
@[simp] theorem s_eOr : eOr fa fb env = M.bind (fa env) fun p => match asB p.1 with
  | some true => M.ok (.val (.bool true), p.2)
  | some false => fb p.2
  | none => none := rfl
@[simp] theorem s_eNot : eNot fa env = M.bind (fa env) fun p => match asB p.1 with
  | some b => M.ok (.val (.bool (!b)), p.2)
  | none => none := rfl
@[simp] theorem s_tAnd {f1 f2 : FT} : tAndF f1 f2 env = M.bind (f1 env) fun p => match p.1 with
  | true => f2 p.2
  | false => M.ok (false, p.2) := rfl
@[simp] theorem s_tOr {f1 f2 : FT} : tOrF f1 f2 env = M.bind (f1 env) fun p => match p.1 with
  | true => M.ok (true, p.2)
  | false => f2 p.2 := rfl
@[simp] theorem s_tNot : tNotF fc env = M.bind (fc env) fun p => M.ok (!p.1, p.2) := rfl
@[simp] theorem s_eIf : eIf fc fa fb env = M.bind (fc env) fun p => match p.1 with
  | true => fa p.2
  | false => fb p.2 := rfl
@[simp] theorem s_aNil : aNil env = some (.ok ([], env)) := rfl
@[simp] theorem s_aCons : aCons fa fA env = M.bind (fa env) fun p => M.bind (fA p.2) fun q => M.ok (fz p.1 :: q.1, q.2) := rfl
@[simp] theorem s_seqF : seqF u v env = M.bind (u env) fun r => match r with
  | .nx env' => v env'
  | .rt s env' => M.ok (.rt s env') := rfl
@[simp] theorem s_nilF : nilF env = some (.ok (.nx env)) := rfl
@[simp] theorem s_dropF : dropF fa env = M.bind (fa env) fun p => M.ok (.nx p.2) := rfl
@[simp] theorem s_un1 : unal (.val d) env = some (.val d, env) := rfl
@[simp] theorem s_un2 : unal (.own o) env = some (.own o, env) := rfl
@[simp] theorem s_un3 : unal (.al i) env = match frz1 (.al i) env with
    | some (d, env2) => some (.val d, env2)
    | none => none := rfl
@[simp] theorem s_fr1 : frz1 (.val d) env = some (d, env) := rfl
@[simp] theorem s_fr2 : frz1 (.al i) env = match env[i]? with
    | some (some (.val d)) => some (d, env)
    | some (some (.own o)) => some (o.d, env.set i (some (.val o.d)))
    | _ => none := rfl
@[simp] theorem s_fa0 : frzAll [] env = some ([], env) := rfl
@[simp] theorem s_fa1 {ss : List Sl} : frzAll (s :: ss) env = match frz1 s env with
    | some (d, env1) => match frzAll ss env1 with
      | some (ds, env2) => some (d :: ds, env2)
      | none => none
    | none => none := rfl
@[simp] theorem s_put1 : putS i (.val d) env = match env[i]? with
    | some (some (.pen _)) => none
    | some _ => some (env.set i (some (.val d)))
    | none => none := rfl
@[simp] theorem s_put2 : putS i (.own o) env = match env[i]? with
    | some (some (.pen _)) => none
    | some _ => some (env.set i (some (.own o)))
    | none => none := rfl
@[simp] theorem s_asgF : asgF i fa env = M.bind (fa env) fun p => match unal p.1 p.2 with
  | some q => match putS i q.1 q.2 with
    | some env2 => M.ok (.nx env2)
    | none => none
  | none => none := rfl
@[simp] theorem s_asgG {gt : GT} : asgG gt fa env = M.bind (fa env) fun p => match frz1 (fz p.1) p.2 with
  | some q => match gt q.1 q.2 with
    | some env2 => M.ok (.nx env2)
    | none => none
  | none => none := rfl
@[simp] theorem s_retF : retF fa env = M.bind (fa env) fun p => M.ok (.rt p.1 p.2) := rfl
@[simp] theorem s_ifF : ifF fc u v env = M.bind (fc env) fun p => match p.1 with
  | true => u p.2
  | false => v p.2 := rfl
@[simp] theorem s_raiseF : raiseF c env = some (.err c env) := rfl
@[simp] theorem s_gtName : gtName i d env = putS i (.val d) env := rfl
@[simp] theorem s_gtTup {gs : GTs} {ds : List PyData} : gtTup gs (.tuple ds) env = gs ds env := rfl
@[simp] theorem s_gtNil : gtNil [] env = some env := rfl
@[simp] theorem s_gtCons {gt : GT} {gs : GTs} {ds : List PyData} : gtCons gt gs (d :: ds) env = match gt d env with
  | some env1 => gs ds env1
  | none => none := rfl
@[simp] theorem s_bodyF {args : List Sl} : bodyF n l u args = if args.length = n then endF args (u (args.map some ++ List.replicate (l - n) none)) else none := rfl
@[simp] theorem s_end0 {args : List Sl} : endF args none = none := rfl
@[simp] theorem s_end1 {args : List Sl} : endF args (some (.err c env)) = some (.err c (outsA args env)) := rfl
@[simp] theorem s_end2 {args : List Sl} : endF args (some (.ok (.nx env))) = some (.ok (.val .none, outsA args env)) := rfl
@[simp] theorem s_end3 {args : List Sl} : endF args (some (.ok (.rt s env))) = fin (resOut s env) (outsA args env) := rfl
@[simp] theorem s_ro1 : resOut (.val d) env = some (.val d) := rfl
@[simp] theorem s_ro2 : resOut (.own o) env = some (.own o) := rfl
@[simp] theorem s_ro3 : resOut (.al i) env = match env[i]? with
    | some (some (.own o)) => some (.own o)
    | some (some (.val d)) => some (.val d)
    | _ => none := rfl
@[simp] theorem s_oa0 : outsA [] env = [] := rfl
@[simp] theorem s_oa1 {ss : List Sl} : outsA (.val d :: ss) env = some (.val d) :: outsA ss env.tail := rfl
@[simp] theorem s_oa2 {ss : List Sl} : outsA (.pen o :: ss) env = (match env with
      | some (.pen o) :: _ => some (.pen o)
      | _ => none) :: outsA ss env.tail := rfl
@[simp] theorem s_lend {ds : List PyData} : (Own.lst ds).d = .list ds := rfl
@[simp] theorem s_resV1 : resV (.val d) = some (.val d) := rfl
@[simp] theorem s_resV2 : resV (.own o) = some (.own o) := rfl
@[simp] theorem s_cr1 {outs : EnvD} : callR1 (some (.ok (s, outs))) env = fin (resV s) env := rfl
@[simp] theorem s_cr1e {outs : EnvD} : callR1 (some (.err c outs)) env = some (.err c env) := rfl
@[simp] theorem s_cr1n : callR1 none env = none := rfl
@[simp] theorem s_callV {m : MF} {dds : List PyData} : callV m dds fA env = M.bind (fzA fA env) fun p => callR1 (m ((p.1 ++ dds).map .val)) p.2 := rfl
@[simp] theorem s_callP {m : MF} : callP m fA env = M.bind (fA env) fun p => match penA p.1 p.2 with
  | some (i, ds, env2) => match slotO i env2 with
    | some (s, o) => callR2 (m (.pen o :: ds.map .val)) i s env2
    | none => none
  | none => none := rfl
@[simp] theorem s_penA {ss : List Sl} : penA (.al i :: ss) env = match frzAll ss env with
    | some (ds, env2) => some (i, ds, env2)
    | none => none := rfl
@[simp] theorem s_slotO : slotO i env = match env[i]? with
  | some (some (.own o)) => some (.own o, o)
  | some (some (.pen o)) => some (.pen o, o)
  | _ => none := rfl
@[simp] theorem s_cr2 {outs : EnvD} {s' : Sl} : callR2 (some (.ok (s, outs))) i s' env = fin (resV s) (updPen i s' outs env) := rfl
@[simp] theorem s_up {outs : EnvD} {o' : Own} : updPen i s (some (.pen o) :: outs) env = env.set i (some (reO s o)) := rfl
@[simp] theorem s_re1 {o' : Own} : reO (.own o') o = .own o := rfl
@[simp] theorem s_re2 {o' : Own} : reO (.pen o') o = .pen o := rfl
@[simp] theorem s_vI {i : Int} : vI i = some (.val (.int i)) := rfl
@[simp] theorem s_vB {b : Bool} : vB b = some (.val (.bool b)) := rfl
@[simp] theorem s_fzA : fzA fA env = M.bind (fA env) fun p => match frzAll p.1 p.2 with
  | some q => M.ok q
  | none => none := rfl
@[simp] theorem s_eTup : eTup fA env = M.bind (fzA fA env) fun p => if p.1.length ≤ bigL then M.ok (.val (.tuple p.1), p.2) else none := rfl
@[simp] theorem s_eLst : eLst fA env = M.bind (fzA fA env) fun p => if p.1.length ≤ bigL then M.ok (.own (.lst p.1), p.2) else none := rfl
@[simp] theorem s_bigL : bigL = 100000 := rfl
@[simp] theorem s_so1 {ds : List PyData} : seqOf (.list ds) = some ds := rfl
@[simp] theorem s_so2 {ds : List PyData} : seqOf (.tuple ds) = some ds := rfl
@[simp] theorem s_ixL {ds : List PyData} {k : Int} : ixD (.list ds) (.int k) = match atI ds k with
    | some d => some (.val d)
    | none => none := rfl
@[simp] theorem s_ixT {ds : List PyData} {k : Int} : ixD (.tuple ds) (.int k) = match atI ds k with
    | some d => some (.val d)
    | none => none := rfl
@[simp] theorem s_addI {i j : Int} : addD (.int i) (.int j) = some (.val (.int (i + j))) := rfl
@[simp] theorem s_subI {i j : Int} : subD (.int i) (.int j) = some (.val (.int (i - j))) := rfl
@[simp] theorem s_mulI {i j : Int} : mulD (.int i) (.int j) = if i.natAbs.log2 + j.natAbs.log2 < 1000000 then some (.val (.int (i * j))) else none := rfl
@[simp] theorem s_divI {i j : Int} : divD (.int i) (.int j) = if j ≠ 0 ∧ j.natAbs.log2 < 9000 then some (.val (.int (i.fdiv j))) else none := rfl
@[simp] theorem s_modI {i j : Int} : modD (.int i) (.int j) = if j ≠ 0 then some (.val (.int (i.fmod j))) else none := rfl
@[simp] theorem s_ord {p : Int → Int → Bool} {i j : Int} : ordD p (.int i) (.int j) = some (.val (.bool (p i j))) := rfl
@[simp] theorem s_eqI {i j : Int} : eqD (.int i) (.int j) = some (.val (.bool (i == j))) := rfl
@[simp] theorem s_neI {i j : Int} : neD (.int i) (.int j) = some (.val (.bool (!(i == j)))) := rfl
@[simp] theorem s_eqS {x y : Str} : eqD (.str x) (.str y) = some (.val (.bool (x == y))) := by simp only [eqD, isStrD, vB, PyData.eqv]; simp
@[simp] theorem s_neS {x y : Str} : neD (.str x) (.str y) = some (.val (.bool (!(x == y)))) := by simp only [neD, isStrD, vB, PyData.eqv]; simp
@[simp] theorem s_gtSub {fi : FE} : gtSub i fi d env = match lstO i env with
  | some _ => match fi env with
    | some (.ok q) => match asI q.1 with
      | some k => match lstO i q.2 with
        | some (s, ds) => match ixN ds.length k with
          | some j => some (q.2.set i (some (reO s (.lst (ds.set j d)))))
          | none => none
        | none => none
      | none => none
    | _ => none
  | none => none := rfl
@[simp] theorem s_lstO : lstO i env = match slotO i env with
  | some (s, .lst ds) => some (s, ds)
  | _ => none := rfl
@[simp] theorem s_asI {k : Int} : asI (.val (.int k)) = some k := rfl
@[simp] theorem s_parF {fa fb : FE} : parF i j fa fb env = M.bind (fa env) fun p => match unal p.1 p.2 with
  | some r => M.bind (fb r.2) fun q => match unal q.1 q.2 with
    | some t => match putS i r.1 t.2 with
      | some env3 => match putS j t.1 env3 with
        | some env4 => M.ok (.nx env4)
        | none => none
      | none => none
    | none => none
  | none => none := rfl
@[simp] theorem s_eApp : eApp i fa env = match lstO i env with
  | some _ => M.bind (fa env) fun p => match frz1 (fz p.1) p.2 with
    | some q => match lstO i q.2 with
      | some r => if r.2.length < bigL then M.ok (.val .none, q.2.set i (some (reO r.1 (.lst (r.2 ++ [q.1]))))) else none
      | none => none
    | none => none
  | none => none := rfl
@[simp] theorem s_ra0 : rdAll [] env = some [] := rfl
@[simp] theorem s_ra1 {ss : List Sl} : rdAll (s :: ss) env = match rd s env with
    | some d => match rdAll ss env with
      | some ds => some (d :: ds)
      | none => none
    | none => none := rfl
@[simp] theorem s_gL {h : List PyData → Option Sl} {ds : List PyData} : gL h (some ds) = h ds := rfl
@[simp] theorem s_eCB {h : List PyData → Option Sl} : eCB h fA env = M.bind (fA env) fun p => fin (gL h (rdAll p.1 p.2)) p.2 := rfl
@[simp] theorem s_lenL {xs : List PyData} : lenD [.list xs] = some (.val (.int xs.length)) := rfl
@[simp] theorem s_lenT {xs : List PyData} : lenD [.tuple xs] = some (.val (.int xs.length)) := rfl
@[simp] theorem s_abs {k : Int} : absD [.int k] = some (.val (.int (if k < 0 then -k else k))) := rfl
@[simp] theorem s_max {k m : Int} : maxD [.int k, .int m] = some (.val (.int (if m > k then m else k))) := rfl
@[simp] theorem s_min {k m : Int} : minD [.int k, .int m] = some (.val (.int (if m < k then m else k))) := rfl
@[simp] theorem s_int1 {k : Int} : intD [.int k] = some (.val (.int k)) := rfl
@[simp] theorem s_int2 {b : Bool} : intD [.bool b] = some (.val (.int (if b then 1 else 0))) := rfl
@[simp] theorem s_listL {xs : List PyData} : listD [.list xs] = some (.own (.lst xs)) := rfl
@[simp] theorem s_listT {xs : List PyData} : listD [.tuple xs] = some (.own (.lst xs)) := rfl
@[simp] theorem s_tupL {xs : List PyData} : tupleD [.list xs] = some (.val (.tuple xs)) := rfl
@[simp] theorem s_tupT {xs : List PyData} : tupleD [.tuple xs] = some (.val (.tuple xs)) := rfl
@[simp] theorem s_all {xs : List PyData} : allD [.list xs] = match boolsOf xs with
    | some bs => vB (bs.all id)
    | none => none := rfl
@[simp] theorem s_any {xs : List PyData} : anyD [.list xs] = match boolsOf xs with
    | some bs => vB (bs.any id)
    | none => none := rfl
@[simp] theorem s_chain {fc : FE} : eChain g g' fa fb fc env = M.bind (fa env) fun p => M.bind (fb p.2) fun q => match g2 g (rd (fz p.1) q.2) (rd (fz q.1) q.2) with
  | some z => match asB z with
    | some true => M.bind (fc q.2) fun r => fin (g2 g' (rd (fz q.1) r.2) (rd (fz r.1) r.2)) r.2
    | some false => M.ok (.val (.bool false), q.2)
    | none => none
  | none => none := rfl
@[simp] theorem s_neg {k : Int} : negD (.int k) = some (.val (.int (-k))) := rfl
@[simp] theorem s_oNone : oNone env = some (.ok (none, env)) := rfl
@[simp] theorem s_oSome : oSome fa env = M.bind (fa env) fun p => match asI p.1 with
  | some i => M.ok (some i, p.2)
  | none => none := rfl
@[simp] theorem s_eSl {fl fh : FO} : eSl fa fl fh env = M.bind (fa env) fun p => M.bind (fl p.2) fun q => M.bind (fh q.2) fun r => fin (g1 (slD q.1 r.1) (rd (fz p.1) r.2)) r.2 := rfl
@[simp] theorem s_slL {lo hi : Option Int} {ds : List PyData} : slD lo hi (.list ds) = some (.own (.lst (cutD ds lo hi))) := rfl
@[simp] theorem s_slT {lo hi : Option Int} {ds : List PyData} : slD lo hi (.tuple ds) = some (.val (.tuple (cutD ds lo hi))) := rfl
@[simp] theorem s_addL {xs ys : List PyData} : addD (.list xs) (.list ys) = if xs.length + ys.length ≤ bigL then some (.own (.lst (xs ++ ys))) else none := rfl
@[simp] theorem s_addT {xs ys : List PyData} : addD (.tuple xs) (.tuple ys) = if xs.length + ys.length ≤ bigL then some (.val (.tuple (xs ++ ys))) else none := rfl
@[simp] theorem s_mulL {xs : List PyData} {k : Int} : mulD (.list xs) (.int k) = if xs.length ≤ 1000 ∧ 0 ≤ k ∧ k ≤ 100 then some (.own (.lst (List.replicate k.toNat xs).flatten)) else none := rfl
@[simp] theorem s_mulT {xs : List PyData} {k : Int} : mulD (.tuple xs) (.int k) = if xs.length ≤ 1000 ∧ xs ≠ [] ∧ 2 ≤ k ∧ k ≤ 100 then some (.val (.tuple (List.replicate k.toNat xs).flatten)) else none := rfl
@[simp] theorem s_isD {d' : PyData} : isD d d' = if isNon d' = true then some (.val (.bool (isNon d))) else none := rfl
@[simp] theorem s_isntD {d' : PyData} : isntD d d' = if isNon d' = true then some (.val (.bool (!isNon d))) else none := rfl
@[simp] theorem s_isi {T : BT} : isiD T d = some (.val (.bool (isiB T d))) := rfl
@[simp] theorem s_and {k m : Int} : andD (.int k) (.int m) = some (.val (.int (Builtin.bitAnd k m))) := rfl
end
end DL
set_option Elab.async false
set_option linter.all false
set_option maxRecDepth 100000
set_option maxHeartbeats 4000000
namespace DL
open PySem PySem.Spec PyProof.Rows L2

/-! ### comprehensions and loops, turn by turn -/
def lcStep (gt : GT) (ft : FT) (fe : FE) (vs : List Nat) (d : PyData) (env : EnvD) : Option (Option PyData × EnvD) := match gt d env with
  | some env1 => match ft env1 with
    | some (.ok p) => match p.1 with
      | true => match fe p.2 with
        | some (.ok q) => match frz1 (fz q.1) q.2 with
          | some z => some (some z.1, wipeD z.2 vs)
          | none => none
        | _ => none
      | false => some (none, wipeD p.2 vs)
    | _ => none
  | none => none
theorem lcL_step {gt : GT} {ft : FT} {fe : FE} {vs : List Nat} {d : PyData} {r acc : List PyData} {env : EnvD} : lcL gt ft fe vs (d :: r) acc env = match lcStep gt ft fe vs d env with
    | some (some z, e) => if acc.length < bigL then lcL gt ft fe vs r (acc ++ [z]) e else none
    | some (none, e) => lcL gt ft fe vs r acc e
    | none => none := by
  conv => lhs; unfold lcL
  unfold lcStep
  cases gt d env with
  | none => rfl
  | some e1 =>
    cases h1 : ft e1 with
    | none => simp only [h1]
    | some o =>
      cases o with
      | err c e => simp only [h1]
      | ok p =>
        obtain ⟨b, e2⟩ := p
        simp only [h1]
        cases b with
        | false => rfl
        | true =>
          cases h2 : fe e2 with
          | none => simp only [h2]
          | some o2 =>
            cases o2 with
            | err c e => simp only [h2]
            | ok q =>
              simp only [h2]
              cases h3 : frz1 (fz q.1) q.2 with
              | none => simp only [h3]
              | some z => simp only [h3]
/-- nothing else is changed: the comprehension is a filterMap -/
theorem lcL_pure {gt : GT} {ft : FT} {fe : FE} {vs : List Nat} {env : EnvD} {h : PyData → Option PyData} : ∀ {ds acc : List PyData}, (∀ d ∈ ds, lcStep gt ft fe vs d env = some (h d, env)) → acc.length + ds.length ≤ bigL → lcL gt ft fe vs ds acc env = M.ok (acc ++ ds.filterMap h, env)
  | [], acc, _, _ => by simp [lcL]
  | d :: r, acc, hs, hl => by
    rw [lcL_step, hs d List.mem_cons_self]
    simp only [List.length_cons] at hl
    cases e : h d with
    | none =>
      dsimp only
      rw [lcL_pure (fun x hx => hs x (List.mem_cons_of_mem _ hx)) (by omega), List.filterMap_cons, e]
    | some z =>
      dsimp only
      rw [if_pos (by omega), lcL_pure (fun x hx => hs x (List.mem_cons_of_mem _ hx)) (by rw [List.length_append, List.length_singleton]; omega), List.filterMap_cons, e, List.append_assoc]
      rfl
/-- what holds of the slots and of each that is made -/
theorem lcL_inv {gt : GT} {ft : FT} {fe : FE} {vs : List Nat} {Inv : EnvD → Prop} {Pd : PyData → Prop} : ∀ {ds acc : List PyData} {env : EnvD}, (∀ d ∈ ds, ∀ env, Inv env → ∃ z env', lcStep gt ft fe vs d env = some (some z, env') ∧ Pd z ∧ Inv env') → Inv env → (∀ x ∈ acc, Pd x) → acc.length + ds.length ≤ bigL →
    ∃ out env', lcL gt ft fe vs ds acc env = M.ok (out, env') ∧ Inv env' ∧ (∀ x ∈ out, Pd x) ∧ out.length = acc.length + ds.length
  | [], acc, env, _, hi, ha, _ => ⟨acc, env, rfl, hi, ha, rfl⟩
  | d :: r, acc, env, hs, hi, ha, hl => by
    simp only [List.length_cons] at hl
    obtain ⟨z, e1, h1, h2, h3⟩ := hs d List.mem_cons_self env hi
    obtain ⟨out, e2, g1, g2, g3, g4⟩ := lcL_inv (ds := r) (acc := acc ++ [z]) (fun x hx => hs x (List.mem_cons_of_mem _ hx)) h3 (fun x hx => by
      rcases List.mem_append.mp hx with y | y
      · exact ha x y
      · rw [List.mem_singleton.mp y]; exact h2) (by rw [List.length_append, List.length_singleton]; omega)
    refine ⟨out, e2, ?_, g2, g3, by rw [g4, List.length_append, List.length_singleton, List.length_cons]; omega⟩
    rw [lcL_step, h1]
    dsimp only
    rw [if_pos (by omega), g1]
theorem lcL_invF {gt : GT} {ft : FT} {fe : FE} {vs : List Nat} {Inv : EnvD → Prop} {Pd : PyData → Prop} : ∀ {ds acc : List PyData} {env : EnvD}, (∀ d ∈ ds, ∀ env, Inv env → ∃ z env', lcStep gt ft fe vs d env = some (z, env') ∧ (∀ y, z = some y → Pd y) ∧ Inv env') → Inv env → (∀ x ∈ acc, Pd x) → acc.length + ds.length ≤ bigL →
    ∃ out env', lcL gt ft fe vs ds acc env = M.ok (out, env') ∧ Inv env' ∧ (∀ x ∈ out, Pd x)
  | [], acc, env, _, hi, ha, _ => ⟨acc, env, rfl, hi, ha⟩
  | d :: r, acc, env, hs, hi, ha, hl => by
    simp only [List.length_cons] at hl
    obtain ⟨z, e1, h1, h2, h3⟩ := hs d List.mem_cons_self env hi
    have tl : ∀ d ∈ r, ∀ env, Inv env → ∃ z env', lcStep gt ft fe vs d env = some (z, env') ∧ (∀ y, z = some y → Pd y) ∧ Inv env' := fun x hx => hs x (List.mem_cons_of_mem _ hx)
    cases z with
    | none =>
      obtain ⟨out, e2, g1, g2, g3⟩ := lcL_invF (ds := r) (acc := acc) tl h3 ha (by omega)
      exact ⟨out, e2, by rw [lcL_step, h1]; exact g1, g2, g3⟩
    | some z =>
      obtain ⟨out, e2, g1, g2, g3⟩ := lcL_invF (ds := r) (acc := acc ++ [z]) tl h3 (fun x hx => by
        rcases List.mem_append.mp hx with y | y
        · exact ha x y
        · rw [List.mem_singleton.mp y]; exact h2 z rfl) (by rw [List.length_append, List.length_singleton]; omega)
      exact ⟨out, e2, by rw [lcL_step, h1]; dsimp only; rw [if_pos (by omega)]; exact g1, g2, g3⟩
def forStep (gt : GT) (u : FS) (d : PyData) (env : EnvD) : M Flo := match gt d env with
  | some env1 => u env1
  | none => none
theorem forL_step {gt : GT} {u : FS} {d : PyData} {r : List PyData} {env : EnvD} : forL gt u (d :: r) env = M.bind (forStep gt u d env) fun z => match z with
      | .nx env2 => forL gt u r env2
      | .rt s env2 => M.ok (.rt s env2) := by
  conv => lhs; unfold forL
  unfold forStep
  cases gt d env <;> rfl
/-- each turn runs on -/
theorem forL_inv {gt : GT} {u : FS} {Inv : Nat → EnvD → Prop} : ∀ {ds : List PyData} {env : EnvD} {k : Nat}, (∀ j d, ds[j]? = some d → ∀ env, Inv (k + j) env → ∃ env', forStep gt u d env = M.ok (.nx env') ∧ Inv (k + j + 1) env') → Inv k env → ∃ env', forL gt u ds env = M.ok (.nx env') ∧ Inv (k + ds.length) env'
  | [], env, k, _, hi => ⟨env, rfl, hi⟩
  | d :: r, env, k, hs, hi => by
    obtain ⟨e1, h1, h2⟩ := hs 0 d rfl env hi
    obtain ⟨e2, g1, g2⟩ := forL_inv (ds := r) (env := e1) (k := k + 1) (fun j x hx env he => by
      have := hs (j + 1) x (by simpa using hx) env (by rw [show k + (j + 1) = k + 1 + j from by omega]; exact he)
      rw [show k + (j + 1) + 1 = k + 1 + j + 1 from by omega] at this
      exact this) h2
    refine ⟨e2, by rw [forL_step, h1]; exact g1, by rw [List.length_cons, show k + (r.length + 1) = k + 1 + r.length from by omega]; exact g2⟩
section
variable {env : EnvD} {fi : FI} {gt : GT} {ft : FT} {fe fa : FE} {vs : List Nat} {u : FS} {fA : FA}
@[simp] theorem lcL_nil {acc : List PyData} : lcL gt ft fe vs [] acc env = some (.ok (acc, env)) := by unfold lcL; rfl
@[simp] theorem forL_nil : forL gt u [] env = some (.ok (.nx env)) := by unfold forL; rfl
@[simp] theorem s_lcF : lcF fi gt ft fe vs env = M.bind (fi env) fun p => M.bind (lcL gt ft fe vs p.1 [] (wipeD p.2 vs)) fun q => M.ok (.own (.lst q.1), q.2) := rfl
@[simp] theorem s_forF : forF fi gt u env = M.bind (fi env) fun p => forL gt u p.1 p.2 := rfl
@[simp] theorem s_yes : yesF env = some (.ok (true, env)) := rfl
@[simp] theorem s_seqI : seqI fa env = M.bind (fa env) fun p => match frz1 (fz p.1) p.2 with
  | some q => match seqOf q.1 with
    | some ds => M.ok (ds, q.2)
    | none => none
  | none => none := rfl
@[simp] theorem s_argI {g : List PyData → Option (List PyData)} : argI g fA env = M.bind (fzA fA env) fun p => match g p.1 with
  | some ds => M.ok (ds, p.2)
  | none => none := rfl
@[simp] theorem s_rng1 {j : Int} : rng1I [.int j] = if smallI j = true then some (rngL 0 j.toNat) else none := rfl
@[simp] theorem s_rng2 {i j : Int} : rng2I [.int i, .int j] = if smallI i = true ∧ smallI j = true then some (rngL i (j - i).toNat) else none := rfl
@[simp] theorem s_zip {a b : PyData} : zipI [a, b] = match seqOf a with
    | some xs => match seqOf b with
      | some ys => some (pairL xs ys)
      | none => none
    | none => none := rfl
@[simp] theorem s_enum {a : PyData} : enumI [a] = match seqOf a with
    | some xs => some (numL 0 xs)
    | none => none := rfl
@[simp] theorem s_wipe0 : wipeD env [] = env := rfl
@[simp] theorem s_wipe1 {v : Nat} : wipeD env (v :: vs) = (wipeD env vs).set v none := rfl
@[simp] theorem s_lcStep {d : PyData} : lcStep gt ft fe vs d env = match gt d env with
  | some env1 => match ft env1 with
    | some (.ok p) => match p.1 with
      | true => match fe p.2 with
        | some (.ok q) => match frz1 (fz q.1) q.2 with
          | some z => some (some z.1, wipeD z.2 vs)
          | none => none
        | _ => none
      | false => some (none, wipeD p.2 vs)
    | _ => none
  | none => none := rfl
@[simp] theorem s_forStep {d : PyData} : forStep gt u d env = match gt d env with
  | some env1 => u env1
  | none => none := rfl
theorem smallI_ok {i : Int} (h1 : -1000000 ≤ i) (h2 : i ≤ 1000000) : smallI i = true := by simp [smallI, h1, h2]
end

/-! ### it tells something that is so -/
def OkM {α : Type} (m : M α) (Q : α → Prop) : Prop := ∃ a, m = some (.ok a) ∧ Q a
theorem ok_bind {α β : Type} {m : M α} {f : α → M β} {P : α → Prop} {Q : β → Prop} (h : OkM m P) (k : ∀ a, P a → OkM (f a) Q) : OkM (M.bind m f) Q := by
  obtain ⟨a, rfl, ha⟩ := h
  exact k a ha
theorem ok_ok {α : Type} {a : α} {Q : α → Prop} (h : Q a) : OkM (some (.ok a)) Q := ⟨a, rfl, h⟩
theorem ok_seq {u v : FS} {env : EnvD} {Q : Flo → Prop} (h : OkM (u env) fun r => ∃ e, r = .nx e ∧ OkM (v e) Q) : OkM (seqF u v env) Q :=
  ok_bind h fun a ⟨e, ha, hq⟩ => by subst ha; exact hq
theorem ok_asg {i : Nat} {fa : FE} {env : EnvD} {Q : Flo → Prop} (h : OkM (fa env) fun p => ∃ q env2, unal p.1 p.2 = some q ∧ putS i q.1 q.2 = some env2 ∧ Q (.nx env2)) : OkM (asgF i fa env) Q :=
  ok_bind h fun p ⟨q, env2, h1, h2, h3⟩ => by
    rw [h1]
    dsimp only
    rw [h2]
    exact ok_ok h3
theorem ok_body {n l : Nat} {f : FS} {args : List Sl} {Q : Sl × EnvD → Prop} (hl : args.length = n) (h : OkM (f (args.map some ++ List.replicate (l - n) none)) fun r => OkM (endF args (some (.ok r))) Q) : OkM (bodyF n l f args) Q := by
  unfold bodyF
  rw [if_pos hl]
  obtain ⟨r, h1, h2⟩ := h
  rw [h1]
  exact h2
theorem ok_imp {α : Type} {m : M α} {P Q : α → Prop} (h : OkM m P) (k : ∀ a, P a → Q a) : OkM m Q := by
  obtain ⟨a, e, ha⟩ := h
  exact ⟨a, e, k a ha⟩
theorem beqF {a b : Int} (h : ¬ a = b) : (a == b) = false := by simpa using h
theorem log_small {j : Int} (h1 : 0 ≤ j) (h2 : j < 18446744073709551616) : j.natAbs.log2 < 64 := by
  rcases Nat.eq_zero_or_pos j.natAbs with h | h
  · rw [h]; decide
  · exact (Nat.log2_lt (by omega)).mpr (by omega)
theorem lcL_map {gt : GT} {ft : FT} {fe : FE} {vs : List Nat} {env : EnvD} {h : PyData → PyData} {ds : List PyData} (hs : ∀ d ∈ ds, lcStep gt ft fe vs d env = some (some (h d), env)) (hl : ds.length ≤ bigL) : lcL gt ft fe vs ds [] env = some (.ok (ds.map h, env)) := by
  rw [lcL_pure (h := fun d => some (h d)) hs (by simpa using hl)]
  simp
theorem lcL_filt {gt : GT} {ft : FT} {fe : FE} {vs : List Nat} {env : EnvD} {h : PyData → Bool} {ds : List PyData} (hs : ∀ d ∈ ds, lcStep gt ft fe vs d env = some (if h d then some d else none, env)) (hl : ds.length ≤ bigL) : lcL gt ft fe vs ds [] env = some (.ok (ds.filter h, env)) := by
  rw [lcL_pure (h := fun d => if h d then some d else none) hs (by simpa using hl)]
  simp [List.filterMap_eq_filter]
  congr 2
  induction ds with
  | nil => rfl
  | cons d r ih =>
    have ih := ih (fun x hx => hs x (List.mem_cons_of_mem _ hx)) (by simp at hl ⊢; omega)
    rw [List.filterMap_cons, List.filter_cons]
    cases h d <;> simp [ih]
theorem boolsOf_map {α : Type} {l : List α} {f : α → Bool} : boolsOf (l.map fun x => .bool (f x)) = some (l.map f) := by
  induction l with
  | nil => rfl
  | cons a r ih => simp [boolsOf, asBool, ih]
@[simp] theorem all_tt {α : Type} {l : List α} : (l.all fun _ => true) = true := List.all_eq_true.mpr fun _ _ => rfl
theorem atI_nat {α : Type} {l : List α} {k : Nat} (h : k < l.length) : atI l (k : Int) = l[k]? := by
  unfold atI ixN
  rw [if_pos (by omega), if_pos (by omega)]
  simp
@[simp] theorem at_0 {α : Type} {x0 : α} {l : List α} : atI (x0 :: l) 0 = some x0 := (atI_nat (k := 0) (by simp; try omega)).trans rfl
@[simp] theorem at_1 {α : Type} {x0 x1 : α} {l : List α} : atI (x0 :: x1 :: l) 1 = some x1 := (atI_nat (k := 1) (by simp; try omega)).trans rfl
@[simp] theorem at_2 {α : Type} {x0 x1 x2 : α} {l : List α} : atI (x0 :: x1 :: x2 :: l) 2 = some x2 := (atI_nat (k := 2) (by simp; try omega)).trans rfl
@[simp] theorem at_3 {α : Type} {x0 x1 x2 x3 : α} {l : List α} : atI (x0 :: x1 :: x2 :: x3 :: l) 3 = some x3 := (atI_nat (k := 3) (by simp; try omega)).trans rfl
@[simp] theorem at_4 {α : Type} {x0 x1 x2 x3 x4 : α} {l : List α} : atI (x0 :: x1 :: x2 :: x3 :: x4 :: l) 4 = some x4 := (atI_nat (k := 4) (by simp; try omega)).trans rfl
@[simp] theorem at_5 {α : Type} {x0 x1 x2 x3 x4 x5 : α} {l : List α} : atI (x0 :: x1 :: x2 :: x3 :: x4 :: x5 :: l) 5 = some x5 := (atI_nat (k := 5) (by simp; try omega)).trans rfl
@[simp] theorem at_6 {α : Type} {x0 x1 x2 x3 x4 x5 x6 : α} {l : List α} : atI (x0 :: x1 :: x2 :: x3 :: x4 :: x5 :: x6 :: l) 6 = some x6 := (atI_nat (k := 6) (by simp; try omega)).trans rfl
@[simp] theorem at_7 {α : Type} {x0 x1 x2 x3 x4 x5 x6 x7 : α} {l : List α} : atI (x0 :: x1 :: x2 :: x3 :: x4 :: x5 :: x6 :: x7 :: l) 7 = some x7 := (atI_nat (k := 7) (by simp; try omega)).trans rfl
theorem lcL_sub {gt : GT} {ft : FT} {fe : FE} {vs : List Nat} {Inv : EnvD → Prop} : ∀ {ds acc : List PyData} {env : EnvD}, (∀ d ∈ ds, ∀ env, Inv env → ∃ (b : Bool) (env' : EnvD), lcStep gt ft fe vs d env = some (if b then some d else none, env') ∧ Inv env') → Inv env → acc.length + ds.length ≤ bigL →
    ∃ out env', lcL gt ft fe vs ds acc env = M.ok (acc ++ out, env') ∧ Inv env' ∧ out.Sublist ds
  | [], acc, env, _, hi, _ => ⟨[], env, by simp [lcL], hi, List.Sublist.refl _⟩
  | d :: r, acc, env, hs, hi, hl => by
    simp only [List.length_cons] at hl
    obtain ⟨b, e1, h1, h3⟩ := hs d List.mem_cons_self env hi
    have tl : ∀ d ∈ r, ∀ env, Inv env → ∃ (b : Bool) (env' : EnvD), lcStep gt ft fe vs d env = some (if b then some d else none, env') ∧ Inv env' := fun x hx => hs x (List.mem_cons_of_mem _ hx)
    cases b with
    | false =>
      obtain ⟨out, e2, g1, g2, g3⟩ := lcL_sub (ds := r) (acc := acc) tl h3 (by omega)
      exact ⟨out, e2, by rw [lcL_step, h1]; exact g1, g2, g3.trans (List.sublist_cons_self _ _)⟩
    | true =>
      obtain ⟨out, e2, g1, g2, g3⟩ := lcL_sub (ds := r) (acc := acc ++ [d]) tl h3 (by rw [List.length_append, List.length_singleton]; omega)
      refine ⟨d :: out, e2, ?_, g2, g3.cons₂ d⟩
      rw [lcL_step, h1]
      simp only [if_true]
      rw [if_pos (by omega), g1, List.append_assoc]
      rfl
end DL
set_option Elab.async false
set_option linter.all false
set_option maxRecDepth 100000
set_option maxHeartbeats 4000000
namespace DL
open PySem PySem.Spec PyProof.Rows L2
/-! ### things of bounded depth and weight: what repr and == ask -/
structure Sm (w k : Nat) (d : PyData) : Prop where
  lay : d.canLay0 = true
  dep : d.depth ≤ k
  wt : d.weight ≤ w
  sh : d.showable = true
  nd : d.hasDict = false
  sho : d.intsShort 13 = true
theorem Sm.mono {w k w' k' : Nat} {d : PyData} (h : Sm w k d) (hw : w ≤ w') (hk : k ≤ k') : Sm w' k' d := ⟨h.lay, Nat.le_trans h.dep hk, Nat.le_trans h.wt hw, h.sh, h.nd, h.sho⟩
theorem Sm.repr {w k : Nat} {d : PyData} (h : Sm w k d) (hw : w ≤ 1048576 := by decide) (hk : k ≤ 64 := by decide) : reprOk d = true := by
  have h1 := h.dep
  have h2 := h.wt
  have e : (2 : Nat) ^ 20 = 1048576 := by decide
  unfold reprOk PyData.layable0
  simp only [h.lay, h.sh, h.nd, h.sho, Bool.true_and, Bool.and_true, Bool.not_false, Bool.and_eq_true, decide_eq_true_eq]
  omega
theorem Sm.shaped {w k : Nat} {d : PyData} (h : Sm w k d) (hk : k ≤ 64 := by decide) : SeqAt.shaped d = true := by
  have h1 := h.dep
  unfold SeqAt.shaped
  simp only [h.lay, Bool.true_and, decide_eq_true_eq]
  omega
theorem Sm.none {w k : Nat} : Sm w k .none := ⟨rfl, by simp [PyData.depth], by simp [PyData.weight], rfl, rfl, rfl⟩
theorem Sm.bool {w k : Nat} {b : Bool} : Sm w k (.bool b) := ⟨rfl, by simp [PyData.depth], by simp [PyData.weight], rfl, rfl, rfl⟩
theorem Sm.int {w k : Nat} {i : Int} (h : i.natAbs < 10 ^ 12) (hw : 40 ≤ w := by omega) : Sm w k (.int i) := by
  have l : i.natAbs.log2 < 40 := by
    rcases Nat.eq_zero_or_pos i.natAbs with z | z
    · rw [z]; decide
    · exact (Nat.log2_lt (by omega)).mpr (Nat.lt_of_lt_of_le h (by decide))
  refine ⟨rfl, by simp [PyData.depth], ?_, ?_, rfl, ?_⟩
  · unfold PyData.weight
    split <;> omega
  · unfold PyData.showable
    simp only [decide_eq_true_eq]
    omega
  · unfold PyData.intsShort
    simp only [decide_eq_true_eq]
    exact PyData.shown_int_le h
theorem Sm.str {w k : Nat} {x : Str} (h : PyData.canLay0 (.str x) = true) (hl : x.cps.size ≤ w) : Sm w k (.str x) := ⟨h, by simp [PyData.depth], by simpa [PyData.weight] using hl, rfl, rfl, rfl⟩
theorem sm_all {w k : Nat} : ∀ {xs : List PyData}, (∀ x ∈ xs, Sm w k x) → PyData.canLayAll0 xs = true ∧ PyData.depthAll xs ≤ k ∧ PyData.weightAll xs ≤ xs.length * (w + 1) ∧ PyData.showableAll xs = true ∧ PyData.hasDictAll xs = false ∧ PyData.intsShortAll 13 xs = true
  | [], _ => by simp [PyData.canLayAll0, PyData.depthAll, PyData.weightAll, PyData.showableAll, PyData.hasDictAll, PyData.intsShortAll]
  | x :: xs, h => by
    obtain ⟨h1, h2, h3, h4, h5, h6⟩ := sm_all (xs := xs) fun y hy => h y (List.mem_cons_of_mem _ hy)
    have hx := h x List.mem_cons_self
    have := hx.dep
    have := hx.wt
    refine ⟨by simp [PyData.canLayAll0, hx.lay, h1], by simp only [PyData.depthAll]; omega, ?_, by simp [PyData.showableAll, hx.sh, h4], by simp [PyData.hasDictAll, hx.nd, h5], by simp [PyData.intsShortAll, hx.sho, h6]⟩
    simp only [PyData.weightAll, List.length_cons, Nat.add_mul]
    omega
theorem Sm.tup {w k n w' k' : Nat} {xs : List PyData} (h : ∀ x ∈ xs, Sm w k x) (hn : xs.length ≤ n) (hw : n * (w + 1) ≤ w') (hk : k + 1 ≤ k') : Sm w' k' (.tuple xs) := by
  obtain ⟨h1, h2, h3, h4, h5, h6⟩ := sm_all h
  have h7 : xs.length * (w + 1) ≤ n * (w + 1) := Nat.mul_le_mul_right _ hn
  exact ⟨by simpa [PyData.canLay0] using h1, by simp only [PyData.depth]; omega, by simp only [PyData.weight]; omega, by simpa [PyData.showable] using h4, by simpa [PyData.hasDict] using h5, by simpa [PyData.intsShort] using h6⟩
theorem Sm.lst {w k n w' k' : Nat} {xs : List PyData} (h : ∀ x ∈ xs, Sm w k x) (hn : xs.length ≤ n) (hw : n * (w + 1) ≤ w') (hk : k + 1 ≤ k') : Sm w' k' (.list xs) := by
  obtain ⟨h1, h2, h3, h4, h5, h6⟩ := sm_all h
  have h7 : xs.length * (w + 1) ≤ n * (w + 1) := Nat.mul_le_mul_right _ hn
  exact ⟨by simpa [PyData.canLay0] using h1, by simp only [PyData.depth]; omega, by simp only [PyData.weight]; omega, by simpa [PyData.showable] using h4, by simpa [PyData.hasDict] using h5, by simpa [PyData.intsShort] using h6⟩
/-- closed things: by looking -/
def smB (w k : Nat) (d : PyData) : Bool := d.canLay0 && (decide (d.depth ≤ k) && (decide (d.weight ≤ w) && (d.showable && (!d.hasDict && d.intsShort 13))))
theorem smB_ok {w k : Nat} {d : PyData} (h : smB w k d = true) : Sm w k d := by
  unfold smB at h
  simp only [Bool.and_eq_true, decide_eq_true_eq, Bool.not_eq_true'] at h
  obtain ⟨h1, h2, h3, h4, h5, h6⟩ := h
  exact ⟨h1, h2, h3, h4, h5, h6⟩
theorem isE_eq {i a : Nat} {b : Bool} {env : EnvD} (h : env[i]? = some (some (.al a))) : eIsE i a b env = some (.ok (.val (.bool b), env)) := by
  unfold eIsE
  rw [h]
  simp
theorem lst_sh (bs : List Bool) : SeqAt.shaped (.list (bs.map PyData.bool)) = true := by
  have h1 : ∀ bs : List Bool, PyData.canLayAll0 (bs.map PyData.bool) = true := fun bs => by induction bs <;> simp_all [PyData.canLayAll0, PyData.canLay0]
  have h2 : ∀ bs : List Bool, PyData.depthAll (bs.map PyData.bool) ≤ 1 := fun bs => by induction bs <;> simp_all [PyData.depthAll, PyData.depth] <;> omega
  have := h2 bs
  simp [SeqAt.shaped, PyData.canLay0, h1, PyData.depth]
  omega
theorem bt_sh : SeqAt.shaped (.bool true) = true := by decide
theorem eM1_s {g : PyData → PyData → Option Sl} {fo fe : FE} {env : EnvD} : eM1 g fo fe env = M.bind (fo env) fun p => match rd (fz p.1) p.2 with
  | some (.list _) => M.bind (fe p.2) fun q => fin (g2 g (rd (fz p.1) q.2) (rd (fz q.1) q.2)) q.2
  | _ => none := rfl
end DL
set_option Elab.async false
set_option linter.all false
set_option maxRecDepth 100000
set_option maxHeartbeats 4000000
namespace DL
open PySem PySem.Spec PyProof.Rows L2

/-! ### x.pop(), x.extend(a list made for it) -/
def eExt (i : Nat) (fa : FE) : FE := fun env =>
  match lstO i env with
  | some _ => M.bind (fa env) fun p => match p.1 with
    | .own (.lst zs) => match lstO i p.2 with
      | some r => if r.2.length + zs.length ≤ bigL then M.ok (.val .none, p.2.set i (some (reO r.1 (.lst (r.2 ++ zs))))) else none
      | none => none
    | _ => none
  | none => none
def ePop (i : Nat) : FE := fun env =>
  match lstO i env with
  | some r => match r.2[r.2.length - 1]? with
    | some d => M.ok (.val d, env.set i (some (reO r.1 (.lst r.2.dropLast))))
    | none => none
  | none => none
theorem RpL.dropLast {K : PySem.W.Frag} {F : Hp} {xs : List V} {ds : List PyData} (h : RpL K F xs ds) : RpL K F xs.dropLast ds.dropLast := by
  rw [List.dropLast_eq_take, List.dropLast_eq_take, h.length]
  exact h.take _
section
variable {X : Cx} {W : WX} {e a b c : Expr} {es rest : List Expr} {f fa fb fc : FE} {pos apos cpos : Pos} {x : Str} {p : Pos}
theorem de_ext (i : Nat) {px : Pos} (ha : DE X W e fa) (hN : X.N[i]? = some x := by rfl) (hv : Vis X.env.scope x := by first | exact Or.inl rfl | exact Or.inr (Or.inl rfl) | exact Or.inr (Or.inr rfl)) (hd : (x == ("__debug__" : Str)) = false := by decide)
    (hcd : (x == ("__classdict__" : Str)) = false := by decide) (he : starEach [e] X.env = (false, eval e X.env) :: starEach [] X.env := by rfl) (hbase : attributeBase (.Name x px) "extend" X.env (eval (.Name x px) X.env) = eval (.Name x px) X.env := by rfl)
    (hfew : ((backTo cpos (starEach [e] X.env)).all (fun x => !x.1) && (backToKw cpos (keywordEach [] X.env)).all (fun x => x.1.isSome) && decide (([e] : List Expr).length + ([] : List Keyword).length + (if ([] : List Keyword).isEmpty then 0 else 1) < 30)) = true := by rfl)
    (hline : (apos.endLine == cpos.line) = true := by rfl) (hpl : (backTo cpos (starEach [] X.env)).any (·.1) = false := by rfl) :
    DE X W (.Call (.Attribute (.Name x px) "extend" apos) [e] [] cpos) (eExt i fa) := by
  refine ⟨_, pe_bm PySem.F.plainAttrs_list PySem.F.slot_list_extend PySem.F.type_list_extend mt_extend (pe_var hN hv hd hcd) (pa_cons ha.can pa_nil he) hbase hfew hline he hpl, fun G O P ts env σ F H Q S hp => ?_⟩
  unfold eExt at hp
  cases q0 : lstO i env with
  | none => rw [q0] at hp; exact hp.elim
  | some r0 =>
    rw [q0] at hp
    obtain ⟨s0, ds0⟩ := r0
    obtain ⟨a0, f1, f2, f3, ⟨xs0, f4, _⟩, _⟩ := S.slO (lstO_ok q0)
    refine ⟨_, f1, .inl ⟨rfl, xs0, .inl (.inl f4)⟩, ?_⟩
    refine snd_tE G O P ts env σ F H _ S ?_
    cases q1 : fa env with
    | none => rw [q1] at hp; exact hp.elim
    | some o =>
      rw [q1] at hp
      cases o with
      | err c env' => exact hp
      | ok pr =>
        obtain ⟨s, env'⟩ := pr
        intro v F' H' S' r
        cases s with
        | val d => exact hp.elim
        | pen o => exact hp.elim
        | al j => exact hp.elim
        | own o =>
          cases o with
          | dct kvs => exact hp.elim
          | lst zs =>
            obtain ⟨bb, rfl, nF, nO, ⟨ys, hb, rb⟩, ns⟩ := r
            have hp' : PostE X.K X.mg W G O P ts σ Q (match lstO i env' with
              | some r => if r.2.length + zs.length ≤ bigL then M.ok (.val .none, env'.set i (some (reO r.1 (.lst (r.2 ++ zs))))) else none
              | none => none) := hp
            cases q2 : lstO i env' with
            | none => rw [q2] at hp'; exact hp'.elim
            | some r =>
              rw [q2] at hp'
              obtain ⟨s3, ds⟩ := r
              dsimp only at hp'
              obtain ⟨a, g1, g2, g3, ⟨xs, g4, g5⟩, _⟩ := S'.slO (lstO_ok q2)
              rw [f1] at g1
              cases g1
              split at hp'
              · rename_i hl
                refine ⟨a0, bb, xs, ys, rfl, rfl, g4, hb, by rw [g5.length, rb.length]; exact bigL_ok hl, ?_⟩
                exact hp' _ F' _ (S'.reown (u := .lst (xs ++ ys)) (lstO_ok q2) f1 ⟨_, upd_same, g5.app rb⟩) .non
              · exact hp'.elim
theorem de_pop (i : Nat) {px : Pos} (hN : X.N[i]? = some x := by rfl) (hv : Vis X.env.scope x := by first | exact Or.inl rfl | exact Or.inr (Or.inl rfl) | exact Or.inr (Or.inr rfl)) (hd : (x == ("__debug__" : Str)) = false := by decide)
    (hcd : (x == ("__classdict__" : Str)) = false := by decide) (hbase : attributeBase (.Name x px) "pop" X.env (eval (.Name x px) X.env) = eval (.Name x px) X.env := by rfl) (hline : (apos.endLine == cpos.line) = true := by rfl) :
    DE X W (.Call (.Attribute (.Name x px) "pop" apos) [] [] cpos) (ePop i) := by
  refine ⟨_, pe_bm0 PySem.F.plainAttrs_list PySem.F.slot_list_pop PySem.F.type_list_pop mt_pop (pe_var hN hv hd hcd) hbase hline, fun G O P ts env σ F H Q S hp => ?_⟩
  unfold ePop at hp
  cases q0 : lstO i env with
  | none => rw [q0] at hp; exact hp.elim
  | some r0 =>
    rw [q0] at hp
    obtain ⟨s0, ds0⟩ := r0
    dsimp only at hp
    obtain ⟨a0, f1, f2, f3, ⟨xs0, f4, f5⟩, _⟩ := S.slO (lstO_ok q0)
    refine ⟨_, f1, .inl ⟨rfl, xs0, .inl (.inl f4)⟩, ?_⟩
    cases q1 : ds0[ds0.length - 1]? with
    | none => rw [q1] at hp; exact hp.elim
    | some d =>
      rw [q1] at hp
      obtain ⟨v, e1, e2⟩ := f5.get q1
      refine ⟨a0, xs0, v, rfl, rfl, f4, by rw [f5.length]; exact e1, ?_⟩
      exact hp _ F _ (S.reown (u := .lst xs0.dropLast) (lstO_ok q0) f1 ⟨_, upd_same, f5.dropLast⟩) e2
end
section
variable {env : EnvD} {i : Nat} {fa : FE}
@[simp] theorem s_eExt : eExt i fa env = match lstO i env with
  | some _ => M.bind (fa env) fun p => match p.1 with
    | .own (.lst zs) => match lstO i p.2 with
      | some r => if r.2.length + zs.length ≤ bigL then M.ok (.val .none, p.2.set i (some (reO r.1 (.lst (r.2 ++ zs))))) else none
      | none => none
    | _ => none
  | none => none := rfl
@[simp] theorem s_ePop : ePop i env = match lstO i env with
  | some r => match r.2[r.2.length - 1]? with
    | some d => M.ok (.val d, env.set i (some (reO r.1 (.lst r.2.dropLast))))
    | none => none
  | none => none := rfl
end
end DL
set_option Elab.async false
set_option linter.all false
set_option maxRecDepth 100000
set_option maxHeartbeats 4000000
namespace DL
open PySem PySem.Spec PyProof.Rows L2

/-! ### a def that promises nothing: the ground of a recursion -/
theorem callee_zero {gd : Bool} {P : Program} {w : World} {K : PySem.W.Frag} {mg : Str → Option Value} {base : Heap} {x : Str} {st : Stmt} {ps : List Str} {k : Nat} (h : Has K mg x st ps) : Callee gd P w K mg base k x ps (fun _ => none) := by
  obtain ⟨f, fd, h1, h2, h3⟩ := h.ex
  refine ⟨f, fd, ⟨fun vs H Q E z => ?_, fun A outer s H args us vs Q E _ _ _ _ z => ?_⟩, h2, h1.kp, h3⟩
  · obtain ⟨_, _, _, _, _, _, hp⟩ := z; exact hp.elim
  · obtain ⟨_, _, _, _, _, _, hp⟩ := z; exact hp.elim

/-! ### comprehensions with two fors -/
def lc2L (gt : GT) (ft : FT) (fi1 : FI) (gt1 : GT) (ft1 : FT) (fe : FE) (vs vs1 : List Nat) : List PyData → List PyData → EnvD → M (List PyData × EnvD)
  | [], acc, env => M.ok (acc, env)
  | d :: r, acc, env => match gt d env with
    | some env1 => match ft env1 with
      | some (.ok p) => match p.1 with
        | true => match fi1 p.2 with
          | some (.ok q) => match lcL gt1 ft1 fe vs1 q.1 acc (wipeD q.2 vs1) with
            | some (.ok z) => lc2L gt ft fi1 gt1 ft1 fe vs vs1 r z.1 (wipeD z.2 vs)
            | _ => none
          | _ => none
        | false => lc2L gt ft fi1 gt1 ft1 fe vs vs1 r acc (wipeD p.2 vs)
      | _ => none
    | none => none
def lc2F (fi : FI) (gt : GT) (ft : FT) (fi1 : FI) (gt1 : GT) (ft1 : FT) (fe : FE) (vs vs1 : List Nat) : FE := fun env => M.bind (fi env) fun p => M.bind (lc2L gt ft fi1 gt1 ft1 fe vs vs1 p.1 [] (wipeD p.2 vs)) fun q => M.ok (.own (.lst q.1), q.2)
/-- a walk, whatever is done with each -/
theorem walk_in {J : It} {n : Nat} {G : Hp → Prop} {Y : Nat → Hp → V → Hp → Prop} (w : Walk J n G Y) {H1 : Hp} {Qd : Hp → Prop} (Bd : V → Hp → (Hp → Prop) → Prop) (Pv : Nat → Hp → Prop) (h0 : Pv 0 H1) (hG : ∀ i H, i ≤ n → Pv i H → G H)
    (hs : ∀ i x H H', i < n → Pv i H → Y i H x H' → Bd x H' (Pv (i + 1))) (hd : ∀ H, Pv n H → Qd H) :
    ∃ W : Nat → Nat → Hp → Prop, (∃ m, W 0 m H1) ∧ ∀ i m H, W i m H →
      (J.stop i H ∧ Qd H) ∨ (J.go i H ∧ ∃ Nx : Hp → Prop, (∀ H', Nx H' → ∃ m', m' < m ∧ W (i + 1) m' H') ∧ ∀ x H', J.yld i H x H' → Bd x H' Nx) := by
  refine ⟨fun i m H => (m = n - i ∧ i ≤ n) ∧ Pv i H, ⟨n, ⟨by omega, by omega⟩, h0⟩, fun i m H hw => ?_⟩
  obtain ⟨⟨hm, hi⟩, p⟩ := hw
  have hg := hG i H hi p
  by_cases hlt : i < n
  · exact .inr ⟨w.goes i H hlt hg, Pv (i + 1), fun H' p' => ⟨n - (i + 1), by omega, ⟨rfl, hlt⟩, p'⟩, fun x H' y => hs i x H H' hlt p (w.yields i H x H' hlt hg y)⟩
  · have e : i = n := by omega
    subst e
    exact .inl ⟨w.stops H hg, hd H p⟩
/-- one reading for each walk -/
def tI (K : PySem.W.Frag) (mg : Str → Option Value) (W : WX) (f : FI) : TI := fun σ H R => ∃ G O P ts env F, SR K G O P ts env σ F H ∧ PostI K mg W G O P ts σ R (f env)
theorem snd_tI {K : PySem.W.Frag} {mg : Str → Option Value} {W : WX} {f : FI} : SndI K mg W (tI K mg W f) f := fun G O P ts env σ F H Q S hp => ⟨G, O, P, ts, env, F, S, hp⟩
theorem DI.can {X : Cx} {W : WX} {tg iter : Expr} {f : FI} (h : DI X W tg iter f) : PI X tg iter (tI X.K X.mg W f) := by
  obtain ⟨t, p, s⟩ := h.ex
  exact ⟨fun pins sh σ H Q I ⟨G, O, P, ts, env, F, S, hp⟩ => p.run pins sh σ H Q I (s G O P ts env σ F H Q S hp)⟩
section
variable {X : Cx} {W : WX} {tg iter tg1 iter1 elt : Expr} {ifs ifs1 : List Expr} {pos : Pos} {x : Str} {fi fi1 : FI} {g g1 : TG} {gt gt1 : GT} {ft ft1 : FT} {fe : FE} {scope : Scope} {own : List (Str × Nat)} {tgs tgs1 : List Nat}
theorem snd_lc2 {K : PySem.W.Frag} {mg : Str → Option Value} {wi wi1 : TI} {vs vs1 : List Nat} (si : SndI K mg W wi fi) (sg : SndG K g gt tgs) (hs : ∀ i ∈ tgs, i ∈ vs) (si1 : SndI K mg WF wi1 fi1) (sg1 : SndG K g1 gt1 tgs1) (hs1 : ∀ i ∈ tgs1, i ∈ vs1) :
    SndE K mg W (tLc2 wi g (tT K mg WF ft) wi1 g1 (tT K mg WF ft1) (tE K mg WF fe) vs vs1) (lc2F fi gt ft fi1 gt1 ft1 fe vs vs1) := by
  intro G O P ts env σ F H Q S hp
  refine si G O P ts env σ F H _ S ?_
  unfold lc2F at hp
  cases q : fi env with
  | none => rw [q] at hp; exact hp
  | some o =>
    rw [q] at hp
    cases o with
    | err c env' => exact hp
    | ok pr =>
      obtain ⟨ds, env0⟩ := pr
      intro J F0 H0 S0 w D nD
      have S0' : SR K F0 O P [] env0 σ F0 H0 := (S0.sub (fun p hp => absurd hp (by simp))).base
      have S1 : SR K F0 (upd O D (.lst [])) P [] (wipeD env0 vs) σ F0 (upd H0 D (.lst [])) := by
        have z := (S0'.wipe1 vs).newH (u := .lst []) nD
        exact z.hide (S0.ofree nD).1 (S0.ofree nD).2 upd_same (fun _ z => by cases z) fun i s' e wn => (S0'.wipe1 vs).fresh nD e wn
      refine walk_in w (Qd := fun H => Q (.ref D) H) _ (fun i H => ∃ env F acc xs, SR K F0 (upd O D (.lst xs)) P [] (wipeD env vs) σ F H ∧ RpL K F xs acc ∧ acc.length ≤ bigL ∧
          PostE K mg W G O P ts σ Q (M.bind (lc2L gt ft fi1 gt1 ft1 fe vs vs1 (ds.drop i) acc (wipeD env vs)) fun q => M.ok (.own (.lst q.1), q.2)))
        ⟨env0, F0, [], [], S1, .nil, Nat.zero_le _, hp⟩ (fun i H _ ⟨env, F, acc, xs, S, _⟩ => S.gf.trans S.fh) (fun i x H1 H2 hi ⟨env1, F1, acc, xs, S2, ra, la, hp1⟩ y => ?_) fun H1 ⟨env1, F1, acc, xs, S2, ra, la, hp1⟩ => ?_
      · have hd : ds[i]? = some ds[i] := List.getElem?_eq_getElem hi
        rw [drop_at hd] at hp1
        obtain ⟨F2, m2, S3, r2⟩ := yield_sr S2 S2.gf y hd
        have S4 : SR K F0 (upd O D (.lst xs)) P [] (wipeD env1 vs) (L2.wipe σ vs) F2 H2 := by
          refine S3.reslot ?_ fun i x e => ⟨e, wipe_out (wipeD_some e).2⟩
          rw [S3.len, wipe_length]
        unfold lc2L at hp1
        cases q1 : gt ds[i] (wipeD env1 vs) with
        | none => rw [q1] at hp1; exact hp1.elim
        | some env2 =>
          rw [q1] at hp1
          dsimp only at hp1
          refine sg F0 (upd O D (.lst xs)) P (wipeD env1 vs) (L2.wipe σ vs) F2 H2 x _ env2 _ S4 r2 q1 fun σ3 F2' H2' m2' S5 o3 => ?_
          have ew : L2.wipe σ3 vs = L2.wipe σ vs := wipe_only o3 hs
          refine ⟨ew, F2', upd O D (.lst xs), P, [], env2, F2', S5.base, ?_⟩
          cases q2 : ft env2 with
          | none => rw [q2] at hp1; exact hp1.elim
          | some o =>
            rw [q2] at hp1
            cases o with
            | err c env3 => exact hp1.elim
            | ok p3 =>
              obtain ⟨b, env3⟩ := p3
              intro F3 H3 S6
              dsimp only at hp1
              cases b with
              | false =>
                rw [if_neg (by decide)]
                exact ⟨env3, F3, acc, xs, (S6.rebase S5.gf).unwipe ew, RpL.mono ((m2.trans m2').trans S6.gf) _ _ ra, la, hp1⟩
              | true =>
                rw [if_pos rfl]
                have ra3 : RpL K F3 xs acc := RpL.mono ((m2.trans m2').trans S6.gf) _ _ ra
                refine si1 F3 (upd O D (.lst xs)) P [] env3 σ3 F3 H3 _ S6.base ?_
                cases q3 : fi1 env3 with
                | none => rw [q3] at hp1; exact hp1.elim
                | some o2 =>
                  rw [q3] at hp1
                  cases o2 with
                  | err c env4 => exact hp1.elim
                  | ok p4 =>
                    obtain ⟨ds1, env4⟩ := p4
                    intro J1 F4 H4 S7 w1
                    dsimp only at hp1
                    have ra4 : RpL K F4 xs acc := RpL.mono S7.gf _ _ ra3
                    refine walk_in w1 _ (fun j H => ∃ env F acc xs, SR K F4 (upd O D (.lst xs)) P [] (wipeD env vs1) σ3 F H ∧ RpL K F xs acc ∧ acc.length ≤ bigL ∧
                        PostE K mg W G O P ts σ Q (M.bind (match lcL gt1 ft1 fe vs1 (ds1.drop j) acc (wipeD env vs1) with
                          | some (.ok z) => lc2L gt ft fi1 gt1 ft1 fe vs vs1 (ds.drop (i + 1)) z.1 (wipeD z.2 vs)
                          | _ => none) fun q => M.ok (.own (.lst q.1), q.2)))
                      ⟨env4, F4, acc, xs, S7.base.wipe1 vs1, ra4, la, hp1⟩ (fun j H _ ⟨env, F, acc, xs, S, _⟩ => S.gf.trans S.fh) (fun j x H5 H6 hj ⟨env5, F5, acc, xs, T2, ta, tl, tp⟩ y => ?_) fun H5 ⟨env5, F5, acc, xs, T2, ta, tl, tp⟩ => ?_
                    · have hd1 : ds1[j]? = some ds1[j] := List.getElem?_eq_getElem hj
                      rw [drop_at hd1] at tp
                      obtain ⟨F6, m6, T3, r6⟩ := yield_sr T2 T2.gf y hd1
                      have T4 : SR K F4 (upd O D (.lst xs)) P [] (wipeD env5 vs1) (L2.wipe σ3 vs1) F6 H6 := by
                        refine T3.reslot ?_ fun i x e => ⟨e, wipe_out (wipeD_some e).2⟩
                        rw [T3.len, wipe_length]
                      unfold lcL at tp
                      cases k1 : gt1 ds1[j] (wipeD env5 vs1) with
                      | none => rw [k1] at tp; exact tp.elim
                      | some env6 =>
                        rw [k1] at tp
                        dsimp only at tp
                        refine sg1 F4 (upd O D (.lst xs)) P (wipeD env5 vs1) (L2.wipe σ3 vs1) F6 H6 x _ env6 _ T4 r6 k1 fun σ4 F7 H7 m7 T5 o4 => ?_
                        have ew1 : L2.wipe σ4 vs1 = L2.wipe σ3 vs1 := wipe_only o4 hs1
                        refine ⟨ew1, F7, upd O D (.lst xs), P, [], env6, F7, T5.base, ?_⟩
                        cases k2 : ft1 env6 with
                        | none => rw [k2] at tp; exact tp.elim
                        | some o5 =>
                          rw [k2] at tp
                          cases o5 with
                          | err c env7 => exact tp.elim
                          | ok p5 =>
                            obtain ⟨b, env7⟩ := p5
                            intro F8 H8 T6
                            dsimp only at tp
                            cases b with
                            | false =>
                              rw [if_neg (by decide)]
                              exact ⟨env7, F8, acc, xs, (T6.rebase T5.gf).unwipe ew1, RpL.mono ((m6.trans m7).trans T6.gf) _ _ ta, tl, tp⟩
                            | true =>
                              rw [if_pos rfl]
                              refine ⟨F8, upd O D (.lst xs), P, [], env7, F8, T6.base, ?_⟩
                              cases k3 : fe env7 with
                              | none => rw [k3] at tp; exact tp.elim
                              | some o6 =>
                                rw [k3] at tp
                                cases o6 with
                                | err c env8 => exact tp.elim
                                | ok p6 =>
                                  intro v F9 H9 T7 r9
                                  dsimp only at tp
                                  obtain ⟨F10, m10, T8⟩ := T7.keep r9
                                  cases k4 : frz1 (fz p6.1) p6.2 with
                                  | none => rw [k4] at tp; exact tp.elim
                                  | some z =>
                                    rw [k4] at tp
                                    obtain ⟨d, env9⟩ := z
                                    dsimp only at tp
                                    obtain ⟨F11, m11, T9, r11⟩ := T8.frz1 (T8.tmp (fz p6.1, v) (by simp)) k4
                                    by_cases hlt : acc.length < bigL
                                    · rw [if_pos hlt] at tp
                                      have raf : RpL K F11 xs acc := RpL.mono ((((m6.trans m7).trans T6.gf).trans T7.gf).trans (m10.trans m11)) _ _ ta
                                      refine ⟨xs, T9.oh.val D _ upd_same, by rw [ta.length]; exact bigL_lt (Nat.le_of_lt hlt), env9, F11, acc ++ [d], xs ++ [v], ?_, raf.app (.cons r11 .nil), by rw [List.length_append]; exact hlt, tp⟩
                                      exact ((T9.pop.rehide (u' := .lst (xs ++ [v])) trivial trivial).rebase ((T5.gf.trans T6.gf))).unwipe ew1
                                    · rw [if_neg hlt] at tp; exact tp.elim
                    · rw [List.drop_length] at tp
                      unfold lcL at tp
                      refine ⟨wipeD env5 vs1, F5, acc, xs, ?_, ta, tl, tp⟩
                      exact (T2.rebase ((S5.gf.trans S6.gf).trans S7.gf)).unwipe ew
      · rw [List.drop_length] at hp1
        obtain ⟨S3, nF, eD, ns⟩ := S2.unhide (S0.ofree nD).2 (fun _ z => by cases z)
        refine hp1 _ F1 H1 ((S3.rebase S0.gf).retmp S0 S2.gf) ⟨D, rfl, nF, (S0.ofree nD).2, ⟨xs, eD, ra⟩, ns⟩
theorem de_lc2 {vs1 : List Nat} (hc : X.calm = true) (hN : X.N.Nodup) (hi : DI X W tg iter fi) (ok : BlkOk X.N X.env.scope scope own) (hs : ∀ i ∈ tgs, i ∈ own.map (·.2)) (hs1 : ∀ i ∈ tgs1, i ∈ vs1) (hv : ∀ i ∈ vs1, i ∈ own.map (·.2))
    (hg : ∀ (s : Shared) (H : Hp) (C : Addr) (cl : List (Str × Addr)) (fp : List Addr), DG (X.blk s H scope (compEnvC scope cl C X.env) fp) tg g gt tgs)
    (ht : ∀ (s : Shared) (H : Hp) (C : Addr) (cl : List (Str × Addr)) (fp : List Addr), DTs (X.blk s H scope (compEnvC scope cl C X.env) fp) WF ifs ft)
    (hi1 : ∀ (s : Shared) (H : Hp) (C : Addr) (cl : List (Str × Addr)) (fp : List Addr), DI (X.blk s H scope (compEnvC scope cl C X.env) fp) WF tg1 iter1 fi1)
    (hg1 : ∀ (s : Shared) (H : Hp) (C : Addr) (cl : List (Str × Addr)) (fp : List Addr), DG (X.blk s H scope (compEnvC scope cl C X.env) fp) tg1 g1 gt1 tgs1)
    (ht1 : ∀ (s : Shared) (H : Hp) (C : Addr) (cl : List (Str × Addr)) (fp : List Addr), DTs (X.blk s H scope (compEnvC scope cl C X.env) fp) WF ifs1 ft1)
    (he : ∀ (s : Shared) (H : Hp) (C : Addr) (cl : List (Str × Addr)) (fp : List Addr), DE (X.blk s H scope (compEnvC scope cl C X.env) fp) WF elt fe) (hf : ∀ x, foldedSetIterable iter X.env x = pure x := by intro _; rfl) (hf1 : ∀ env x, foldedSetIterable iter1 env x = pure x := by intro _ _; rfl) :
    DE X W (.ListComp elt [⟨tg, iter, ifs, 0⟩, ⟨tg1, iter1, ifs1, 0⟩] scope pos) (lc2F fi gt ft fi1 gt1 ft1 fe (own.map (·.2)) vs1) := by
  obtain ⟨wi, pi, si⟩ := hi.ex
  exact ⟨_, pe_lc2 hc hN pi ok hv (fun s H C cl fp => (hg s H C cl fp).pg) (fun s H C cl fp => (ht s H C cl fp).can) (fun s H C cl fp => (hi1 s H C cl fp).can) (fun s H C cl fp => (hg1 s H C cl fp).pg) (fun s H C cl fp => (ht1 s H C cl fp).can) (fun s H C cl fp => (he s H C cl fp).can) hf hf1,
    snd_lc2 si (hg X.s_0 (fun _ => none) 0 [] []).sd hs snd_tI (hg1 X.s_0 (fun _ => none) 0 [] []).sd hs1⟩
end
end DL
set_option Elab.async false
set_option linter.all false
set_option maxRecDepth 100000
set_option maxHeartbeats 4000000
namespace DL
open PySem PySem.Spec PyProof.Rows L2

/-! ### sorted(a list or tuple of ints) -/
section
variable {prog : Program} {w : World} {A : Around} {E : Value → Shared → Prop} {sh : Shared}
theorem collect_tup {t : Addr} {us : List Value} {Q : List Value → Shared → Prop} (ht : sh.heap.IsTuple t us.toArray) (hlen : us.length ≤ sizeLine)
    (q : Q us { sh with heap := (sh.heap.push (seqObj "list" #[] 0)).update sh.heap.objs.size (Obj.mapSeq (· ++ us.toArray)) }) :
    wpAny (model prog w) A (collect (.ref t)) Q E sh := by
  obtain ⟨ob, hob, hcl, m, hdt⟩ := id ht
  unfold collect
  refine wpAny_bind (wpAny_runValue (codeAny_builtin entry_proto_collect' ?_))
  show wpAny _ _ (do again (.builtin "list.__iadd__" ⟨[← newList [], .ref t], []⟩)) _ _ sh
  refine wpAny_bind (wpAny_newList (wpAny_pure ⟨Code.quiet_builtin _ (by decide +kernel), codeAny_builtin entry_list_iadd' ?_⟩))
  show wpAny _ _ (Builtin.List.listExtendWith (.ref sh.heap.objs.size) (.ref t) (.ref sh.heap.objs.size)) _ _ { sh with heap := sh.heap.push (seqObj "list" #[] 0) }
  unfold Builtin.List.listExtendWith
  have hob' : (sh.heap.push (seqObj "list" #[] 0)).get? t = some ob := Heap.get?_push_of_some _ hob
  have hnew : (sh.heap.push (seqObj "list" #[] 0)).get? sh.heap.objs.size = some (seqObj "list" #[] 0) := Heap.get?_push_size _ rfl
  refine wpAny_bind (wpAny_typeOf (T := "tuple") ⟨ob, hob', hcl⟩ ?_)
  have htt : (Value.type "tuple" == Value.type "tuple") = true := by rfl
  rw [if_pos (by rw [htt]; simp)]
  refine wpAny_bind (listItems_at hob' hdt ?_)
  refine wpAny_bind (listItems_at (xs := #[]) (n := 0) hnew rfl ?_)
  rw [if_neg (by simp)]
  refine wpAny_bind (listUpdate_at (xs := #[]) (n := 0) hnew rfl ?_ (Nat.zero_le _) (by show (#[] ++ us.toArray).size ≤ sizeLine + 1; simp only [Array.size_append, List.size_toArray, List.length_nil]; omega))
  refine wpAny_pure ?_
  show wpAny (model prog w) A (do
      let o2 ← load sh.heap.objs.size
      match o2.data with
      | .seq ys _ => pure ys.toList
      | _ => unsupported "internal:collect") Q E { sh with heap := (sh.heap.push (seqObj "list" #[] 0)).update sh.heap.objs.size (Obj.mapSeq (· ++ us.toArray)) }
  refine wpAny_bind (wpAny_load (get?_update_seq hnew _) ?_)
  show wpAny _ _ (pure ((#[] : Array Value) ++ us.toArray).toList) Q E _
  rw [show ((#[] : Array Value) ++ us.toArray).toList = us by simp]
  exact wpAny_pure q
theorem sorted_tup {t : Addr} {us : List Value} {ltv : Value → Value → Bool} {Q : Value → Shared → Prop} (O : SrtO.Swo ltv) (ht : sh.heap.IsTuple t us.toArray) (hlen : us.length ≤ sizeLine)
    (hS : 2 ≤ us.length → ∀ (h1 : Heap) (b : Addr), SrtO.SortableO prog w A.in1.in1 { sh with heap := h1 } b us ltv)
    (q : ∀ out : List Value, SrtO.Srtd ltv out → SrtO.Stb ltv out us → Q (.ref (sh.heap.objs.size + 1)) { sh with heap := sortedAll sh.heap us out.toArray }) :
    wpAny (model prog w) A (call (.builtin "sorted") [.ref t]) Q E sh := by
  refine Calls.call_function_entry kind_sorted plain_sorted entry_sorted (args_sorted1 _) ?_
  unfold Builtin.«sorted»
  refine wpAny_bind (m := checkCount "sorted" 1 1 _) (wpAny_pure ?_)
  refine wpAny_bind (collect_tup ht hlen ?_)
  refine wpAny_bind (wpAny_newList ?_ hlen)
  have esz : ((sh.heap.push (seqObj "list" #[] 0)).update sh.heap.objs.size (Obj.mapSeq (· ++ us.toArray))).objs.size = sh.heap.objs.size + 1 := by
    rw [Heap.size_update, size_push']
  have enew : (((sh.heap.push (seqObj "list" #[] 0)).update sh.heap.objs.size (Obj.mapSeq (· ++ us.toArray))).push (seqObj "list" us.toArray 0)).get? (sh.heap.objs.size + 1) = some (seqObj "list" us.toArray 0) := by
    rw [← esz]; exact Heap.get?_push_size _ rfl
  show wpAny _ _ _ _ _ { sh with heap := ((sh.heap.push (seqObj "list" #[] 0)).update sh.heap.objs.size (Obj.mapSeq (· ++ us.toArray))).push (seqObj "list" us.toArray 0) }
  rw [esz]
  refine wpAny_bind (wpAny_holding (wpAny_call_entry slot_list_sort ⟨_, enew, rfl⟩ entry_list_sort (SrtO.list_sort_ord O enew hlen (fun h2 => hS h2 _ _) fun out hs hb => ⟨_, rfl, ?_⟩) (args_list_sort _)))
  exact wpAny_pure ⟨_, rfl, q out hs hb⟩
end
/-- in order, by putting each in its place -/
def insI (i : Int) : List Int → List Int
  | [] => [i]
  | j :: r => if i ≤ j then i :: j :: r else j :: insI i r
def sortI : List Int → List Int
  | [] => []
  | i :: r => insI i (sortI r)
theorem insI_perm (i : Int) : ∀ l : List Int, (insI i l).Perm (i :: l)
  | [] => List.Perm.refl _
  | j :: r => by
    unfold insI
    split
    · exact List.Perm.refl _
    · exact ((insI_perm i r).cons j).trans (List.Perm.swap i j r)
theorem sortI_perm : ∀ l : List Int, (sortI l).Perm l
  | [] => List.Perm.refl _
  | i :: r => (insI_perm i _).trans ((sortI_perm r).cons i)
theorem insI_mem {i x : Int} {l : List Int} : x ∈ insI i l ↔ x = i ∨ x ∈ l := by
  rw [(insI_perm i l).mem_iff, List.mem_cons]
theorem insI_sorted (i : Int) : ∀ l : List Int, l.Pairwise (· ≤ ·) → (insI i l).Pairwise (· ≤ ·)
  | [], _ => by simp [insI]
  | j :: r, h => by
    unfold insI
    obtain ⟨h1, h2⟩ := List.pairwise_cons.mp h
    split
    · rename_i q
      refine List.pairwise_cons.mpr ⟨fun x hx => ?_, h⟩
      rcases List.mem_cons.mp hx with rfl | hx
      · exact q
      · exact Int.le_trans q (h1 x hx)
    · rename_i q
      refine List.pairwise_cons.mpr ⟨fun x hx => ?_, insI_sorted i r h2⟩
      rcases insI_mem.mp hx with rfl | hx
      · omega
      · exact h1 x hx
theorem sortI_sorted : ∀ l : List Int, (sortI l).Pairwise (· ≤ ·)
  | [] => List.Pairwise.nil
  | i :: r => insI_sorted i _ (sortI_sorted r)
theorem sorted_one : ∀ {l m : List Int}, l.Perm m → l.Pairwise (· ≤ ·) → m.Pairwise (· ≤ ·) → l = m
  | [], m, p, _, _ => (List.Perm.nil_eq p)
  | a :: l, [], p, _, _ => absurd p.length_eq (by simp)
  | a :: l, b :: m, p, h1, h2 => by
    obtain ⟨a1, a2⟩ := List.pairwise_cons.mp h1
    obtain ⟨b1, b2⟩ := List.pairwise_cons.mp h2
    have e : a = b := by
      have x : a ∈ b :: m := p.mem_iff.mp List.mem_cons_self
      have y : b ∈ a :: l := p.mem_iff.mpr List.mem_cons_self
      rcases List.mem_cons.mp x with x | x
      · exact x
      · rcases List.mem_cons.mp y with y | y
        · exact y.symm
        · exact Int.le_antisymm (a1 b y) (b1 a x)
    subst e
    rw [sorted_one ((List.perm_cons a).mp p) a2 b2]
theorem sortI_of {l m : List Int} (p : m.Perm l) (h : m.Pairwise (· ≤ ·)) : m = sortI l := sorted_one (p.trans (sortI_perm l).symm) h (sortI_sorted l)
def asInt : PyData → Option Int
  | .int i => some i
  | _ => none
def intsOf : List PyData → Option (List Int)
  | [] => some []
  | d :: r => match asInt d with
    | some i => match intsOf r with
      | some l => some (i :: l)
      | none => none
    | none => none
def sortedD (ds : List PyData) : Option Sl :=
  match ds with
  | [.list xs] => match intsOf xs with
    | some ns => some (.own (.lst ((sortI ns).map .int)))
    | none => none
  | [.tuple xs] => match intsOf xs with
    | some ns => some (.own (.lst ((sortI ns).map .int)))
    | none => none
  | _ => none
theorem intsOf_ok {K : PySem.W.Frag} {F : Hp} : ∀ {ds : List PyData} {xs : List V} {ns : List Int}, RpL K F xs ds → intsOf ds = some ns → xs = ns.map V.int
  | [], xs, ns, h, e => by
    unfold intsOf at e
    cases e; cases h; rfl
  | d :: r, xs, ns, h, e => by
    cases h with
    | cons h1 h2 =>
      unfold intsOf at e
      cases d <;> try (unfold asInt at e; cases e; done)
      rename_i i
      simp only [asInt] at e
      cases q : intsOf r with
      | none => rw [q] at e; cases e
      | some l =>
        rw [q] at e
        cases e
        cases h1
        rw [intsOf_ok h2 q]
        rfl
theorem rp_ints {K : PySem.W.Frag} {F : Hp} : ∀ ns : List Int, RpL K F (ns.map V.int) (ns.map PyData.int)
  | [] => .nil
  | n :: ns => .cons (.int n) (rp_ints ns)
def rSortedA (K : PySem.W.Frag) : List V → Hp → VK → Prop := fun vs H Q => ∃ (a : Addr) (ns : List Int), vs = [V.ref a] ∧ (SqL K H a (ns.map V.int) ∨ SqT K H a (ns.map V.int)) ∧
  ∀ p, H p = none → Q (.ref p) (upd H p (.lst ((sortI ns).map V.int)))
section
variable {X : Cx}
theorem cr_sortedA : CallR X (.builtin "sorted") (rSortedA X.K) := by
  intro pins s σ H vs us Q I r h
  obtain ⟨a, ns, rfl, hs, q⟩ := h
  rcases hs with hs | hs
  · refine cr_sortedI pins s σ H _ us Q I r ⟨a, ns, rfl, hs, fun ns' p hp hw hn => ?_⟩
    rw [sortI_of hp hw]
    exact q p hn
  · obtain ⟨its, rv, ht, hz⟩ := I.tuple hs
    obtain ⟨u, rfl, ru⟩ := r.one
    cases ru
    have hi := rv.ints
    refine sorted_tup SrtO.swo_int ht (by rw [← rv.length]; exact hz) (fun h2 _ _ => SrtO.ints_sortable hi h2) fun out h1 h2 => ?_
    obtain ⟨k1, k2, k3⟩ := SrtO.ints_out hi h1 h2
    obtain ⟨ep, he⟩ := sortedAll_at s.heap its out.toArray
    have hl : ((out.map SrtO.iv).map V.int).length ≤ sizeLine := by
      rw [List.length_map, k2.length_eq]
      simpa using hz
    have e := sortI_of k2 k3
    refine ⟨.ref _, upd H (s.heap.objs.size + 1) (.lst ((out.map SrtO.iv).map V.int)), I.laid (t' := s.toks) (fun _ _ => sortedAll_old) (Nat.le_succ _) ⟨hl, out, ep, vals_of_ints k1, he⟩, rfl, ?_⟩
    rw [e]
    exact q _ (I.hok.fresh (Nat.le_succ _))
theorem cd_sorted : CallD X (rSortedA X.K) sortedD := by
  intro G O P ts env σ F H vs ds s Q S h e q
  unfold sortedD at e
  have key : ∀ (v : V) (xs : List PyData), (Sh X.K F H v (.list xs) ∨ Sh X.K F H v (.tuple xs)) → (match intsOf xs with
      | some ns => some (Sl.own (.lst ((sortI ns).map .int)))
      | none => none) = some s → rSortedA X.K [v] H Q := fun v xs hv e => by
    cases q1 : intsOf xs with
    | none => rw [q1] at e; cases e
    | some ns =>
      rw [q1] at e
      cases e
      obtain ⟨a, ys, rfl, h1, h2⟩ := Sh.seq S.fh hv
      rw [intsOf_ok h2 q1] at h1
      refine ⟨a, ns, rfl, h1, fun p np => ?_⟩
      obtain ⟨S2, r2⟩ := S.ownL np (rp_ints (K := X.K) (F := F) (sortI ns))
      exact q _ F _ S2 r2
  split at e
  · rename_i xs
    cases h with
    | cons h1 h2 => cases h2; exact key _ xs (.inl h1) e
  · rename_i xs
    cases h with
    | cons h1 h2 => cases h2; exact key _ xs (.inr h1) e
  · cases e
end
theorem bt_sorted : bootBuiltins "sorted" = some (.builtin "sorted") := by decide +kernel
theorem bt_set : bootBuiltins "set" = some (.type "set") := by decide +kernel
theorem bt_dict : bootBuiltins "dict" = some (.type "dict") := by decide +kernel
end DL
set_option Elab.async false
set_option linter.all false
set_option maxRecDepth 100000
set_option maxHeartbeats 4000000
namespace DL
open PySem PySem.Spec PyProof.Rows L2

/-! ### {x for x in xs if x is not None}, ints and None -/
/-- what a value of the list is, at the bottom -/
def intOrN (v : Value) : Prop := v = .none ∨ ∃ k t, v = .int k t
def keyV (v : Value) : Option Int := match v with
  | .int k _ => some k
  | _ => none
section
variable {prog : Program} {w : World} {A : Around} {env : Env} {sh : Shared}
theorem sc_ne {b N C : Nat} (hb : b < N + 1) (hC : N + 1 ≤ C) : ¬ b = C := by omega
theorem sc_ne2 {N D : Nat} (hD : N + 1 ≤ D) : ¬ D = N := by omega
theorem sc_far {b N C D : Nat} (hb : b < N ∨ b = C) (hC : N + 1 ≤ C) (hD : N + 1 ≤ D) (h : D ≠ C) : ¬ (b = N) := by omega
theorem sc_ints {iter : Expr} {scope : Scope} {cl : List (Str × Addr)} {E : Value → Shared → Prop} {x : Str} {p1 p2 p3 p4 p5 pos : Pos} {j : Nat} {Q : Value → Shared → Prop} (hh : A.handled = none)
    (hclos : closureFor scope env = pure cl) (hcell : ∀ y ∈ scope.names, y.2 ≠ .cell) (hkind : scope.kind = .function) (hnames : ∀ y ∈ scope.names, y.2 = .local → scope.names.lookup y.1 = some .local)
    (hx : scope.names.lookup x = some .local) (hdbg : (x == ("__debug__" : Str)) = false) (hs : ∀ y, foldedSetIterable iter env y = pure y)
    (hit : wpAny (model prog w) A (eval iter env) (fun v s1 => ∃ l us, v = .ref l ∧ s1.heap.IsList l (List.toArray us) ∧ us.length + 1 < scanBound ∧ (∀ v ∈ us, intOrN v) ∧
      ∀ D h' tk (S : Int → Bool) (n : Nat), s1.heap.objs.size ≤ D → SetR w h' D S n → n ≤ us.length → (∀ k, S k = true ↔ some k ∈ us.map keyV) → (∀ b o, s1.heap.get? b = some o → h'.get? b = some o) → Q (.ref D) { s1 with heap := h', toks := tk }) E sh) :
    wpAny (model prog w) A (eval (.SetComp (.Name x p1) [⟨.Name x p2, iter, [.Compare (.Name x p3) [.IsNot] [.Constant .none j p4] p5], 0⟩] scope pos) env) Q E sh := by
  refine SetComp_goes hclos hcell hkind hnames (wpAny_mono hit (fun v s1 ⟨l, us, hv, hl, hlen, hus, fin⟩ => ?_) fun _ _ e => e) hs
  subst hv
  have hlt : (l : Nat) < s1.heap.objs.size := by obtain ⟨o, ho, _⟩ := hl; exact Heap.lt_size ho
  refine wpAny_pyIter_list hl ?_
  refine ⟨_, _, _, _, _, _, rfl, Goes.list hh s1.heap.objs.size l (Nat.ne_of_lt hlt) us.toArray, ⟨⟨_, Heap.get?_push_size _ rfl, rfl, rfl⟩, hl.push _⟩, fun D C s3 hB hD => ?_⟩
  obtain ⟨⟨h3, tk3, rfl⟩, old, nD, nC, hDC, hnm⟩ := hB
  have nC' : (s1.heap.objs.size + 1 : Nat) ≤ C := by
    have q : (s1.heap.push { cls := .type "list_iterator", data := .fields #[.ref l, .int 0 0] }).objs.size ≤ C := nC
    rw [Heap.size_push] at q
    exact q
  have nD' : (s1.heap.objs.size + 1 : Nat) ≤ D := by
    have q : (s1.heap.push { cls := .type "list_iterator", data := .fields #[.ref l, .int 0 0] }).objs.size ≤ D := nD
    rw [Heap.size_push] at q
    exact q
  have hDC' : (D : Nat) ≠ C := hDC
  have kx : (compEnvC scope cl C env).kindOf x = some .local := lookup_relabel_local hx
  have hp : ((compEnvC scope cl C env).scope.kind == .class || ((compEnvC scope cl C env).scope.kind == .module && (compEnvC scope cl C env).locals != (compEnvC scope cl C env).globals)) = false := by
    show (scope.kind == .class || (scope.kind == .module && _)) = false
    rw [hkind]; rfl
  refine ⟨fun i s => ∃ h' tk m S n, s = { s1 with heap := h', toks := tk } ∧ h'.Ns C m ∧ SetR w h' D S n ∧ n ≤ i ∧ (∀ k, S k = true ↔ some k ∈ (us.take i).map keyV) ∧ ∀ b o, s1.heap.get? b = some o → h'.get? b = some o,
    ⟨h3, tk3, _, fun _ => false, 0, rfl, hnm, setR_new_at (ns := []) hD, Nat.le_refl _, fun k => by simp, fun b o e => old b o (Heap.get?_push_of_some _ e)⟩, ?_, ?_, ?_⟩
  · rintro i s h' tk ⟨h4, tk4, m, S, n, rfl, n4, r4, l4, e4, k4⟩ hk' _
    have off : ∀ b : Addr, (b < s1.heap.objs.size ∨ b = C) → b ∉ [s1.heap.objs.size] := fun b hb hm => sc_far hb nC' nD' hDC' (by simpa using hm)
    have offD : D ∉ [s1.heap.objs.size] := fun hm => sc_ne2 nD' (by simpa using hm)
    exact ⟨h', tk, m, S, n, rfl, n4.at' fun o e => hk' _ o (off _ (.inr rfl)) e, r4.at fun o e => hk' _ o offD e, l4, e4, fun b o e => hk' b o (off _ (.inl (Heap.lt_size e))) (k4 b o e)⟩
  · rintro i v s hi hv st ⟨h4, tk4, m, S, n, rfl, n4, r4, l4, e4, k4⟩
    have hvi : us[i]? = some v := by simpa using hv
    have tk_succ : us.take (i + 1) = us.take i ++ [v] := by rw [List.take_add_one, hvi]; rfl
    have hil : i < us.length := by simpa using hi
    refine wpAny_assign_Name (wpAny_storeName_local kx n4 (fun h5 n5 s5 => ?_) hp)
    have offC : ∀ b : Addr, b < s1.heap.objs.size + 1 → b ≠ C := fun b hb => sc_ne hb nC'
    have r5 : SetR w h5 D S n := r4.at fun o e => s5.extBut _ _ hDC e
    have st5 : h5.IsListIter s1.heap.objs.size l (i + 1) ∧ h5.IsList l us.toArray := ⟨st.1.at fun o e => s5.extBut _ o (offC _ (Nat.lt_succ_self _)) e, st.2.at fun o e => s5.extBut _ o (offC _ (Nat.lt_succ_of_lt hlt)) e⟩
    have k5 : ∀ b o, s1.heap.get? b = some o → h5.get? b = some o := fun b o e => s5.extBut b o (offC b (Nat.lt_succ_of_lt (Heap.lt_size e))) (k4 b o e)
    refine wpAny_tests_one (wpAny_isTrue_Compare1 ?_ (by rfl))
    rw [eval_Name _ _ _ hdbg]
    refine wpAny_bind (wpAny_standAt (wpAny_loadName_local hkind kx n5 (v := v) (if_pos rfl) ?_))
    refine Constant_none (isnot_none_gen (wpAny_truthy_bool ?_))
    have hvn := hus v (List.mem_of_getElem? hvi)
    rcases hvn with rfl | ⟨k, t, rfl⟩
    · rw [if_neg (by decide)]
      refine ⟨⟨h5, _, _, S, n, rfl, n5, r5, by omega, fun k => ?_, k5⟩, st5⟩
      rw [tk_succ, e4 k]
      simp [keyV]
    · rw [if_pos (by rfl)]
      rw [eval_Name _ _ _ hdbg]
      refine wpAny_bind (wpAny_standAt (wpAny_loadName_local hkind kx n5 (v := .int k t) (if_pos rfl) ?_))
      refine setR_add r5 (by omega) fun h6 sb new => ?_
      refine ⟨⟨h6, _, _, _, _, rfl, n5.sameBut sb (Ne.symm hDC), new, ?_, fun q => ?_, fun b o e => sb.extBut b o (fun z => ?_) (k5 b o e)⟩, st5.1.at fun o e => sb.extBut _ o ?_ e, st5.2.at fun o e => sb.extBut _ o ?_ e⟩
      · split <;> omega
      · rw [tk_succ]
        simp only [Bool.or_eq_true, decide_eq_true_eq, e4 q, List.map_append, List.mem_append, List.map_cons, List.map_nil, List.mem_singleton, keyV, Option.some.injEq]
      · exact sc_ne (Nat.lt_succ_of_lt (Heap.lt_size e)) nD' z
      · exact fun z => sc_ne2 nD' z.symm
      · exact fun z => sc_ne (Nat.lt_succ_of_lt hlt) nD' z
  · rintro s ⟨h4, tk4, m, S, n, rfl, n4, r4, l4, e4, k4⟩
    refine ⟨m, n4, fun h' hs' => fin D h' tk4 S n (Nat.le_of_succ_le nD') (r4.at fun o e => hs'.extBut _ o hDC e) (by simpa using l4) (fun k => ?_) fun b o e => hs'.extBut b o (fun z => ?_) (k4 b o e)⟩
    · have := e4 k
      rwa [List.take_of_length_le (by simp)] at this
    · exact sc_ne (Nat.lt_succ_of_lt (Heap.lt_size e)) nC' z
end
/-- rising, each once -/
def insU (i : Int) : List Int → List Int
  | [] => [i]
  | j :: r => if i < j then i :: j :: r else if i = j then j :: r else j :: insU i r
def sortU : List Int → List Int
  | [] => []
  | i :: r => insU i (sortU r)
theorem insU_mem {i x : Int} : ∀ {l : List Int}, x ∈ insU i l ↔ x = i ∨ x ∈ l
  | [] => by simp [insU]
  | j :: r => by
    unfold insU
    split
    · simp
    · split
      · rename_i h; subst h; simp
      · rw [List.mem_cons, insU_mem, List.mem_cons]
        constructor
        · rintro (h | h | h) <;> simp [h]
        · rintro (h | h | h) <;> simp [h]
theorem insU_lt {i : Int} : ∀ {l : List Int}, l.Pairwise (· < ·) → (insU i l).Pairwise (· < ·)
  | [], _ => by simp [insU]
  | j :: r, h => by
    obtain ⟨h1, h2⟩ := List.pairwise_cons.mp h
    unfold insU
    split
    · rename_i q
      refine List.pairwise_cons.mpr ⟨fun x hx => ?_, h⟩
      rcases List.mem_cons.mp hx with rfl | hx
      · exact q
      · exact Int.lt_trans q (h1 x hx)
    · split
      · exact h
      · refine List.pairwise_cons.mpr ⟨fun x hx => ?_, insU_lt h2⟩
        rcases insU_mem.mp hx with rfl | hx
        · omega
        · exact h1 x hx
theorem sortU_mem {x : Int} : ∀ {l : List Int}, x ∈ sortU l ↔ x ∈ l
  | [] => Iff.rfl
  | i :: r => by unfold sortU; rw [insU_mem, sortU_mem, List.mem_cons]
theorem sortU_lt : ∀ l : List Int, (sortU l).Pairwise (· < ·)
  | [] => List.Pairwise.nil
  | i :: r => insU_lt (sortU_lt r)
theorem rising_one : ∀ {l m : List Int}, l.Pairwise (· < ·) → m.Pairwise (· < ·) → (∀ x, x ∈ l ↔ x ∈ m) → l = m
  | [], [], _, _, _ => rfl
  | [], b :: m, _, _, h => absurd ((h b).mpr List.mem_cons_self) (by simp)
  | a :: l, [], _, _, h => absurd ((h a).mp List.mem_cons_self) (by simp)
  | a :: l, b :: m, h1, h2, h => by
    obtain ⟨a1, a2⟩ := List.pairwise_cons.mp h1
    obtain ⟨b1, b2⟩ := List.pairwise_cons.mp h2
    have e : a = b := by
      rcases List.mem_cons.mp ((h a).mp List.mem_cons_self) with x | x
      · exact x
      · rcases List.mem_cons.mp ((h b).mpr List.mem_cons_self) with y | y
        · exact y.symm
        · have := a1 b y; have := b1 a x; omega
    subst e
    rw [rising_one a2 b2 fun x => ?_]
    constructor
    · intro hx
      rcases List.mem_cons.mp ((h x).mp (List.mem_cons_of_mem _ hx)) with z | z
      · have := a1 x hx; omega
      · exact z
    · intro hx
      rcases List.mem_cons.mp ((h x).mpr (List.mem_cons_of_mem _ hx)) with z | z
      · have := b1 x hx; omega
      · exact z
theorem lt_nodup {l : List Int} (h : l.Pairwise (· < ·)) : l.Nodup := h.imp fun q z => by omega
theorem same_len : ∀ {l m : List Int}, l.Nodup → m.Nodup → (∀ x, x ∈ l ↔ x ∈ m) → l.length = m.length := fun {l m} h1 h2 h =>
  (List.perm_ext_iff_of_nodup h1 h2 |>.mpr h).length_eq
/-- ints of a list, None left out -/
def intsN : List PyData → Option (List Int)
  | [] => some []
  | .none :: r => intsN r
  | .int i :: r => match intsN r with
    | some l => some (i :: l)
    | none => none
  | _ :: _ => none
theorem intsN_ok {K : PySem.W.Frag} {F : Hp} : ∀ {ds : List PyData} {xs : List V} {ns : List Int}, RpL K F xs ds → intsN ds = some ns → (∀ y ∈ xs, y = .non ∨ ∃ k, y = .int k) ∧ ∀ k, V.int k ∈ xs ↔ k ∈ ns
  | [], xs, ns, h, e => by
    unfold intsN at e
    cases e; cases h; simp
  | d :: r, xs, ns, h, e => by
    cases h with
    | cons h1 h2 =>
      cases d with
      | none =>
        cases h1
        unfold intsN at e
        obtain ⟨g1, g2⟩ := intsN_ok h2 e
        exact ⟨fun y hy => by rcases List.mem_cons.mp hy with rfl | hy; exact .inl rfl; exact g1 y hy, fun k => by rw [List.mem_cons, g2 k]; simp⟩
      | int i =>
        cases h1
        unfold intsN at e
        cases q : intsN r with
        | none => rw [q] at e; cases e
        | some l =>
          rw [q] at e
          cases e
          obtain ⟨g1, g2⟩ := intsN_ok h2 q
          exact ⟨fun y hy => by rcases List.mem_cons.mp hy with rfl | hy; exact .inr ⟨i, rfl⟩; exact g1 y hy, fun k => by rw [List.mem_cons, g2 k, List.mem_cons]; simp⟩
      | _ => unfold intsN at e; cases e
def tScN (X : Cx) (ti : TE) : TE := fun σ H Q => ti σ H fun v H1 => ∃ l xs, v = .ref l ∧ SqL X.K H1 l xs ∧ xs.length ≤ 63 ∧ (∀ y ∈ xs, y = .non ∨ ∃ k, y = .int k) ∧
  ∀ D S n, H1 D = none → n ≤ xs.length → (∀ k, S k = true ↔ V.int k ∈ xs) → Q (.ref D) (upd H1 D (SetO X.w D S n))
theorem vals_keys {xs : List V} {us : List Value} (h : Vals xs us) : (∀ y ∈ xs, y = .non ∨ ∃ k, y = .int k) → (∀ v ∈ us, intOrN v) ∧ ∀ k, some k ∈ us.map keyV ↔ V.int k ∈ xs := by
  induction h with
  | nil => intro _; simp
  | @cons x v xs us r t ih =>
    intro hy
    obtain ⟨g1, g2⟩ := ih fun y hy' => hy y (List.mem_cons_of_mem _ hy')
    rcases hy x List.mem_cons_self with rfl | ⟨k, rfl⟩
    · cases r
      exact ⟨fun v hv => by rcases List.mem_cons.mp hv with rfl | hv; exact .inl rfl; exact g1 v hv, fun k => by simp [keyV, g2 k]⟩
    · obtain ⟨t, rfl⟩ := r
      exact ⟨fun v hv => by rcases List.mem_cons.mp hv with rfl | hv; exact .inr ⟨_, _, rfl⟩; exact g1 v hv, fun k => by simp [keyV, g2 k]⟩
section
variable {X : Cx} {W : WX} {x : Str} {iter : Expr} {scope : Scope} {p1 p2 p3 p4 p5 pos sp spos : Pos} {j : Nat} {fe : FE}
theorem pe_scN {ti : TE} {cl : List (Str × Addr)} (hc : X.calm = true) (hi : PE X iter ti) (hclos : closureFor scope X.env = pure cl) (hcell : ∀ y ∈ scope.names, y.2 ≠ .cell) (hkind : scope.kind = .function) (hnames : ∀ y ∈ scope.names, y.2 = .local → scope.names.lookup y.1 = some .local)
    (hx : scope.names.lookup x = some .local) (hdbg : (x == ("__debug__" : Str)) = false) (hs : ∀ y, foldedSetIterable iter X.env y = pure y) :
    PE X (.SetComp (.Name x p1) [⟨.Name x p2, iter, [.Compare (.Name x p3) [.IsNot] [.Constant .none j p4] p5], 0⟩] scope pos) (tScN X ti) := by
  refine ⟨fun pins s σ H Q I h => ?_⟩
  refine sc_ints (I.ok.hd hc) hclos hcell hkind hnames hx hdbg hs (thn (hi.run pins s σ H _ I h) fun v s1 ⟨y, H1, I1, r1, l, xs, ey, hq, hl, hy, q⟩ => ?_)
  subst ey
  cases r1
  obtain ⟨us, rv, pl, hz⟩ := I1.list hq
  obtain ⟨g1, g2⟩ := vals_keys rv hy
  refine ⟨l, us, rfl, pl.isList, by rw [← rv.length]; unfold scanBound; omega, g1, fun D h' tk S n nD R hn hS hk => ?_⟩
  have nD' : H1 D = none := I1.hok.fresh nD
  exact ⟨.ref D, upd H1 D (SetO X.w D S n), I1.laid (t' := tk) hk nD (setO_new R), rfl, q D S n nD' (by rw [rv.length]; exact hn) fun k => by rw [hS k, g2 k]⟩
/-- sorted({x for x in e if x is not None}) -/
def eSrtC (fe : FE) : FE := fun env => M.bind (fe env) fun p => match rd (fz p.1) p.2 with
  | some (.list ds) => match intsN ds with
    | some ns => if ds.length ≤ 63 then M.ok (.own (.lst ((sortU ns).map .int)), p.2) else none
    | none => none
  | _ => none
theorem snd_srt {t : TE} (se : SndE X.K X.mg W t fe) : SndE X.K X.mg W (fun σ H Q => tScN X t σ H fun v H1 => rSortedSet X.w [v] H1 Q) (eSrtC fe) := by
  intro G O P ts env σ F H Q S hp
  refine se.thn (k := fun s env' => match rd s env' with
    | some (.list ds) => match intsN ds with
      | some ns => if ds.length ≤ 63 then M.ok (.own (.lst ((sortU ns).map .int)), env') else none
      | none => none
    | _ => none) S hp fun s env' v F' H' S' hp' => ?_
  cases q : rd s env' with
  | none => rw [q] at hp'; exact hp'.elim
  | some d =>
    rw [q] at hp'
    have rv := S'.sh (s := s) (v := v) (by simp) q
    cases d with
    | list ds =>
      dsimp only at hp'
      cases q2 : intsN ds with
      | none => rw [q2] at hp'; exact hp'.elim
      | some ns =>
        rw [q2] at hp'
        dsimp only at hp'
        by_cases hl : ds.length ≤ 63
        · rw [if_pos hl] at hp'
          obtain ⟨a, xs, rfl, h1, h2⟩ := rv
          obtain ⟨g1, g2⟩ := intsN_ok h2 q2
          refine ⟨a, xs, rfl, .inl h1, by rw [h2.length]; exact hl, g1, fun D T n nD hn hT => ⟨D, T, n, rfl, upd_same, by rw [h2.length] at hn; omega, fun ks p hk1 hk2 hk3 np => ?_⟩⟩
          have ek : ks = sortU ns := rising_one hk1 (sortU_lt ns) fun k => by rw [hk2 k, hT k, g2 k, sortU_mem]
          subst ek
          have S2 := S'.pop.newH (u := SetO X.w D T n) nD
          obtain ⟨S3, r3⟩ := S2.ownL np (rp_ints (K := X.K) (F := F') (sortU ns))
          exact hp' _ F' _ S3 r3
        · rw [if_neg hl] at hp'; exact hp'.elim
    | _ => exact hp'.elim
theorem de_sortedSC {cl : List (Str × Addr)} (hc : X.calm = true) (he : DE X W iter fe) (hg : Gl X "sorted") (hm : X.mg "sorted" = none) (hclos : closureFor scope X.env = pure cl := by rfl) (hcell : ∀ y ∈ scope.names, y.2 ≠ .cell := by decide) (hkind : scope.kind = .function := by rfl)
    (hnames : ∀ y ∈ scope.names, y.2 = .local → scope.names.lookup y.1 = some .local := by decide)
    (hx : scope.names.lookup x = some .local := by rfl) (hdbg : (x == ("__debug__" : Str)) = false := by decide) (hs : ∀ y, foldedSetIterable iter X.env y = pure y := by intro _; rfl)
    (hst : starEach [.SetComp (.Name x p1) [⟨.Name x p2, iter, [.Compare (.Name x p3) [.IsNot] [.Constant .none j p4] p5], 0⟩] scope sp] X.env = (false, eval (.SetComp (.Name x p1) [⟨.Name x p2, iter, [.Compare (.Name x p3) [.IsNot] [.Constant .none j p4] p5], 0⟩] scope sp) X.env) :: starEach [] X.env := by rfl)
    (hpl : (backTo pos (starEach [] X.env)).any (·.1) = false := by rfl) :
    DE X W (.Call (.Name "sorted" spos) [.SetComp (.Name x p1) [⟨.Name x p2, iter, [.Compare (.Name x p3) [.IsNot] [.Constant .none j p4] p5], 0⟩] scope sp] [] pos) (eSrtC fe) := by
  obtain ⟨t, pe, se⟩ := he.ex
  exact ⟨_, pe_callB (cr_sortedSet hc) hg hm bt_sorted (pa_cons (pe_scN hc pe hclos hcell hkind hnames hx hdbg hs) pa_nil hst) (by decide) (by decide) hst hpl, snd_srt se⟩
end
end DL
set_option Elab.async false
set_option linter.all false
set_option maxRecDepth 100000
set_option maxHeartbeats 4000000
namespace DL
open PySem PySem.Spec PyProof.Rows L2

/-! ### len(set(a list of ints)), sorted(set(a tuple of ints)) -/
theorem firstMet_mem (ns : List Int) : ∀ i, i ≤ ns.length → (firstMet (fun i => ns.getD i 0) i).Nodup ∧ ∀ k, k ∈ firstMet (fun i => ns.getD i 0) i ↔ k ∈ ns.take i
  | 0, _ => by simp [firstMet_zero]
  | i + 1, hi => by
    obtain ⟨h1, h2⟩ := firstMet_mem ns i (Nat.le_of_succ_le hi)
    have e : ns.getD i 0 = ns[i] := by rw [List.getD_eq_getElem?_getD, List.getElem?_eq_getElem hi]; rfl
    have et : ns.take (i + 1) = ns.take i ++ [ns[i]] := by rw [List.take_add_one, List.getElem?_eq_getElem hi]; rfl
    rw [firstMet_succ, e, et]
    unfold step_dedup
    by_cases q : (firstMet (fun i => ns.getD i 0) i).any (· == ns[i]) = true
    · rw [if_pos q]
      refine ⟨h1, fun k => ?_⟩
      obtain ⟨y, hy, ey⟩ := List.any_eq_true.mp q
      have ey : y = ns[i] := by simpa using ey
      rw [List.mem_append, ← h2 k]
      constructor
      · exact .inl
      · rintro (h | h)
        · exact h
        · rw [List.mem_singleton.mp h, ← ey]; exact hy
    · rw [if_neg q]
      refine ⟨List.nodup_append.mpr ⟨h1, by simp, fun a ha b hb => ?_⟩, fun k => by rw [List.mem_append, List.mem_append, h2 k]⟩
      rw [List.mem_singleton.mp hb]
      rintro rfl
      exact q (List.any_eq_true.mpr ⟨_, ha, by simp⟩)
def tLenSetA (X : Cx) (ta : TE) : TE := fun σ H Q => ta σ H fun x H1 => ∃ (l : Addr) (ns : List Int), x = V.ref l ∧ SqL X.K H1 l (ns.map V.int) ∧ ns.length ≤ 4000 ∧ Q (.int ((sortU ns).length : Nat)) H1
def eLenSet (fe : FE) : FE := fun env => M.bind (fe env) fun p => match rd (fz p.1) p.2 with
  | some (.list ds) => match intsOf ds with
    | some ns => if ds.length ≤ 4000 then M.ok (.val (.int ((sortU ns).length : Nat)), p.2) else none
    | none => none
  | _ => none
def tSortSetT (X : Cx) (ta : TE) : TE := fun σ H Q => ta σ H fun x H1 => ∃ (l : Addr) (ns : List Int), x = V.ref l ∧ SqT X.K H1 l (ns.map V.int) ∧ ns.length ≤ 63 ∧ ∀ D T n p, H1 D = none → upd H1 D (SetO X.w D T n) p = none → Q (.ref p) (upd (upd H1 D (SetO X.w D T n)) p (.lst ((sortU ns).map V.int)))
def eSrtSet (fe : FE) : FE := fun env => M.bind (fe env) fun p => match rd (fz p.1) p.2 with
  | some (.tuple ds) => match intsOf ds with
    | some ns => if ds.length ≤ 63 then M.ok (.own (.lst ((sortU ns).map .int)), p.2) else none
    | none => none
  | _ => none
section
variable {X : Cx} {W : WX} {a : Expr} {p1 p2 p3 pos : Pos} {fe : FE}
theorem pe_lenSetA {ta : TE} (hg : Gl X "len") (hm : X.mg "len" = none) (hg2 : Gl X "set") (hm2 : X.mg "set" = none) (ha : PE X a ta) (hc : X.calm = true)
    (na : starEach [a] X.env = (false, eval a X.env) :: starEach [] X.env) : PE X (.Call (.Name "len" p1) [.Call (.Name "set" p2) [a] [] p3] [] pos) (tLenSetA X ta) := by
  refine ⟨fun pins s σ H Q I h => ?_⟩
  refine Call_ (ld_blt I hg hm boot_len (callWith_builtin1 (args_cons ?_ rfl) rfl rfl))
  refine Call_ (ld_blt I hg2 hm2 boot_set (callWith_type1 (args_cons (thn (ha.run pins s σ H _ I h) fun v u ⟨x, H1, I1, r1, q1⟩ => args_nil ?_) na) na rfl))
  obtain ⟨l, ns, rfl, hq, hl, q1⟩ := q1
  cases r1
  obtain ⟨its, rv, pl, _⟩ := I1.list hq
  have hz : its.toArray.size = ns.length := by rw [List.size_toArray, ← rv.length, List.length_map]
  refine call_set_list (I1.ok.hd hc) pl.isList (by simpa using RZ.intsAre_vals rv) (by rw [hz]; unfold scanBound; omega) fun h' tk hS hk => args_nil ?_
  obtain ⟨ob, es, ep, t, g1, g2, g3, _, _, _, g4, g5⟩ := hS
  have J : Inv X pins σ H1 { u with heap := h', toks := tk } := I1.kept fun b o e => hk b o (Heap.lt_size e) e
  obtain ⟨f1, f2⟩ := firstMet_mem ns ns.length (Nat.le_refl _)
  have en : es.size = (sortU ns).length := by
    rw [g5, hz]
    exact same_len f1 (lt_nodup (sortU_lt ns)) fun x => by rw [f2 x, List.take_length, sortU_mem]
  have bd : (sortU ns).length ≤ 4000 := by
    rw [← en, g5, hz]
    exact Nat.le_trans (firstMet_length_le _ _) hl
  exact call_len_set g1 g2 g3 g4 (by omega) ⟨.int ((sortU ns).length : Nat), H1, J.tok _, ⟨_, by rw [en]⟩, q1⟩
theorem de_lenSet (hc : X.calm = true) (he : DE X W a fe) (hg : Gl X "len") (hm : X.mg "len" = none) (hg2 : Gl X "set") (hm2 : X.mg "set" = none) (na : starEach [a] X.env = (false, eval a X.env) :: starEach [] X.env := by rfl) :
    DE X W (.Call (.Name "len" p1) [.Call (.Name "set" p2) [a] [] p3] [] pos) (eLenSet fe) := by
  obtain ⟨t, pe, se⟩ := he.ex
  refine ⟨_, pe_lenSetA hg hm hg2 hm2 pe hc na, fun G O P ts env σ F H Q S hp => ?_⟩
  refine se.thn (k := fun s env' => match rd s env' with
    | some (.list ds) => match intsOf ds with
      | some ns => if ds.length ≤ 4000 then M.ok (.val (.int ((sortU ns).length : Nat)), env') else none
      | none => none
    | _ => none) S hp fun s env' v F' H' S' hp' => ?_
  cases q : rd s env' with
  | none => rw [q] at hp'; exact hp'.elim
  | some d =>
    rw [q] at hp'
    have rv := S'.sh (s := s) (v := v) (by simp) q
    cases d with
    | list ds =>
      dsimp only at hp'
      cases q2 : intsOf ds with
      | none => rw [q2] at hp'; exact hp'.elim
      | some ns =>
        rw [q2] at hp'
        dsimp only at hp'
        by_cases hl : ds.length ≤ 4000
        · rw [if_pos hl] at hp'
          obtain ⟨a, xs, rfl, h1, h2⟩ := rv
          have ex := intsOf_ok h2 q2
          have hln : ns.length = ds.length := by rw [← h2.length, ex, List.length_map]
          rw [ex] at h1
          exact ⟨a, ns, rfl, .inl h1, by omega, hp' _ F' H' S'.pop (.int _)⟩
        · rw [if_neg hl] at hp'; exact hp'.elim
    | _ => exact hp'.elim
theorem pe_sortSetT {ta : TE} (hg : Gl X "sorted") (hm : X.mg "sorted" = none) (hg2 : Gl X "set") (hm2 : X.mg "set" = none) (ha : PE X a ta) (hc : X.calm = true)
    (na : starEach [a] X.env = (false, eval a X.env) :: starEach [] X.env) : PE X (.Call (.Name "sorted" p1) [.Call (.Name "set" p2) [a] [] p3] [] pos) (tSortSetT X ta) := by
  refine ⟨fun pins s σ H Q I h => ?_⟩
  refine Call_ (ld_blt I hg hm bt_sorted (callWith_builtin1 (args_cons ?_ rfl) rfl rfl))
  refine Call_ (ld_blt I hg2 hm2 boot_set (callWith_type1 (args_cons (thn (ha.run pins s σ H _ I h) fun v u ⟨x, H1, I1, r1, q1⟩ => args_nil ?_) na) na rfl))
  obtain ⟨l, ns, rfl, hq, hl, q1⟩ := q1
  cases r1
  obtain ⟨its, rv, pt, _⟩ := I1.tuple hq
  refine call_set_tupI ns (I1.ok.hd hc) (show u.heap.IsTuple l its.toArray from pt) (by simpa using RZ.intsAre_vals rv) (by unfold scanBound; omega) fun h' tk c R hcn hk => args_nil ?_
  have J : Inv X pins σ H1 { u with heap := h', toks := tk } := I1.kept fun b o e => hk b o e
  have nD := I1.hok.fresh (Nat.le_refl u.heap.objs.size)
  have J2 : Inv X pins σ (upd H1 u.heap.objs.size (SetO X.w u.heap.objs.size (fun j => decide (j ∈ ns)) c)) { u with heap := h', toks := tk } := I1.laid (t' := tk) hk (Nat.le_refl _) (setO_new R)
  refine cr_sortedSet hc pins _ σ _ [V.ref _] [.ref _] Q J2 (.cons rfl .nil) ⟨_, _, _, rfl, upd_same, by omega, fun ks p k1 k2 k3 np => ?_⟩
  have ek : ks = sortU ns := rising_one k1 (sortU_lt ns) fun k => by rw [k2 k, sortU_mem]; simp
  subst ek
  exact q1 _ _ _ p nD np
theorem de_sortSet (hc : X.calm = true) (he : DE X W a fe) (hg : Gl X "sorted") (hm : X.mg "sorted" = none) (hg2 : Gl X "set") (hm2 : X.mg "set" = none) (na : starEach [a] X.env = (false, eval a X.env) :: starEach [] X.env := by rfl) :
    DE X W (.Call (.Name "sorted" p1) [.Call (.Name "set" p2) [a] [] p3] [] pos) (eSrtSet fe) := by
  obtain ⟨t, pe, se⟩ := he.ex
  refine ⟨_, pe_sortSetT hg hm hg2 hm2 pe hc na, fun G O P ts env σ F H Q S hp => ?_⟩
  refine se.thn (k := fun s env' => match rd s env' with
    | some (.tuple ds) => match intsOf ds with
      | some ns => if ds.length ≤ 63 then M.ok (.own (.lst ((sortU ns).map .int)), env') else none
      | none => none
    | _ => none) S hp fun s env' v F' H' S' hp' => ?_
  cases q : rd s env' with
  | none => rw [q] at hp'; exact hp'.elim
  | some d =>
    rw [q] at hp'
    have rv := S'.sh (s := s) (v := v) (by simp) q
    cases d with
    | tuple ds =>
      dsimp only at hp'
      cases q2 : intsOf ds with
      | none => rw [q2] at hp'; exact hp'.elim
      | some ns =>
        rw [q2] at hp'
        dsimp only at hp'
        by_cases hl : ds.length ≤ 63
        · rw [if_pos hl] at hp'
          obtain ⟨a, xs, rfl, h1, h2⟩ := Sh.tup S'.fh rv
          have ex := intsOf_ok h2 q2
          have hln : ns.length = ds.length := by rw [← h2.length, ex, List.length_map]
          rw [ex] at h1
          refine ⟨a, ns, rfl, h1, by omega, fun D T n p nD np => ?_⟩
          have S2 := S'.pop.newH (u := SetO X.w D T n) nD
          obtain ⟨S3, r3⟩ := S2.ownL np (rp_ints (K := X.K) (F := F') (sortU ns))
          exact hp' _ F' _ S3 r3
        · rw [if_neg hl] at hp'; exact hp'.elim
    | _ => exact hp'.elim
end
end DL
set_option Elab.async false
set_option linter.all false
set_option maxRecDepth 100000
set_option maxHeartbeats 4000000
namespace DL
open PySem PySem.Spec PyProof.Rows L2

/-! ### dicts: ints and texts as keys -/
def keyOf : PyData → Option Key
  | .int i => some (.inl i)
  | .str x => some (.inr x)
  | _ => none
theorem keyOf_kD (k : Key) : keyOf (kD k) = some k := by cases k <;> rfl
def lookD (k : Key) : List (PyData × PyData) → Option PyData
  | [] => none
  | p :: r => if keyOf p.1 = some k then some p.2 else lookD k r
def putD (kvs : List (Key × PyData)) (k : Key) (d : PyData) : List (Key × PyData) :=
  if (kvs.any fun kv => decide (kv.1 = k)) = true then kvs.map (fun kv => if kv.1 = k then (kv.1, d) else kv) else kvs ++ [(k, d)]
def mergeD (kvs more : List (Key × PyData)) : List (Key × PyData) := more.foldl (fun acc kv => putD acc kv.1 kv.2) kvs
section
variable {K : PySem.W.Frag} {G O F F' H H' : Hp} {P : Nat → Option Addr} {ts : List (Sl × V)} {env : EnvD} {σ : L2.St} {s : Sl} {v : V}
theorem kV_key {d : PyData} {k : Key} (e : keyOf d = some k) (h : Rp K F v d) : v = kV k := by
  cases d <;> try (unfold keyOf at e; cases e; done)
  · cases h; cases e; rfl
  · cases h; cases e; rfl
theorem RpK.look (k : Key) : ∀ {ys : List (Key × V)} {es : List (PyData × PyData)}, RpK K F ys es → match lookD k es with
    | some d => ∃ v, valV ys k = some v ∧ Rp K F v d
    | none => valV ys k = none
  | _, _, .nil => rfl
  | _, _, .cons (k := k') (v := v) (ys := ys) (d := d) (es := es) h r => by
    have ih := RpK.look k r
    unfold lookD
    dsimp only
    rw [keyOf_kD]
    by_cases q : k' = k
    · subst q
      rw [if_pos rfl]
      exact ⟨v, valV_pos rfl, h⟩
    · rw [if_neg (by intro z; exact q (Option.some.inj z)), valV_neg (p := (k', v)) q]
      exact ih
theorem RpV.any (k : Key) : ∀ {ys : List (Key × V)} {es : List (Key × PyData)}, RpV K F ys es → (ys.any fun kv => decide (kv.1 = k)) = (es.any fun kv => decide (kv.1 = k))
  | _, _, .nil => rfl
  | _, _, .cons h r => by simp [RpV.any k r]
theorem RpV.app : ∀ {ys zs : List (Key × V)} {es fs : List (Key × PyData)}, RpV K F ys es → RpV K F zs fs → RpV K F (ys ++ zs) (es ++ fs)
  | _, _, _, _, .nil, g => g
  | _, _, _, _, .cons h r, g => .cons h (r.app g)
theorem RpV.setk (k : Key) {v : V} {d : PyData} (hv : Rp K F v d) : ∀ {ys : List (Key × V)} {es : List (Key × PyData)}, RpV K F ys es → RpV K F (ys.map fun kv => if kv.1 = k then (kv.1, v) else kv) (es.map fun kv => if kv.1 = k then (kv.1, d) else kv)
  | _, _, .nil => .nil
  | _, _, .cons (k := k') h r => by
    simp only [List.map_cons]
    by_cases q : k' = k
    · simp only [q, if_true]; exact .cons hv (RpV.setk k hv r)
    · simp only [q, if_false]; exact .cons h (RpV.setk k hv r)
theorem RpV.put (k : Key) {v : V} {d : PyData} {ys : List (Key × V)} {es : List (Key × PyData)} (h : RpV K F ys es) (hv : Rp K F v d) : RpV K F (putK ys k v) (putD es k d) := by
  unfold putK putD
  rw [h.any k]
  split
  · exact h.setk k hv
  · exact h.app (.cons hv .nil)
theorem RpV.merge {more : List (Key × V)} {ms : List (Key × PyData)} (r : RpV K F more ms) : ∀ {ys : List (Key × V)} {es : List (Key × PyData)}, RpV K F ys es → RpV K F (mergeK ys more) (mergeD es ms) := by
  induction r with
  | nil => intro ys es h; exact h
  | cons h r ih =>
    intro ys es g
    unfold mergeK mergeD
    exact ih (g.put _ h)
theorem RpV.length : ∀ {ys : List (Key × V)} {es : List (Key × PyData)}, RpV K F ys es → ys.length = es.length
  | _, _, .nil => rfl
  | _, _, .cons h r => by simp [r.length]
theorem RpK.length : ∀ {ys : List (Key × V)} {es : List (PyData × PyData)}, RpK K F ys es → ys.length = es.length
  | _, _, .nil => rfl
  | _, _, .cons h r => by simp [r.length]
theorem putD_len (kvs : List (Key × PyData)) (k : Key) (d : PyData) : (putD kvs k d).length ≤ kvs.length + 1 := by
  unfold putD
  split
  · simp
  · simp
/-- more stands -/
theorem SR.ext (h : SR K G O P ts env σ F H) (e : ∀ b o, H b = some o → H' b = some o) : SR K G O P ts env σ F H' := by
  refine ⟨h.gf, fun b x q => e b x (h.fh b x q), ⟨fun b x q => e b x (h.oh.val b x q), h.oh.nt, h.oh.tb.ext e⟩, h.dj, h.len, fun i s q => ?_, h.tmp, h.sep, h.nt⟩
  obtain ⟨v, e1, e2⟩ := h.slot i s q
  exact ⟨v, e1, e2.mono (Same.refl _) fun a h1 h2 ⟨u, h3⟩ => ⟨h1, by rw [h3, e a u h3]⟩⟩
end

/-! ### d[k], k in d, len(d) -/
def dctOf (d : PyData) : Option (List (PyData × PyData)) := match d with
  | .dict es => some es
  | _ => none
def dgetD (a b : PyData) : Option Sl := match a, keyOf b with
  | .dict es, some k => match lookD k es with
    | some d => some (.val d)
    | none => none
  | _, _ => none
def dinD (neg : Bool) (b a : PyData) : Option Sl := match a, keyOf b with
  | .dict es, some k => vB (if neg then !(lookD k es).isSome else (lookD k es).isSome)
  | _, _ => none
theorem dget_ok {a b : PyData} {s : Sl} (h : dgetD a b = some s) : ∃ es k d, a = .dict es ∧ keyOf b = some k ∧ lookD k es = some d ∧ s = .val d := by
  unfold dgetD at h
  split at h
  · rename_i es k e
    split at h
    · rename_i d q; cases h; exact ⟨es, k, d, rfl, e, q, rfl⟩
    · cases h
  · cases h
theorem din_ok {neg : Bool} {a b : PyData} {s : Sl} (h : dinD neg b a = some s) : ∃ es k, a = .dict es ∧ keyOf b = some k ∧ s = .val (.bool (if neg then !(lookD k es).isSome else (lookD k es).isSome)) := by
  unfold dinD at h
  split at h
  · rename_i es k e
    cases h
    exact ⟨es, k, rfl, e, rfl⟩
  · cases h
section
variable {X : Cx} {W : WX} {a b : Expr} {pos : Pos} {fa fb : FE}
theorem key_sh {K : PySem.W.Frag} {F H : Hp} {v : V} {d : PyData} {k : Key} (e : keyOf d = some k) (h : Sh K F H v d) : v = kV k := by
  cases d <;> try (unfold keyOf at e; cases e; done)
  · exact kV_key e h
  · exact kV_key e h
theorem de_dget (hu : X.A.units + 1 < cLine) (ha : DE X W a fa) (hb : DE X W b fb) (hs : NoSl b := by exact fun _ _ => rfl) : DE X W (.Subscript a b pos) (e2 dgetD fa fb) := by
  obtain ⟨ta, pa, sa⟩ := ha.ex
  obtain ⟨tb, pb, sb⟩ := hb.ex
  refine ⟨_, pe_dget hu pa pb hs, fun G O P ts env σ F H Q S hp => ?_⟩
  refine sa.thn (k := fun s env' => M.bind (fb env') fun q => fin (g2 dgetD (rd s q.2) (rd (fz q.1) q.2)) q.2) S hp fun s env' v F' H' S' hp' => ?_
  refine sb.thn (k := fun s2 env2 => fin (g2 dgetD (rd s env2) (rd s2 env2)) env2) S' hp' fun s2 env2 v2 F2 H2 S2 hp2 => ?_
  obtain ⟨z, e0, q⟩ := fin_ok hp2
  obtain ⟨d1, d2, e1, e2, e3⟩ := g2_ok e0
  obtain ⟨es, k, d, rfl, ek, el, rfl⟩ := dget_ok e3
  obtain ⟨ad, ys, rfl, h1, h2⟩ := S2.sh (s := s) (v := v) (by simp) e1
  have hk := key_sh ek (S2.sh (s := s2) (v := v2) (by simp) e2)
  have hl := h2.look k
  rw [el] at hl
  obtain ⟨w, g1, g2⟩ := hl
  exact ⟨ad, w, rfl, .inl ⟨ys, k, .inl h1, hk, g1.symm⟩, q w F2 H2 S2.pop.pop g2⟩
theorem snd_din {neg : Bool} {ta tb : TE} (sa : SndE X.K X.mg W ta fa) (sb : SndE X.K X.mg W tb fb) : SndE X.K X.mg W (fun σ H Q => ta σ H fun y H1 => tb σ H1 fun x H2 => ∃ a o, x = .ref a ∧ DGet H2 a y o ∧ Q (.bl (if neg then !o.isSome else o.isSome)) H2) (e2 (dinD neg) fa fb) := by
  intro G O P ts env σ F H Q S hp
  refine sa.thn (k := fun s env' => M.bind (fb env') fun q => fin (g2 (dinD neg) (rd s q.2) (rd (fz q.1) q.2)) q.2) S hp fun s env' v F' H' S' hp' => ?_
  refine sb.thn (k := fun s2 env2 => fin (g2 (dinD neg) (rd s env2) (rd s2 env2)) env2) S' hp' fun s2 env2 v2 F2 H2 S2 hp2 => ?_
  obtain ⟨z, e0, q⟩ := fin_ok hp2
  obtain ⟨d1, d2, e1, e2, e3⟩ := g2_ok e0
  obtain ⟨es, k, rfl, ek, rfl⟩ := din_ok e3
  obtain ⟨ad, ys, rfl, h1, h2⟩ := S2.sh (s := s2) (v := v2) (by simp) e2
  have hk := key_sh ek (S2.sh (s := s) (v := v) (by simp) e1)
  have hl := h2.look k
  have ei : (valV ys k).isSome = (lookD k es).isSome := by
    cases q2 : lookD k es with
    | none => rw [q2] at hl; rw [hl]; rfl
    | some d => rw [q2] at hl; obtain ⟨w, g1, _⟩ := hl; rw [g1]; rfl
  refine ⟨ad, valV ys k, rfl, .inl ⟨ys, k, .inl h1, hk, rfl⟩, ?_⟩
  rw [ei]
  exact q _ F2 H2 S2.pop.pop (.bl _)
theorem de_din (hu : X.A.units + 1 < cLine) (ha : DE X W a fa) (hb : DE X W b fb) (hm : behindInMarks .In b = false := by first | rfl | exact nobehind _ (by decide) (by decide)) : DE X W (.Compare a [.In] [b] pos) (e2 (dinD false) fa fb) := by
  obtain ⟨ta, pa, sa⟩ := ha.ex
  obtain ⟨tb, pb, sb⟩ := hb.ex
  exact ⟨_, pe_cmp (pc_din hu pa pb) hm, snd_din (neg := false) sa sb⟩
theorem de_dnin (hu : X.A.units + 1 < cLine) (ha : DE X W a fa) (hb : DE X W b fb) (hm : behindInMarks .NotIn b = false := by first | rfl | exact nobehind _ (by decide) (by decide)) : DE X W (.Compare a [.NotIn] [b] pos) (e2 (dinD true) fa fb) := by
  obtain ⟨ta, pa, sa⟩ := ha.ex
  obtain ⟨tb, pb, sb⟩ := hb.ex
  exact ⟨_, pe_cmp (pc_dnotin hu pa pb) hm, snd_din (neg := true) sa sb⟩
theorem dt_din (hu : X.A.units + 1 < cLine) (ha : DE X W a fa) (hb : DE X W b fb) (hm : behindInMarks .In b = false := by first | rfl | exact nobehind _ (by decide) (by decide)) : DT X W (.Compare a [.In] [b] pos) (eT (e2 (dinD false) fa fb)) := by
  obtain ⟨ta, pa, sa⟩ := ha.ex
  obtain ⟨tb, pb, sb⟩ := hb.ex
  exact ⟨_, pt_cmp (pc_din hu pa pb) hm, snd_test (snd_din (neg := false) sa sb)⟩
theorem dt_dnin (hu : X.A.units + 1 < cLine) (ha : DE X W a fa) (hb : DE X W b fb) (hm : behindInMarks .NotIn b = false := by first | rfl | exact nobehind _ (by decide) (by decide)) : DT X W (.Compare a [.NotIn] [b] pos) (eT (e2 (dinD true) fa fb)) := by
  obtain ⟨ta, pa, sa⟩ := ha.ex
  obtain ⟨tb, pb, sb⟩ := hb.ex
  exact ⟨_, pt_cmp (pc_dnotin hu pa pb) hm, snd_test (snd_din (neg := true) sa sb)⟩
/-- len(d) -/
def lenDctD (ds : List PyData) : Option Sl := match ds with
  | [.dict es] => vI es.length
  | _ => none
theorem cd_lenDct : CallD X (fun xs H Q => ∃ a kvs, xs = [V.ref a] ∧ H a = some (.dK kvs) ∧ Q (.int kvs.length) H) lenDctD := by
  intro G O P ts env σ F H vs ds s Q S h e q
  unfold lenDctD at e
  split at e
  · cases e
    cases h with
    | cons h1 h2 =>
      cases h2
      obtain ⟨a, ys, rfl, g1, g2⟩ := h1
      refine ⟨a, ys, rfl, g1, ?_⟩
      rw [g2.length]
      exact q _ F H S (.int _)
  · cases e
/-- {} -/
def eDNew : FE := fun env => M.ok (.own (.dct []), env)
theorem de_dnew : DE X W (.Dict [] [] pos) eDNew := ⟨_, pe_dnewK, fun G O P ts env σ F H Q S hp p np => by
  obtain ⟨S2, r2⟩ := S.ownD np (ds := []) .nil
  exact hp _ F _ S2 r2⟩
end
end DL
set_option Elab.async false
set_option linter.all false
set_option maxRecDepth 100000
set_option maxHeartbeats 4000000
namespace DL
open PySem PySem.Spec PyProof.Rows L2

/-! ### d[k] = v, d a dict of one's own -/
def dctO (i : Nat) (env : EnvD) : Option (Sl × List (Key × PyData)) :=
  match slotO i env with
  | some (s, .dct kvs) => some (s, kvs)
  | _ => none
theorem dctO_ok {i : Nat} {env : EnvD} {s : Sl} {kvs : List (Key × PyData)} (h : dctO i env = some (s, kvs)) : slotO i env = some (s, .dct kvs) := by
  unfold dctO at h
  split at h
  · cases h; assumption
  · cases h
def asK (s : Sl) : Option Key := match s with
  | .val d => keyOf d
  | _ => none
def gtDSub (i : Nat) (fi : FE) : GT := fun d env => match dctO i env with
  | some _ => match fi env with
    | some (.ok q) => match asK q.1 with
      | some k => match dctO i q.2 with
        | some r => if r.2.length < bigL then some (q.2.set i (some (reO r.1 (.dct (putD r.2 k d))))) else none
        | none => none
      | none => none
    | _ => none
  | none => none
section
variable {X : Cx} {W : WX} {a b : Expr} {pos : Pos} {fa fb : FE} {x : Str}
theorem dg_dsub (i : Nat) {px ps : Pos} (hu : X.A.units + 1 < cLine) (hi : DE X W b fb) (hN : X.N[i]? = some x := by rfl) (hv : Vis X.env.scope x := by first | exact Or.inl rfl | exact Or.inr (Or.inl rfl) | exact Or.inr (Or.inr rfl)) (hd : (x == ("__debug__" : Str)) = false := by decide)
    (hcd : (x == ("__classdict__" : Str)) = false := by decide) (has : ∀ v, assign (.Subscript (.Name x px) b ps) X.env v = (do
      let ov ← holding [v] (eval (.Name x px) X.env)
      let iv ← holding [v, ov] (eval b X.env)
      standAt ps
      holding [v, ov, iv] (setItem ov iv v)
      release [v, ov, iv] []) := by intro _; rfl) :
    DG X (.Subscript (.Name x px) b ps) (gSub (tVar i) (tE X.K X.mg W fb) rSetD) (gtDSub i fb) [] := by
  refine ⟨pg_sub (pe_var hN hv hd hcd) hi.can (set_dict hu) has, fun G O P env σ F H v d env' Q S r e q => ?_⟩
  unfold gtDSub at e
  cases q0 : dctO i env with
  | none => rw [q0] at e; cases e
  | some r0 =>
    rw [q0] at e
    dsimp only at e
    obtain ⟨s0, ks0⟩ := r0
    obtain ⟨a0, f1, f2, f3, _, _⟩ := S.slO (dctO_ok q0)
    refine ⟨_, f1, ?_⟩
    refine snd_tE F O P [(.val d, v)] env σ F H _ (S.base.push (s := .val d) r) ?_
    cases q1 : fb env with
    | none => rw [q1] at e; cases e
    | some o =>
      rw [q1] at e
      cases o with
      | err c env2 => cases e
      | ok pr =>
        obtain ⟨s1, env2⟩ := pr
        dsimp only at e
        intro w F2 H2 S2 r2
        cases q2 : asK s1 with
        | none => rw [q2] at e; cases e
        | some k =>
          rw [q2] at e
          dsimp only at e
          have ew : w = kV k := by
            unfold asK at q2
            split at q2
            · exact kV_key q2 r2
            · cases q2
          subst ew
          cases q3 : dctO i env2 with
          | none => rw [q3] at e; cases e
          | some r3 =>
            obtain ⟨s3, kvs⟩ := r3
            rw [q3] at e
            dsimp only at e
            by_cases hl : kvs.length < bigL
            · rw [if_pos hl] at e
              cases e
              obtain ⟨a, g1, g2, g3, ⟨ys, g4, g5⟩, _⟩ := S2.slO (dctO_ok q3)
              rw [f1] at g1
              cases g1
              have rv : Rp X.K F2 v d := S2.tmp (.val d, v) (by simp)
              refine ⟨a0, _, rfl, .inl ⟨ys, k, g4, rfl, by rw [g5.length]; exact bigL_lt (Nat.le_of_lt hl), rfl⟩, ?_⟩
              have hw : OwnAt X.K F2 (upd H2 a0 (.dK (putK ys k v))) a0 (.dct (putD kvs k d)) := ⟨_, upd_same, g5.put k rv⟩
              exact q σ F2 _ S2.gf ((S2.pop.reown (dctO_ok q3) f1 hw).rebase S.gf) Only.refl
            · rw [if_neg hl] at e; cases e
end
/-! ### {k: v for ..} -/
def dcL (gt : GT) (ft : FT) (fk fe : FE) (vs : List Nat) : List PyData → List (Key × PyData) → EnvD → M (List (Key × PyData) × EnvD)
  | [], acc, env => M.ok (acc, env)
  | d :: r, acc, env => match gt d env with
    | some env1 => match ft env1 with
      | some (.ok p) => match p.1 with
        | true => match fk p.2 with
          | some (.ok k) => match asK k.1 with
            | some ky => match fe k.2 with
              | some (.ok q) => match frz1 (fz q.1) q.2 with
                | some z => if acc.length < bigL then dcL gt ft fk fe vs r (putD acc ky z.1) (wipeD z.2 vs) else none
                | none => none
              | _ => none
            | none => none
          | _ => none
        | false => dcL gt ft fk fe vs r acc (wipeD p.2 vs)
      | _ => none
    | none => none
def dcF (fi : FI) (gt : GT) (ft : FT) (fk fe : FE) (vs : List Nat) : FE := fun env => M.bind (fi env) fun p => M.bind (dcL gt ft fk fe vs p.1 [] (wipeD p.2 vs)) fun q => M.ok (.own (.dct q.1), q.2)
section
variable {X : Cx} {W : WX} {tg iter kx elt : Expr} {ifs : List Expr} {pos : Pos} {x : Str} {fi : FI} {g : TG} {gt : GT} {ft : FT} {fk fe : FE} {scope : Scope} {own : List (Str × Nat)} {tgs : List Nat}
theorem snd_dc {K : PySem.W.Frag} {mg : Str → Option Value} {wi : TI} {vs : List Nat} (si : SndI K mg W wi fi) (sg : SndG K g gt tgs) (hs : ∀ i ∈ tgs, i ∈ vs) : SndE K mg W (tDc wi g (tT K mg WF ft) (tE K mg WF fk) (tE K mg WF fe) vs) (dcF fi gt ft fk fe vs) := by
  intro G O P ts env σ F H Q S hp
  refine si G O P ts env σ F H _ S ?_
  unfold dcF at hp
  cases q : fi env with
  | none => rw [q] at hp; exact hp
  | some o =>
    rw [q] at hp
    cases o with
    | err c env' => exact hp
    | ok pr =>
      obtain ⟨ds, env0⟩ := pr
      intro J F0 H0 S0 w D nD
      have S0' : SR K F0 O P [] env0 σ F0 H0 := (S0.sub (fun p hp => absurd hp (by simp))).base
      have S1 : SR K F0 (upd O D (.dK [])) P [] (wipeD env0 vs) σ F0 (upd H0 D (.dK [])) := by
        have z := (S0'.wipe1 vs).newH (u := .dK []) nD
        exact z.hide (S0.ofree nD).1 (S0.ofree nD).2 upd_same (fun _ z => by cases z) fun i s' e wn => (S0'.wipe1 vs).fresh nD e wn
      refine walk_in w (Qd := fun H => Q (.ref D) H) _ (fun i H => ∃ env F acc ys, SR K F0 (upd O D (.dK ys)) P [] (wipeD env vs) σ F H ∧ RpV K F ys acc ∧ acc.length ≤ bigL ∧
          PostE K mg W G O P ts σ Q (M.bind (dcL gt ft fk fe vs (ds.drop i) acc (wipeD env vs)) fun q => M.ok (.own (.dct q.1), q.2)))
        ⟨env0, F0, [], [], S1, .nil, Nat.zero_le _, hp⟩ (fun i H _ ⟨env, F, acc, xs, S, _⟩ => S.gf.trans S.fh) (fun i x H1 H2 hi ⟨env1, F1, acc, ys, S2, ra, la, hp1⟩ y => ?_) fun H1 ⟨env1, F1, acc, ys, S2, ra, la, hp1⟩ => ?_
      · have hd : ds[i]? = some ds[i] := List.getElem?_eq_getElem hi
        rw [drop_at hd] at hp1
        obtain ⟨F2, m2, S3, r2⟩ := yield_sr S2 S2.gf y hd
        have S4 : SR K F0 (upd O D (.dK ys)) P [] (wipeD env1 vs) (L2.wipe σ vs) F2 H2 := by
          refine S3.reslot ?_ fun i x e => ⟨e, wipe_out (wipeD_some e).2⟩
          rw [S3.len, wipe_length]
        unfold dcL at hp1
        cases q1 : gt ds[i] (wipeD env1 vs) with
        | none => rw [q1] at hp1; exact hp1.elim
        | some env2 =>
          rw [q1] at hp1
          dsimp only at hp1
          refine sg F0 (upd O D (.dK ys)) P (wipeD env1 vs) (L2.wipe σ vs) F2 H2 x _ env2 _ S4 r2 q1 fun σ3 F2' H2' m2' S5 o3 => ?_
          have ew : L2.wipe σ3 vs = L2.wipe σ vs := wipe_only o3 hs
          refine ⟨ew, F2', upd O D (.dK ys), P, [], env2, F2', S5.base, ?_⟩
          cases q2 : ft env2 with
          | none => rw [q2] at hp1; exact hp1.elim
          | some o =>
            rw [q2] at hp1
            cases o with
            | err c env3 => exact hp1.elim
            | ok p3 =>
              obtain ⟨b, env3⟩ := p3
              intro F3 H3 S6
              dsimp only at hp1
              cases b with
              | false =>
                rw [if_neg (by decide)]
                exact ⟨env3, F3, acc, ys, (S6.rebase S5.gf).unwipe ew, ra.mono ((m2.trans m2').trans S6.gf), la, hp1⟩
              | true =>
                rw [if_pos rfl]
                refine ⟨F3, upd O D (.dK ys), P, [], env3, F3, S6.base, ?_⟩
                cases k3 : fk env3 with
                | none => rw [k3] at hp1; exact hp1.elim
                | some o4 =>
                  rw [k3] at hp1
                  cases o4 with
                  | err c env4 => exact hp1.elim
                  | ok pk =>
                    obtain ⟨sk, env4⟩ := pk
                    intro kv F4 H4 T1 rk
                    dsimp only at hp1
                    cases k4 : asK sk with
                    | none => rw [k4] at hp1; exact hp1.elim
                    | some ky =>
                      rw [k4] at hp1
                      dsimp only at hp1
                      have ek : kv = kV ky := by
                        unfold asK at k4
                        split at k4
                        · exact kV_key k4 rk
                        · cases k4
                      refine ⟨F4, upd O D (.dK ys), P, [], env4, F4, T1.base, ?_⟩
                      cases q3 : fe env4 with
                      | none => rw [q3] at hp1; exact hp1.elim
                      | some o2 =>
                        rw [q3] at hp1
                        cases o2 with
                        | err c env5 => exact hp1.elim
                        | ok p4 =>
                          intro v F5 H5 S7 r7
                          dsimp only at hp1
                          obtain ⟨F6, m6, S8⟩ := S7.keep r7
                          cases q4 : frz1 (fz p4.1) p4.2 with
                          | none => rw [q4] at hp1; exact hp1.elim
                          | some z =>
                            rw [q4] at hp1
                            obtain ⟨d, env6⟩ := z
                            dsimp only at hp1
                            obtain ⟨F7, m7, S9, r9⟩ := S8.frz1 (S8.tmp (fz p4.1, v) (by simp)) q4
                            by_cases hlt : acc.length < bigL
                            · rw [if_pos hlt] at hp1
                              have raf : RpV K F7 ys acc := ra.mono (((((m2.trans m2').trans S6.gf).trans T1.gf).trans S7.gf).trans (m6.trans m7))
                              refine ⟨ys, ky, ek, S9.oh.val D _ upd_same, by rw [raf.length]; exact bigL_lt (Nat.le_of_lt hlt), env6, F7, putD acc ky d, putK ys ky v, ?_, raf.put ky r9, Nat.le_trans (putD_len _ _ _) hlt, hp1⟩
                              exact ((S9.pop.rehide (u' := .dK (putK ys ky v)) trivial trivial).rebase ((S5.gf.trans S6.gf).trans T1.gf)).unwipe ew
                            · rw [if_neg hlt] at hp1; exact hp1.elim
      · rw [List.drop_length] at hp1
        obtain ⟨S3, nF, eD, ns⟩ := S2.unhide (S0.ofree nD).2 (fun _ z => by cases z)
        refine hp1 _ F1 H1 ((S3.rebase S0.gf).retmp S0 S2.gf) ⟨D, rfl, nF, (S0.ofree nD).2, ⟨ys, eD, ra⟩, ns⟩
theorem de_dc (hc : X.calm = true) (hN : X.N.Nodup) (hi : DI X W tg iter fi) (ok : BlkOk X.N X.env.scope scope own) (hs : ∀ i ∈ tgs, i ∈ own.map (·.2))
    (hg : ∀ (s : Shared) (H : Hp) (C : Addr) (cl : List (Str × Addr)) (fp : List Addr), DG (X.blk s H scope (compEnvC scope cl C X.env) fp) tg g gt tgs)
    (ht : ∀ (s : Shared) (H : Hp) (C : Addr) (cl : List (Str × Addr)) (fp : List Addr), DTs (X.blk s H scope (compEnvC scope cl C X.env) fp) WF ifs ft)
    (hk : ∀ (s : Shared) (H : Hp) (C : Addr) (cl : List (Str × Addr)) (fp : List Addr), DE (X.blk s H scope (compEnvC scope cl C X.env) fp) WF kx fk)
    (he : ∀ (s : Shared) (H : Hp) (C : Addr) (cl : List (Str × Addr)) (fp : List Addr), DE (X.blk s H scope (compEnvC scope cl C X.env) fp) WF elt fe) (hf : ∀ x, foldedSetIterable iter X.env x = pure x := by intro _; rfl) :
    DE X W (.DictComp kx elt [⟨tg, iter, ifs, 0⟩] scope pos) (dcF fi gt ft fk fe (own.map (·.2))) := by
  obtain ⟨wi, pi, si⟩ := hi.ex
  exact ⟨_, pe_dc hc hN pi ok (fun s H C cl fp => (hg s H C cl fp).pg) (fun s H C cl fp => (ht s H C cl fp).can) (fun s H C cl fp => (hk s H C cl fp).can) (fun s H C cl fp => (he s H C cl fp).can) hf, snd_dc si (hg X.s_0 (fun _ => none) 0 [] []).sd hs⟩
end
end DL
set_option Elab.async false
set_option linter.all false
set_option maxRecDepth 100000
set_option maxHeartbeats 4000000
namespace DL
open PySem PySem.Spec PyProof.Rows L2

/-! ### name = {k: v for ..}, name = [.. for .. for ..] on one line -/
section
variable {X : Cx} {W : WX} {tg iter kx elt tg1 iter1 : Expr} {ifs ifs1 : List Expr} {pos spos py : Pos} {x : Str} {fi fi1 : FI} {g g1 : TG} {gt gt1 : GT} {ft ft1 : FT} {fk fe : FE} {scope : Scope} {own : List (Str × Nat)} {tgs tgs1 : List Nat}
theorem sw_dc {kx elt : Expr} {gs : List Comprehension} {y : Str} {l : Nat} {env : Env} (hk : env.scope.kind = .function) (hy : env.scope.names.lookup y = some .local) (hl : (py.line == pos.line) = true)
    (ha : (scope.names.any fun (n, k) => n == y && (k == .local || k == .cell)) = false) : swapsWith (.DictComp kx elt gs scope pos) (some (.Name y py)) l env = pure true := by
  have kk : env.kindOf y = some .local := hy
  have kb : env.blockKind = .function := by unfold Env.blockKind; rw [hk]; rfl
  unfold swapsWith
  simp only [kb, kk, ha, Expr.pos, hl]
  rfl
theorem ps_asgDc {i : Nat} {wi : TI} {tt : TT} {tk tv : TE} (hc : X.calm = true) (hN : X.N.Nodup) (hy : X.N[i]? = some x) (hyl : X.env.scope.names.lookup x = some .local)
    (hsw : swapsWith (.DictComp kx elt [⟨tg, iter, ifs, 0⟩] scope pos) (some (.Name x py)) spos.line X.env = pure true) (hi : PI X tg iter wi) (ok : BlkOk X.N X.env.scope scope own)
    (hg : ∀ (s : Shared) (H : Hp) (C : Addr) (cl : List (Str × Addr)) (fp : List Addr), PG (X.blk s H scope (compEnvC scope cl C X.env) fp) tg g) (ht : ∀ (s : Shared) (H : Hp) (C : Addr) (cl : List (Str × Addr)) (fp : List Addr), PTs (X.blk s H scope (compEnvC scope cl C X.env) fp) ifs tt)
    (hk : ∀ (s : Shared) (H : Hp) (C : Addr) (cl : List (Str × Addr)) (fp : List Addr), PE (X.blk s H scope (compEnvC scope cl C X.env) fp) kx tk)
    (he : ∀ (s : Shared) (H : Hp) (C : Addr) (cl : List (Str × Addr)) (fp : List Addr), PE (X.blk s H scope (compEnvC scope cl C X.env) fp) elt tv) (hs : ∀ y, foldedSetIterable iter X.env y = pure y) :
    PS X (.Assign [.Name x py] (.DictComp kx elt [⟨tg, iter, ifs, 0⟩] scope pos) spos) (tAsg (tDc wi g tt tk tv (own.map (·.2))) (gName i)) := by
  refine ⟨fun pins s σ H D I q => ?_⟩
  have q : tDc wi g tt tk tv (own.map (·.2)) σ H (fun z H1 => gName i z σ H1 D.nx) := q
  rw [exec_Assign_Name_used _ _ _ _ hsw]
  refine wpAny_bind (wpAny_standAt (wpAny_bind ?_))
  show wpAny _ X.A (do let _ ← comprehension (.DictComp kx elt [⟨tg, iter, ifs, 0⟩] scope pos) scope X.env (firstIterPos [⟨tg, iter, ifs, 0⟩] pos) newDict false (eval iter X.env) (some (assign (.Name x py) X.env))) _ _ s
  refine wpAny_bind (thn (dc_core (Qf := fun _ s' => SP X pins D .next s') hc hN I hi ok hg ht hk he hs q fun L C u m K I1 r hn hf => ?_) fun _ u hq => wpAny_pure (wpAny_pure hq))
  obtain ⟨z0, z1, z2, z3, z4, z5⟩ := hf
  show wpAny _ _ (assign (.Name x py) X.env (.ref L)) _ _ _
  refine wpAny_assign_Name (store_ok2 (v := V.ref L) I1 hN hy (.inl hyl) rfl (fun u2 I2 ⟨ad, same, had⟩ => ?_) (.inr hyl))
  have off : C ≠ ad := by
    rcases had with e | e
    · rw [e]; exact z1
    · exact fun w => z4 x ad e w.symm
  exact ⟨m, hn.sameBut same off, fun h3 sb3 => ⟨_, K, I2.turned (t' := u2.toks) (fun b o hb e => (sb3.2 b hb).trans e) z0 z1 z3 z4 z5, r⟩⟩
theorem ds_asgDc (i : Nat) (hc : X.calm = true) (hN : X.N.Nodup) (hi : DI X W tg iter fi) (ok : BlkOk X.N X.env.scope scope own) (hs : ∀ i ∈ tgs, i ∈ own.map (·.2))
    (hg : ∀ (s : Shared) (H : Hp) (C : Addr) (cl : List (Str × Addr)) (fp : List Addr), DG (X.blk s H scope (compEnvC scope cl C X.env) fp) tg g gt tgs)
    (ht : ∀ (s : Shared) (H : Hp) (C : Addr) (cl : List (Str × Addr)) (fp : List Addr), DTs (X.blk s H scope (compEnvC scope cl C X.env) fp) WF ifs ft)
    (hk : ∀ (s : Shared) (H : Hp) (C : Addr) (cl : List (Str × Addr)) (fp : List Addr), DE (X.blk s H scope (compEnvC scope cl C X.env) fp) WF kx fk)
    (he : ∀ (s : Shared) (H : Hp) (C : Addr) (cl : List (Str × Addr)) (fp : List Addr), DE (X.blk s H scope (compEnvC scope cl C X.env) fp) WF elt fe)
    (hsw : swapsWith (.DictComp kx elt [⟨tg, iter, ifs, 0⟩] scope pos) (some (.Name x py)) spos.line X.env = pure true) (hy : X.N[i]? = some x := by rfl) (hyl : X.env.scope.names.lookup x = some .local := by rfl) (hf : ∀ x, foldedSetIterable iter X.env x = pure x := by intro _; rfl) :
    DS X W (.Assign [.Name x py] (.DictComp kx elt [⟨tg, iter, ifs, 0⟩] scope pos) spos) (asgF i (dcF fi gt ft fk fe (own.map (·.2)))) := by
  obtain ⟨wi, pi, si⟩ := hi.ex
  exact ⟨_, ps_asgDc hc hN hy hyl hsw pi ok (fun s H C cl fp => (hg s H C cl fp).pg) (fun s H C cl fp => (ht s H C cl fp).can) (fun s H C cl fp => (hk s H C cl fp).can) (fun s H C cl fp => (he s H C cl fp).can) hf, snd_asg (snd_dc si (hg X.s_0 (fun _ => none) 0 [] []).sd hs)⟩
theorem ds_asgLc2 (i : Nat) {vs1 : List Nat} (hc : X.calm = true) (hN : X.N.Nodup) (hi : DI X W tg iter fi) (ok : BlkOk X.N X.env.scope scope own) (hs : ∀ i ∈ tgs, i ∈ own.map (·.2)) (hs1 : ∀ i ∈ tgs1, i ∈ vs1) (hv : ∀ i ∈ vs1, i ∈ own.map (·.2))
    (hg : ∀ (s : Shared) (H : Hp) (C : Addr) (cl : List (Str × Addr)) (fp : List Addr), DG (X.blk s H scope (compEnvC scope cl C X.env) fp) tg g gt tgs)
    (ht : ∀ (s : Shared) (H : Hp) (C : Addr) (cl : List (Str × Addr)) (fp : List Addr), DTs (X.blk s H scope (compEnvC scope cl C X.env) fp) WF ifs ft)
    (hi1 : ∀ (s : Shared) (H : Hp) (C : Addr) (cl : List (Str × Addr)) (fp : List Addr), DI (X.blk s H scope (compEnvC scope cl C X.env) fp) WF tg1 iter1 fi1)
    (hg1 : ∀ (s : Shared) (H : Hp) (C : Addr) (cl : List (Str × Addr)) (fp : List Addr), DG (X.blk s H scope (compEnvC scope cl C X.env) fp) tg1 g1 gt1 tgs1)
    (ht1 : ∀ (s : Shared) (H : Hp) (C : Addr) (cl : List (Str × Addr)) (fp : List Addr), DTs (X.blk s H scope (compEnvC scope cl C X.env) fp) WF ifs1 ft1)
    (he : ∀ (s : Shared) (H : Hp) (C : Addr) (cl : List (Str × Addr)) (fp : List Addr), DE (X.blk s H scope (compEnvC scope cl C X.env) fp) WF elt fe)
    (hsw : swapsWith (.ListComp elt [⟨tg, iter, ifs, 0⟩, ⟨tg1, iter1, ifs1, 0⟩] scope pos) (some (.Name x py)) spos.line X.env = pure true) (hy : X.N[i]? = some x := by rfl) (hyl : X.env.scope.names.lookup x = some .local := by rfl) (hf : ∀ x, foldedSetIterable iter X.env x = pure x := by intro _; rfl) (hf1 : ∀ env x, foldedSetIterable iter1 env x = pure x := by intro _ _; rfl) :
    DS X W (.Assign [.Name x py] (.ListComp elt [⟨tg, iter, ifs, 0⟩, ⟨tg1, iter1, ifs1, 0⟩] scope pos) spos) (asgF i (lc2F fi gt ft fi1 gt1 ft1 fe (own.map (·.2)) vs1)) := by
  obtain ⟨wi, pi, si⟩ := hi.ex
  exact ⟨_, ps_setLc2 hc hN hy hyl hsw pi ok hv (fun s H C cl fp => (hg s H C cl fp).pg) (fun s H C cl fp => (ht s H C cl fp).can) (fun s H C cl fp => (hi1 s H C cl fp).can) (fun s H C cl fp => (hg1 s H C cl fp).pg) (fun s H C cl fp => (ht1 s H C cl fp).can) (fun s H C cl fp => (he s H C cl fp).can) hf hf1,
    snd_asg (snd_lc2 si (hg X.s_0 (fun _ => none) 0 [] []).sd hs snd_tI (hg1 X.s_0 (fun _ => none) 0 [] []).sd hs1)⟩
end
end DL
set_option Elab.async false
set_option linter.all false
set_option maxRecDepth 100000
set_option maxHeartbeats 4000000
namespace DL
open PySem PySem.Spec PyProof.Rows L2

/-! ### a, b, c = x, y, z of plain local names -/
def parE : List FE → EnvD → M (List Sl × EnvD)
  | [], env => M.ok ([], env)
  | f :: fs, env => M.bind (f env) fun p => match unal p.1 p.2 with
    | some r => M.bind (parE fs r.2) fun q => M.ok (r.1 :: q.1, q.2)
    | none => none
def putAll : List Nat → List Sl → EnvD → Option EnvD
  | [], [], env => some env
  | i :: is, s :: ss, env => match putS i s env with
    | some env2 => putAll is ss env2
    | none => none
  | _, _, _ => none
def parNF (is : List Nat) (fs : List FE) : FS := fun env => M.bind (parE fs env) fun p => match putAll is p.1 p.2 with
  | some env2 => M.ok (.nx env2)
  | none => none
/-- results, one of each; what is one's own stands apart -/
inductive RsL (K : PySem.W.Frag) (F H O : Hp) (env : EnvD) (σ : L2.St) : List Sl → List V → Prop
  | nil : RsL K F H O env σ [] []
  | cons {s : Sl} {v : V} {ss : List Sl} {vs : List V} : RsOk K F H O env σ s v → (∀ o a, s = .own o → v = .ref a → ∀ (k : Nat) (o' : Own), ss[k]? = some (.own o') → vs[k]? ≠ some (.ref a)) → RsL K F H O env σ ss vs → RsL K F H O env σ (s :: ss) (v :: vs)
section
variable {K : PySem.W.Frag} {mg : Str → Option Value} {W : WX} {G O F H : Hp} {P : Nat → Option Addr} {ts : List (Sl × V)} {env : EnvD} {σ : L2.St}
theorem putS_eq {i : Nat} {s : Sl} {env env2 : EnvD} (h : putS i s env = some env2) : env2 = env.set i (some s) ∧ ((∃ d, s = .val d) ∨ ∃ o, s = .own o) := by
  unfold putS at h
  cases s with
  | al _ => cases h
  | pen _ => cases h
  | val d =>
    dsimp only at h
    split at h
    · cases h
    · cases h; exact ⟨rfl, .inl ⟨d, rfl⟩⟩
    · cases h
  | own d =>
    dsimp only at h
    split at h
    · cases h
    · cases h; exact ⟨rfl, .inr ⟨d, rfl⟩⟩
    · cases h
/-- kept while another is stored -/
theorem RsOk.set {i : Nat} {s t : Sl} {v u : V} (S : SR K G O P [] env σ F H) (r : RsOk K F H O env σ s v) (hs : (∃ d, s = .val d) ∨ ∃ o, s = .own o) (ht : (∃ d, t = .val d) ∨ ∃ o, t = .own o)
    (hd : ∀ o o' a, t = .own o → s = .own o' → u = .ref a → v ≠ .ref a) : RsOk K F H O (env.set i (some t)) (σ.set i (some u)) s v := by
  rcases hs with ⟨d, rfl⟩ | ⟨o', rfl⟩
  · exact r
  · obtain ⟨a, rfl, z1, z2, z3, z4⟩ := r
    refine ⟨a, rfl, z1, z2, z3, fun k s' w1 w2 w3 => ?_⟩
    by_cases hik : i = k
    · subst hik
      by_cases hl : i < env.length
      · rw [List.getElem?_set_self hl] at w1
        cases w1
        rw [List.getElem?_set_self (by rw [← S.len]; exact hl)] at w3
        cases w3
        rcases ht with ⟨d, rfl⟩ | ⟨o, rfl⟩
        · exact w2
        · exact hd o o' a rfl rfl rfl rfl
      · rw [List.getElem?_eq_none (by simpa using hl)] at w1
        cases w1
    · rw [List.getElem?_set_ne hik] at w1 w3
      exact z4 k s' w1 w2 w3
theorem RsL.set {i : Nat} {t : Sl} {u : V} (S : SR K G O P [] env σ F H) (ht : (∃ d, t = .val d) ∨ ∃ o, t = .own o) : ∀ {ss : List Sl} {vs : List V}, RsL K F H O env σ ss vs → (∀ s ∈ ss, (∃ d, s = .val d) ∨ ∃ o, s = .own o) →
    (∀ o a, t = .own o → u = .ref a → ∀ (k : Nat) (o' : Own), ss[k]? = some (.own o') → vs[k]? ≠ some (.ref a)) → RsL K F H O (env.set i (some t)) (σ.set i (some u)) ss vs
  | _, _, .nil, _, _ => .nil
  | _, _, .cons (s := s) (v := v) r d rest, hv, hd => by
    refine .cons (r.set S (hv s List.mem_cons_self) ht fun o o' a e1 e2 e3 e4 => hd o a e1 e3 0 o' (by rw [e2]; rfl) (by rw [e4]; rfl)) d (rest.set S ht (fun x hx => hv x (List.mem_cons_of_mem _ hx)) fun o a e1 e2 k o' e3 => ?_)
    have := hd o a e1 e2 (k + 1) o' (by simpa using e3)
    simpa using this
/-- all are stored -/
theorem put_all : ∀ {is : List Nat} {ss : List Sl} {vs : List V} {env env2 : EnvD} {σ : L2.St}, SR K G O P [] env σ F H → RsL K F H O env σ ss vs → (∀ s ∈ ss, (∃ d, s = .val d) ∨ ∃ o, s = .own o) → putAll is ss env = some env2 →
    SR K G O P [] env2 ((is.zip vs).foldl (fun τ p => τ.set p.1 (some p.2)) σ) F H
  | [], [], vs, env, env2, σ, S, r, _, e => by
    cases e
    cases r
    exact S
  | i :: is, s :: ss, _, env, env2, σ, S, .cons (v := v) (vs := vs) r d rest, hv, e => by
    unfold putAll at e
    cases q : putS i s env with
    | none => rw [q] at e; cases e
    | some env3 =>
      rw [q] at e
      dsimp only at e
      obtain ⟨e3, hsv⟩ := putS_eq q
      have S3 := S.put r q
      have hv' : ∀ x ∈ ss, (∃ d, x = .val d) ∨ ∃ o, x = .own o := fun x hx => hv x (List.mem_cons_of_mem _ hx)
      have rest' := rest.set (i := i) (u := v) S hsv hv' d
      rw [← e3] at rest'
      exact put_all (is := is) (ss := ss) (vs := vs) (σ := σ.set i (some v)) S3 rest' hv' e
  | [], _ :: _, _, _, _, _, _, _, _, e => by cases e
  | _ :: _, [], _, _, _, _, _, _, _, e => by cases e
theorem unal_okT {s s2 : Sl} {v : V} {env2 : EnvD} (S : SR K G O P ts env σ F H) (r : RsOk K F H O env σ s v) (e : unal s env = some (s2, env2)) : ∃ F2, Same F F2 ∧ SR K G O P ts env2 σ F2 H ∧ RsOk K F2 H O env2 σ s2 v ∧ ((∃ d, s2 = .val d) ∨ ∃ o, s2 = .own o) := by
  unfold unal at e
  cases s with
  | val d => cases e; exact ⟨F, Same.refl _, S, r, .inl ⟨d, rfl⟩⟩
  | own o => cases e; exact ⟨F, Same.refl _, S, r, .inr ⟨o, rfl⟩⟩
  | pen o => cases e
  | al i =>
    dsimp only at e
    cases q : frz1 (.al i) env with
    | none => rw [q] at e; cases e
    | some pr =>
      rw [q] at e
      cases e
      obtain ⟨F2, m, S2, r2⟩ := S.frz1 (s := .al i) (v := v) r q
      exact ⟨F2, m, S2, r2, .inl ⟨_, rfl⟩⟩
/-- readings of a list of expressions -/
inductive SndL (K : PySem.W.Frag) (mg : Str → Option Value) (W : WX) : TA → List FE → Prop
  | nil {t : TA} : (∀ σ H Q, Q [] H → t σ H Q) → SndL K mg W t []
  | cons {t tr : TA} {te : TE} {f : FE} {fs : List FE} : SndE K mg W te f → SndL K mg W tr fs → (∀ σ H Q, te σ H (fun x H1 => tr σ H1 fun xs H2 => Q (x :: xs) H2) → t σ H Q) → SndL K mg W t (f :: fs)
theorem RsL.at {ss : List Sl} {vs : List V} (h : RsL K F H O env σ ss vs) : ∀ {k : Nat} {s : Sl}, ss[k]? = some s → ∃ v, vs[k]? = some v ∧ RsOk K F H O env σ s v := by
  induction h with
  | nil => intro k s e; simp at e
  | cons r d rest ih =>
    intro k s e
    cases k with
    | zero => simp at e; subst e; exact ⟨_, rfl, r⟩
    | succ k => simpa using ih (k := k) (by simpa using e)
theorem RsL.unhide {a : Addr} {u : HO} (nO : O a = none) : ∀ {ss : List Sl} {vs : List V}, RsL K F H (upd O a u) env σ ss vs → RsL K F H O env σ ss vs
  | _, _, .nil => .nil
  | _, _, .cons (s := s) (v := v) r d rest => by
    refine .cons ?_ d (rest.unhide nO)
    cases s with
    | val d => exact r
    | pen o => exact r
    | al i => exact r
    | own o =>
      obtain ⟨b, rfl, x1, x2, x3, x4⟩ := r
      have ne : b ≠ a := fun z => by rw [z, upd_same] at x2; cases x2
      rw [upd_ne ne] at x2
      exact ⟨b, rfl, x1, x2, x3, x4⟩
theorem parE_ok {t : TA} {fs : List FE} (h : SndL K mg W t fs) : ∀ {G O F H : Hp} {P : Nat → Option Addr} {ts : List (Sl × V)} {env : EnvD} {R : List V → Hp → Prop}, SR K G O P ts env σ F H → (match parE fs env with
      | none => False
      | some (.err c env') => PErr K mg W G O P σ c env'
      | some (.ok (ss, env')) => ∀ vs F' H', SR K G O P ts env' σ F' H' → RsL K F' H' O env' σ ss vs → (∀ s ∈ ss, (∃ d, s = .val d) ∨ ∃ o, s = .own o) → ss.length = vs.length → R vs H') → t σ H R := by
  induction h with
  | nil ht =>
    intro G O F H P ts env R S hp
    exact ht σ H R (hp [] F H S .nil (fun s hs => absurd hs (by simp)) rfl)
  | @cons t tr te f fs se _ ht ih =>
    intro G O F H P ts env R S hp
    refine ht σ H R (se G O P ts env σ F H _ S ?_)
    unfold parE at hp
    cases q : f env with
    | none => rw [q] at hp; exact hp
    | some o =>
      rw [q] at hp
      cases o with
      | err c env' => exact hp
      | ok pr =>
        obtain ⟨s0, env0⟩ := pr
        intro v F0 H0 S0 r0
        cases q1 : unal s0 env0 with
        | none => simp only [M.bind, q1] at hp
        | some pr1 =>
          obtain ⟨s1, env1⟩ := pr1
          obtain ⟨F1, m1, S1, r1, h1⟩ := unal_okT S0 r0 q1
          simp only [M.bind, q1] at hp
          rcases h1 with ⟨d, rfl⟩ | ⟨o, rfl⟩
          · have S2 : SR K F1 O P ((.val d, v) :: ts) env1 σ F1 H0 := S1.base.push (s := .val d) r1
            refine ih S2 ?_
            cases q2 : parE fs env1 with
            | none => rw [q2] at hp; exact hp
            | some ot =>
              rw [q2] at hp
              cases ot with
              | err c env3 => exact fun C F3 H3 hc S3 => hp C F3 H3 hc (S3.rebase S1.gf)
              | ok p2 =>
                intro vs F' H' S' rl hv hl
                refine hp (v :: vs) F' H' (S'.pop.rebase S1.gf) (.cons ?_ (fun o a z => by cases z) rl) (fun x hx => ?_) (by simp [hl])
                · exact S'.tmp (.val d, v) (by simp)
                · rcases List.mem_cons.mp hx with rfl | hx
                  · exact .inl ⟨d, rfl⟩
                  · exact hv x hx
          · obtain ⟨a1, rfl, z1, z2, z3, z4⟩ := r1
            obtain ⟨u, hu, su⟩ := z3.soft
            have S2 : SR K F1 (upd O a1 u) P ts env1 σ F1 H0 := S1.base.hide z1 z2 hu su.nt z4
            refine ih S2 ?_
            cases q2 : parE fs env1 with
            | none => rw [q2] at hp; exact hp
            | some ot =>
              rw [q2] at hp
              cases ot with
              | err c env3 => exact fun C F3 H3 hc S3 => hp C F3 H3 hc ((S3.unhide z2 su.nt).1.rebase S1.gf)
              | ok p2 =>
                intro vs F' H' S' rl hv hl
                obtain ⟨S5, y1, y2, y3⟩ := S'.unhide z2 su.nt
                refine hp (.ref a1 :: vs) F' H' (S5.rebase S1.gf) (.cons ⟨a1, rfl, y1, z2, z3.mono S'.gf (by rw [y2, hu]), y3⟩ (fun o2 a e1 e2 k o' e3 e4 => ?_) (rl.unhide z2)) (fun x hx => ?_) (by simp [hl])
                · cases e2
                  obtain ⟨w, g1, b, g2, g3, g4, g5⟩ := rl.at e3
                  rw [g1] at e4
                  cases e4
                  cases g2
                  rw [upd_same] at g4
                  cases g4
                · rcases List.mem_cons.mp hx with rfl | hx
                  · exact .inr ⟨o, rfl⟩
                  · exact hv x hx
end
section
variable {X : Cx} {W : WX} {a b c : Expr} {fa fb fc : FE} {pos : Pos} {x y z : Str}
theorem parE_len : ∀ {fs : List FE} {env env' : EnvD} {ss : List Sl}, parE fs env = some (.ok (ss, env')) → ss.length = fs.length
  | [], env, env', ss, h => by cases h; rfl
  | f :: fs, env, env', ss, h => by
    unfold parE at h
    cases q : f env with
    | none => rw [q] at h; cases h
    | some o =>
      rw [q] at h
      cases o with
      | err c e => cases h
      | ok p =>
        simp only [M.bind] at h
        cases q1 : unal p.1 p.2 with
        | none => rw [q1] at h; cases h
        | some r =>
          rw [q1] at h
          dsimp only at h
          cases q2 : parE fs r.2 with
          | none => rw [q2] at h; cases h
          | some o2 =>
            rw [q2] at h
            cases o2 with
            | err c e => cases h
            | ok p2 =>
              cases h
              simp [parE_len (ss := p2.1) (env' := p2.2) q2]
theorem ds_par3 (i j l : Nat) {px py pz pt : Pos} {kt k2 : Nat} {pt2 : Pos} (hc : X.calm = true) (hN : X.N.Nodup) (ha : DE X W a fa) (hb : DE X W b fb) (hcc : DE X W c fc) (hij : i ≠ j := by decide) (hil : i ≠ l := by decide) (hjl : j ≠ l := by decide) (hi : X.N[i]? = some x := by rfl) (hj : X.N[j]? = some y := by rfl) (hl : X.N[l]? = some z := by rfl)
    (hx : X.env.scope.names.lookup x = some .local := by rfl) (hy : X.env.scope.names.lookup y = some .local := by rfl) (hz : X.env.scope.names.lookup z = some .local := by rfl)
    (hw : swappedStores [.Tuple [.Name x px, .Name y py, .Name z pz] kt pt] (.Tuple [a, b, c] k2 pt2) X.env = pure (some [x, y, z]) := by rfl)
    (hs : swapsWithSole [.Tuple [.Name x px, .Name y py, .Name z pz] kt pt] (.Tuple [a, b, c] k2 pt2) pos.line X.env = pure false := by rfl) (he : starEach [a, b, c] X.env = (false, eval a X.env) :: starEach [b, c] X.env := by rfl) (he2 : starEach [b, c] X.env = (false, eval b X.env) :: starEach [c] X.env := by rfl) (he3 : starEach [c] X.env = (false, eval c X.env) :: starEach [] X.env := by rfl) :
    DS X W (.Assign [.Tuple [.Name x px, .Name y py, .Name z pz] kt pt] (.Tuple [a, b, c] k2 pt2) pos) (parNF [i, j, l] [fa, fb, fc]) := by
  obtain ⟨ta, pa, sa⟩ := ha.ex
  obtain ⟨tb, pb, sb⟩ := hb.ex
  obtain ⟨tc, pc, sc⟩ := hcc.ex
  refine ⟨_, ps_par3 hc hN hi hj hl hij hil hjl hx hy hz (pa_cons pa (pa_cons pb (pa_cons pc pa_nil he3) he2) he) hw hs, fun G O P env σ F H D S hp => ?_⟩
  show tCons ta (tCons tb (tCons tc tNil)) σ H (fun vs H1 => ∃ u v w, vs = [u, v, w] ∧ D.nx (((σ.set i (some u)).set j (some v)).set l (some w)) H1)
  have L0 : SndL X.K X.mg W tNil [] := .nil fun σ H Q q => q
  have L1 : SndL X.K X.mg W (tCons tc tNil) [fc] := .cons sc L0 fun σ H Q q => q
  have L2 : SndL X.K X.mg W (tCons tb (tCons tc tNil)) [fb, fc] := .cons sb L1 fun σ H Q q => q
  have L3 : SndL X.K X.mg W (tCons ta (tCons tb (tCons tc tNil))) [fa, fb, fc] := .cons sa L2 fun σ H Q q => q
  refine parE_ok L3 S ?_
  unfold parNF at hp
  cases q : parE [fa, fb, fc] env with
  | none => rw [q] at hp; exact hp
  | some o =>
    rw [q] at hp
    cases o with
    | err c env' => exact fun C F3 H3 hc S3 => hp C σ F3 H3 hc S3
    | ok p =>
      intro vs F' H' S' rl hv hlen
      have hp : PostS X.K X.mg W G O P D (match putAll [i, j, l] p.1 p.2 with
        | some env2 => M.ok (.nx env2)
        | none => none) := hp
      have h3 : p.1.length = 3 := parE_len (env' := p.2) q
      cases q2 : putAll [i, j, l] p.1 p.2 with
      | none => rw [q2] at hp; exact hp.elim
      | some env2 =>
        rw [q2] at hp
        have S2 := put_all S' rl hv q2
        match vs, (hlen.symm.trans h3) with
        | [u, v, w], _ => exact ⟨u, v, w, rfl, hp _ F' H' S2⟩
end
end DL
set_option Elab.async false
set_option linter.all false
set_option maxRecDepth 100000
set_option maxHeartbeats 4000000
namespace DL
open PySem PySem.Spec PyProof.Rows L2 He

/-! ### f(e, .., k = v) -/
def kG {α : Type} (n : Nat) (us ws : List α) : List α := if ws.length = n then us ++ ws else []
structure CalleeK (gd : Bool) (P : Program) (w : World) (K : PySem.W.Frag) (mg : Str → Option Value) (base : Heap) (k : Nat) (x : Str) (ps ks : List Str) (m : MF) : Prop where
  ex : ∃ f fd, FnG gd P w K mg base (L2.CX P w) k f fd ps (spD K mg m) ∧ mg x = some (.ref f) ∧ PySem.W.keepIn K (.ref f) = true ∧ KBinds K fd ps ks (kG ks.length) (kG ks.length)
structure HasK (K : PySem.W.Frag) (mg : Str → Option Value) (x : Str) (st : Stmt) (ps ks : List Str) : Prop where
  ex : ∃ f fd, Fun K x x st f fd ∧ mg x = some (.ref f) ∧ KBinds K fd ps ks (kG ks.length) (kG ks.length)
structure DK (X : Cx) (W : WX) (kws : List Keyword) (f : FA) : Prop where
  ex : ∃ t, PK X kws t ∧ SndA X.K X.mg W t f
def callK (n : Nat) (m : MF) (fA fK : FA) : FE := fun env => M.bind (fA env) fun p => M.bind (fK p.2) fun q => if q.1.length = n then (match frzAll (p.1 ++ q.1) q.2 with
  | some r => callR1 (m (r.1.map .val)) r.2
  | none => none) else none
section
variable {gd : Bool} {X : Cx} {W : WX} {CX : CXT} {k : Nat} {f : Addr} {fd : FuncData} {ps ks : List Str} {sp : Sp} {E : L2.St → XK} {x : Str} {p pos kpos : Pos} {e : Expr} {es : List Expr} {kws : List Keyword} {t tk : TA} {fA fK : FA} {fe : FE} {m : MF} {nm : Option Str}
theorem dk_one (h : DE X W e fe) : DK X W [⟨nm, e, kpos⟩] (aCons fe aNil) := by
  obtain ⟨t, pe, se⟩ := h.ex
  refine ⟨_, pk_cons pe pk_nil, fun G O P ts env σ F H Q S hp => ?_⟩
  refine se G O P ts env σ F H _ S ?_
  unfold aCons aNil at hp
  cases q : fe env with
  | none => rw [q] at hp; exact hp
  | some o =>
    rw [q] at hp
    cases o with
    | err c env' => exact hp
    | ok p =>
      intro v F' H' S' r
      obtain ⟨F2, _, S2⟩ := S'.keep r
      exact hp [v] F2 H' rfl (S2.sub fun z hz => by simpa using hz)
theorem pe_callKG {g : List Value → List Value → List Value} {gV : List V → List V → List V} (F : FnG gd X.prog X.w X.K X.mg X.base CX k f fd ps sp) (hr : RG gd k X.A) (hg : Gl X x) (hm : X.mg x = some (.ref f)) (hk : PySem.W.keepIn X.K (.ref f) = true) (hb : KBinds X.K fd ps ks g gV) (hx : ∀ σ, PassesAt CX X σ (E σ))
    (ha : PA X (e :: es) t) (hkw : PK X kws tk) (hall : (backToKw pos (keywordEach kws X.env)).all (·.1.isSome) = true) (hks : (backToKw pos (keywordEach kws X.env)).filterMap (·.1) = ks)
    (hdb : (x == ("__debug__" : Str)) = false) (he : starEach (e :: es) X.env = (false, eval e X.env) :: starEach es X.env)
    (hpl : ((backTo pos (starEach (e :: es) X.env)).any (·.1) || (backToKw pos (keywordEach kws X.env)).any (·.1.isNone)) = false) :
    PE X (.Call (.Name x p) (e :: es) kws pos) (fun σ H Q => t σ H fun vs H1 => tk σ H1 fun zs H2 => sp (gV vs zs) H2 Q (E σ)) := by
  refine ⟨fun pins s σ H Q I q => wpAny_Call_Name_kw (ld_glob I hg hm ?_ hdb)⟩
  refine PySem.W.callWith_KW (h₀ := X.base) I.ok.mod.kin hk hall (thn (ha.run pos pins s σ H _ I q) fun us s1 ⟨vs, H1, I1, r, q1⟩ => ?_) hpl he
  refine thn (hkw.run pos pins s1 σ H1 _ I1 q1) fun ws s2 ⟨zs, H2, I2, rz, q2⟩ => ⟨I2.kIn, ?_⟩
  rw [hks]
  have rr := hb.rel r rz
  have hl : (g us ws).length = ps.length := by rw [← rr.length]; exact F.len _ _ _ _ q2
  refine wpAny_call (codeAny_mono (F.run X.A X.stack s2 H2 ⟨us, ks.zip ws⟩ (g us ws) (gV vs zs) Q (E σ) hr I2.env0 (hb.to s2 us ws I2.kIn hl) rr q2) fun r s' hq => ?_)
  match r, hq with
  | .error e, hq => exact hx σ pins H2 s2 e s' I2 hq
  | .ok (.ret u), hq => exact I2.after hq
  | .ok .next, hq => exact False.elim hq
  | .ok .brk, hq => exact False.elim hq
  | .ok .cont, hq => exact False.elim hq
theorem de_callK {gd' : Bool} {j : Nat} (C : CalleeK gd' X.prog X.w X.K X.mg X.base k x ps ks m) (hr : RG gd j X.A) (hj : k ≤ j) (tk : Takes X W) (hg : Gl X x) (ha : DA X W (e :: es) fA) (hkw : DK X W kws fK)
    (hall : (backToKw pos (keywordEach kws X.env)).all (·.1.isSome) = true := by rfl) (hks : (backToKw pos (keywordEach kws X.env)).filterMap (·.1) = ks := by rfl)
    (hdb : (x == ("__debug__" : Str)) = false := by decide) (he : starEach (e :: es) X.env = (false, eval e X.env) :: starEach es X.env := by rfl)
    (hpl : ((backTo pos (starEach (e :: es) X.env)).any (·.1) || (backToKw pos (keywordEach kws X.env)).any (·.1.isNone)) = false := by rfl) (hle : (!gd' || gd) = true := by rfl) :
    DE X W (.Call (.Name x p) (e :: es) kws pos) (callK ks.length m fA fK) := by
  obtain ⟨f, fd, h1, h2, h3, h4⟩ := C.ex
  obtain ⟨ta, pa, sa⟩ := ha.ex
  obtain ⟨tk', pk, sk⟩ := hkw.ex
  refine ⟨_, pe_callKG h1 ((hr.mono hj).le hle) hg h2 h3 h4 (fun σ => passAt tk σ) pa pk hall hks hdb he hpl, fun G O P ts env σ F H Q S hp => ?_⟩
  refine sa.thn (k := fun ss env' => M.bind (fK env') fun q => if q.1.length = ks.length then (match frzAll (ss ++ q.1) q.2 with
    | some r => callR1 (m (r.1.map .val)) r.2
    | none => none) else none) S hp fun ss env' vs F' H' hl S' hp' => ?_
  refine sk.thn (k := fun s2 env2 => if s2.length = ks.length then (match frzAll (ss ++ s2) env2 with
    | some r => callR1 (m (r.1.map .val)) r.2
    | none => none) else none) S' hp' fun s2 env2 zs F2 H2 hl2 S2 hp2 => ?_
  split at hp2
  case isFalse => exact hp2.elim
  rename_i hlen
  rw [show kG ks.length vs zs = vs ++ zs from if_pos (by rw [← hl2]; exact hlen)]
  cases q0 : frzAll (ss ++ s2) env2 with
  | none => rw [q0] at hp2; exact hp2.elim
  | some r0 =>
    obtain ⟨ds, env3⟩ := r0
    rw [q0] at hp2
    dsimp only at hp2
    obtain ⟨F3, m3, S3, r3⟩ := SR.frzAll (vs := vs ++ zs) S2 (fun p hp => by
      rw [List.zip_append hl] at hp
      rcases List.mem_append.mp hp with hp | hp
      · exact List.mem_append_right _ (List.mem_append_left _ hp)
      · exact List.mem_append_left _ hp) (by simp [hl, hl2]) q0
    have S4 : SR X.K G O P ts env3 σ F3 H2 := S3.sub fun p hp => List.mem_append_right _ (List.mem_append_right _ hp)
    refine ⟨ds.map .val, fun _ => none, F3, ownO env3 σ O H2 (fun _ => False), fun s hs => ?_, ?_, ?_⟩
    · obtain ⟨d, _, rfl⟩ := List.mem_map.mp hs
      trivial
    · exact vals_sr (O := ownO env3 σ O H2 (fun _ => False)) S4.fh (ownO_H S4) S4.nt (ownO_F S4) r3
    · cases q : m (ds.map .val) with
      | none => rw [q] at hp2; exact hp2.elim
      | some o =>
        rw [q] at hp2
        cases o with
        | err c outs =>
          intro C F4 H4 hc S5
          exact hp2 C F4 H4 hc ((S4.sub (ts' := []) (fun p hp => absurd hp (by simp))).back S5.gf S5.fh S5.oh S5.dj (fun _ _ _ _ _ _ z => z) S5.nt)
        | ok pr =>
          intro v F4 H4 S5 r5
          obtain ⟨z, e0, q2⟩ := fin_ok hp2
          exact q2 v F4 H4 (S4.back S5.gf S5.fh S5.oh S5.dj (fun _ _ _ _ _ _ z => z) S5.nt) (rs_back S4 S5.oh r5 e0 fun _ _ _ _ _ _ z => z.elim)
end
section
variable {P : Program} {w : World} {K : PySem.W.Frag} {mg : Str → Option Value} {base : Heap}
theorem calleeK_ok {gd : Bool} {x : Str} {st : Stmt} {N ps ks : List Str} {k : Nat} {fS : FS} (h : HasK K mg x st ps ks) (S : FnScope N ps (defScope st))
    (hb : ∀ (f : Addr) (cdv : Value) (A : Around) (outer : List Env) (s : Shared) (H : Hp) (E : XK), RG gd k (A.deeper (envOfC x (defScope st) s.heap.objs.size f cdv)) → mg x = some (.ref f) → CdOf K f cdv →
      DSs (cxOf (L2.CX P w) P w K mg base N x (defScope st) f cdv A outer s H E) (WD E) (defBody st) fS) : CalleeK gd P w K mg base (k + 1) x ps ks (bodyF ps.length N.length fS) := by
  obtain ⟨f, fd, h1, h2, h3⟩ := h.ex
  exact ⟨f, fd, def_ok h1 S fun cdv A outer s H E hr hc => hb f cdv A outer s H E hr h2 hc, h2, h1.kp, h3⟩
end
section
variable {env : EnvD} {m : MF} {fA fK : FA}
@[simp] theorem s_callK {n : Nat} : callK n m fA fK env = M.bind (fA env) fun p => M.bind (fK p.2) fun q => if q.1.length = n then (match frzAll (p.1 ++ q.1) q.2 with
  | some r => callR1 (m (r.1.map .val)) r.2
  | none => none) else none := rfl
end
theorem kG_rel {n : Nat} {vs : List V} {us : List Value} {zs : List V} {ws : List Value} (r : Vals vs us) (rz : Vals zs ws) : Vals (kG n vs zs) (kG n us ws) := by
  unfold kG
  rw [rz.length]
  split
  · exact r.append rz
  · exact .nil
/-- keyword-only parameters ks behind the others, all of them given -/
theorem hasK_of {K : PySem.W.Frag} {h : Heap} {mg : Str → Option Value} (X : K.In h) (G : h.Ns mainGlobals mg) {fa : List Fa} {fn : List DefD} (c : SaysD fa fn K) {x : Str} {st : Stmt} {ps ks : List Str} (i j n : Nat) (hi : fn[i]? = some (defD x st)) (hj : fa[j]? = some (.glo x)) (hps : ps.length = n + ks.length) (hn : 0 < n)
    (hb : ∀ (kV doc pm : Value) (an : Option Addr) (cdv ct : Value) (us ws : List Value), us.length = n → ws.length = ks.length → bindArgs (PySem.W.fnOf x x (defArgs st) (defBody st) (defScope st) .none kV doc pm an cdv ct) ⟨us, ks.zip ws⟩ = pure (ps.zip (us ++ ws))) : HasK K mg x st ps ks := by
  obtain ⟨fd, F⟩ := c.def_ i hi
  have Fu := fun_of F
  obtain ⟨oc, od, dV, kV, doc, pm, an, cdv, ct, osl, rfl, lk, hcd, dv, kw⟩ := F.ex
  have e : dV = .none := by
    rcases dv with ⟨_, rfl⟩ | ⟨z, _⟩
    · rfl
    · exact absurd rfl z
  subst e
  refine ⟨_, _, Fu, glo_ok X G (c.fact j hj), ⟨fun s us ws _ hl => ?_, fun r rz => kG_rel r rz⟩⟩
  unfold kG at hl ⊢
  split at hl
  · rename_i hw
    rw [if_pos hw]
    refine BindsTo.of_eq (hb kV doc pm an cdv ct us ws ?_ hw)
    rw [List.length_append, hps, hw] at hl
    omega
  · rw [hps] at hl
    simp at hl
    omega
end DL
set_option Elab.async false
set_option linter.all false
set_option maxRecDepth 100000
set_option maxHeartbeats 4000000
namespace DL
open PySem PySem.Spec PyProof.Rows L2

/-! ### d == {} -/
def rEqE : R2 := fun x y H Q => ∃ a b ks, x = .ref a ∧ y = .ref b ∧ H a = some (.dK ks) ∧ H b = some (.dK []) ∧ Q (.bl (ks.length == 0)) H
theorem op_eqE {X : Cx} (hu : X.A.units < cLine) : OpR X (compareOp .Eq) rEqE := by
  intro pins s σ H x y v u Q I rx ry h
  obtain ⟨a, b, ks, rfl, rfl, ea, eb, q⟩ := h
  obtain rfl : v = Value.ref a := rx
  obtain rfl : u = Value.ref b := ry
  obtain ⟨_, ya, va, ra, da⟩ := dk_of I.hok ea
  obtain ⟨_, yb, vb, rb, db⟩ := dk_of I.hok eb
  have hb : vb = [] := by
    cases vb with
    | nil => rfl
    | cons p r => cases rb
  subst hb
  refine PySem.W.keq_eq (knd := mixKind X.prog X.w) (r := true) ya yb da db hu (fun hl => ?_) (fin_bl I q ?_)
  · have : va = [] := List.eq_nil_of_length_eq_zero hl
    subst this
    exact .nil
  · rw [ra.length]
    simp
def emptyD (a : PyData) : Option Sl := match a with
  | .dict es => vB (es.length == 0)
  | _ => none
def keysOf : List (PyData × PyData) → Option (List (Key × PyData))
  | [] => some []
  | p :: r => match keyOf p.1 with
    | some k => match keysOf r with
      | some l => some ((k, p.2) :: l)
      | none => none
    | none => none
theorem keysOf_ok {K : PySem.W.Frag} {F : Hp} : ∀ {ys : List (Key × V)} {es : List (PyData × PyData)} {kvs : List (Key × PyData)}, RpK K F ys es → keysOf es = some kvs → RpV K F ys kvs
  | _, _, kvs, .nil, e => by cases e; exact .nil
  | _, _, kvs, .cons h r, e => by
    unfold keysOf at e
    dsimp only at e
    rw [keyOf_kD] at e
    dsimp only at e
    split at e
    · rename_i l q
      cases e
      exact .cons h (keysOf_ok r q)
    · cases e
section
variable {X : Cx} {W : WX} {a b k v : Expr} {pos p2 : Pos} {fa fb fk fv : FE}
theorem snd_eqE {t : TE} (sa : SndE X.K X.mg W t fa) : SndE X.K X.mg W (tOp rEqE t tDNewK) (e1 emptyD fa) := by
  intro G O P ts env σ F H Q S hp
  refine sa.thn (k := fun s env' => fin (g1 emptyD (rd s env')) env') S hp fun s env' v F' H' S' hp' => ?_
  obtain ⟨z, e0, q⟩ := fin_ok hp'
  obtain ⟨d, e1, e2⟩ := g1_ok e0
  intro p np
  cases d with
  | dict es =>
    cases e2
    obtain ⟨ad, ys, rfl, h1, h2⟩ := S'.sh (s := s) (v := v) (by simp) e1
    have ne : ad ≠ p := fun z => by rw [z, np] at h1; cases h1
    refine ⟨ad, p, ys, rfl, rfl, by rw [upd_ne ne]; exact h1, upd_same, ?_⟩
    rw [h2.length]
    exact q _ F' _ (S'.pop.newH (u := .dK []) np) (.bl _)
  | _ => cases e2
theorem de_eqE (hu : X.A.units < cLine) (ha : DE X W a fa) (hm : behindInMarks .Eq (.Dict [] [] p2) = false := by first | rfl | exact nomark rfl rfl) : DE X W (.Compare a [.Eq] [.Dict [] [] p2] pos) (e1 emptyD fa) := by
  obtain ⟨ta, pa, sa⟩ := ha.ex
  exact ⟨_, pe_cmpR (op_eqE hu) pa pe_dnewK hm, snd_eqE sa⟩
theorem dt_eqE (hu : X.A.units < cLine) (ha : DE X W a fa) (hm : behindInMarks .Eq (.Dict [] [] p2) = false := by first | rfl | exact nomark rfl rfl) : DT X W (.Compare a [.Eq] [.Dict [] [] p2] pos) (eT (e1 emptyD fa)) := by
  obtain ⟨ta, pa, sa⟩ := ha.ex
  exact ⟨_, pt_cmpR (op_eqE hu) pa pe_dnewK hm, snd_test (snd_eqE sa)⟩
/-! ### {k: v} -/
def eDOne (fk fv : FE) : FE := fun env => M.bind (fk env) fun p => match asK p.1 with
  | some ky => M.bind (fv p.2) fun q => match frz1 (fz q.1) q.2 with
    | some z => M.ok (.own (.dct [(ky, z.1)]), z.2)
    | none => none
  | none => none
theorem de_done (hk : DE X W k fk) (hv : DE X W v fv) : DE X W (.Dict [some k] [v] pos) (eDOne fk fv) := by
  obtain ⟨tk, pk, sk⟩ := hk.ex
  obtain ⟨tv, pv, sv⟩ := hv.ex
  refine ⟨_, pe_disp (pps_cons pk pv pps_nil) rfl rfl (by simp) (by simp), fun G O P ts env σ F H Q S hp p np => ?_⟩
  unfold eDOne at hp
  have S0 : SR X.K F (upd O p (.dK [])) P ts env σ F (upd H p (.dK [])) := (S.base.newH (u := .dK []) np).hide (S.ofree np).1 (S.ofree np).2 upd_same (fun _ z => by cases z) fun i s' e w => S.fresh np e w
  refine sk F (upd O p (.dK [])) P ts env σ F _ _ S0 ?_
  cases q : fk env with
  | none => rw [q] at hp; exact hp.elim
  | some o =>
    rw [q] at hp
    cases o with
    | err c env' => exact fun C F3 H3 hc S3 => hp C F3 H3 hc ((S3.unhide (S.ofree np).2 (fun _ z => by cases z)).1.rebase S.gf)
    | ok pr =>
      obtain ⟨s1, env1⟩ := pr
      intro kv F1 H1 S1 r1
      have hp : PostE X.K X.mg W G O P ts σ Q (match asK s1 with
        | some ky => M.bind (fv env1) fun q => match frz1 (fz q.1) q.2 with
          | some z => M.ok (.own (.dct [(ky, z.1)]), z.2)
          | none => none
        | none => none) := hp
      cases q1 : asK s1 with
      | none => rw [q1] at hp; exact hp.elim
      | some ky =>
        rw [q1] at hp
        have ek : kv = kV ky := by
          unfold asK at q1
          split at q1
          · exact kV_key q1 r1
          · cases q1
        subst ek
        dsimp only at hp
        refine sv F1 (upd O p (.dK [])) P ts env1 σ F1 _ _ S1.base ?_
        cases q2 : fv env1 with
        | none => rw [q2] at hp; exact hp.elim
        | some o2 =>
          rw [q2] at hp
          cases o2 with
          | err c env' => exact fun C F3 H3 hc S3 => hp C F3 H3 hc ((S3.unhide (S.ofree np).2 (fun _ z => by cases z)).1.rebase (S.gf.trans S1.gf))
          | ok p2 =>
            obtain ⟨s2, env2⟩ := p2
            intro v F2 H2 S2 r2
            have hp : PostE X.K X.mg W G O P ts σ Q (match frz1 (fz s2) env2 with
              | some z => M.ok (.own (.dct [(ky, z.1)]), z.2)
              | none => none) := hp
            obtain ⟨F3, m3, S3⟩ := S2.keep r2
            cases q3 : frz1 (fz s2) env2 with
            | none => rw [q3] at hp; exact hp.elim
            | some z =>
              obtain ⟨d, env3⟩ := z
              rw [q3] at hp
              obtain ⟨F4, m4, S4, r4⟩ := S3.frz1 (S3.tmp (fz s2, v) (by simp)) q3
              have e0 : H2 p = some (.dK []) := S4.oh.val p _ upd_same
              obtain ⟨S5, nF, eD, ns⟩ := (S4.pop.rehide (u' := .dK [(ky, v)]) trivial trivial).unhide (S.ofree np).2 (fun _ z => by cases z)
              exact ⟨e0, [(ky, v)], rfl, by simp, hp _ F4 _ (S5.rebase (S.gf.trans S1.gf)) ⟨p, rfl, nF, (S.ofree np).2, ⟨[(ky, v)], eD, .cons r4 .nil⟩, ns⟩⟩
/-! ### dict(list(d.items())) -/
def eDCopy (fa : FE) : FE := fun env => M.bind (fa env) fun p => match rd (fz p.1) p.2 with
  | some (.dict es) => match keysOf es with
    | some kvs => M.ok (.own (.dct (mergeD [] kvs)), p.2)
    | none => none
  | _ => none
theorem paired_imp {α β : Type} {R R' : α → β → Prop} (f : ∀ a b, R a b → R' a b) : ∀ {as : List α} {bs : List β}, Paired R as bs → Paired R' as bs
  | _, _, .nil => .nil
  | _, _, .cons h r => .cons (f _ _ h) (paired_imp f r)
theorem snd_dcopy {t : TE} (sa : SndE X.K X.mg W t fa) : SndE X.K X.mg W (tCB (fun xs H Q => ∃ (a : Addr) (ps : List Addr) (kvs : List (Key × V)), xs = [.ref a] ∧ SqL X.K H a (ps.map V.ref) ∧ Paired (fun p kv => SqT X.K H p [kV kv.1, kv.2]) ps kvs ∧
    ∀ p, H p = none → Q (.ref p) (upd H p (.dK (mergeK [] kvs)))) (tCons (LiI.tListItems t) tNil)) (eDCopy fa) := by
  intro G O P ts env σ F H Q S hp
  refine sa.thn (k := fun s env' => match rd s env' with
    | some (.dict es) => match keysOf es with
      | some kvs => M.ok (.own (.dct (mergeD [] kvs)), env')
      | none => none
    | _ => none) S hp fun s env' v F' H' S' hp' => ?_
  cases q : rd s env' with
  | none => rw [q] at hp'; exact hp'.elim
  | some d =>
    rw [q] at hp'
    cases d with
    | dict es =>
      dsimp only at hp'
      cases q2 : keysOf es with
      | none => rw [q2] at hp'; exact hp'.elim
      | some kvs =>
        rw [q2] at hp'
        obtain ⟨ad, ys, rfl, h1, h2⟩ := S'.sh (s := s) (v := v) (by simp) q
        refine ⟨ad, ys, rfl, h1, fun H2 p tl old np _ _ hl pr => ?_⟩
        have S2 := S'.pop.ext old
        refine ⟨p, tl, ys, rfl, .inl (.inl hl), paired_imp (fun t q h => .inl (.inl h)) pr, fun p2 np2 => ?_⟩
        obtain ⟨S3, r3⟩ := S2.ownD np2 ((keysOf_ok h2 q2).merge .nil)
        exact hp' _ F' _ S3 r3
    | _ => exact hp'.elim
theorem de_dcopy {pd pl apos cpos lpos : Pos} (hc : X.calm = true) (ha : DE X W a fa) (hg : Gl X "dict") (hm : X.mg "dict" = none) (hg2 : Gl X "list") (hm2 : X.mg "list" = none) (hbase : attributeBase a "items" X.env (eval a X.env) = eval a X.env := by rfl) (hline : (apos.endLine == cpos.line) = true := by rfl)
    (hs : starEach [.Call (.Attribute a "items" apos) [] [] cpos] X.env = (false, eval (.Call (.Attribute a "items" apos) [] [] cpos) X.env) :: starEach [] X.env := by rfl)
    (hs2 : starEach [.Call (.Name "list" pl) [.Call (.Attribute a "items" apos) [] [] cpos] [] lpos] X.env = (false, eval (.Call (.Name "list" pl) [.Call (.Attribute a "items" apos) [] [] cpos] [] lpos) X.env) :: starEach [] X.env := by rfl)
    (hpl : (backTo pos (starEach [] X.env)).any (·.1) = false := by rfl) :
    DE X W (.Call (.Name "dict" pd) [.Call (.Name "list" pl) [.Call (.Attribute a "items" apos) [] [] cpos] [] lpos] [] pos) (eDCopy fa) := by
  obtain ⟨ta, pa, sa⟩ := ha.ex
  exact ⟨_, pe_callTy (call_dictP hc) hg hm bt_dict (pa_cons (LiI.pe_listItems hc pa hg2 hm2 bt_list hbase hline hs) pa_nil hs2) (by decide) (by decide) hs2 hpl, snd_dcopy sa⟩
/-! ### d.get(k, e) -/
def dgetOr (a b c : Option PyData) : Option PyData := match a, b with
  | some (.dict es), some kd => match keyOf kd with
    | some k => match lookD k es with
      | some d => some d
      | none => c
    | none => none
  | _, _ => none
end
end DL
set_option Elab.async false
set_option linter.all false
set_option maxRecDepth 100000
set_option maxHeartbeats 4000000
namespace DL
open PySem PySem.Spec PyProof.Rows L2

/-! ### None in d.values() -/
theorem entry_contains_iter : entryFor table "proto.contains_iter" = some Builtin.«proto.contains_iter» := entryFor_of_fast (by kernel_rfl)
theorem plain_contains_iter : plainId "proto.contains_iter" = true := by decide +kernel
theorem nocontains_values : typeLookup (.type "dict_values") "__contains__" = pure none := by rw [typeLookup_type, builtinLookup_eq_fast]; kernel_rfl
def isNoneV (v : Value) : Bool := match v with
  | .none => true
  | _ => false
section
variable {prog : Program} {w : World} {A : Around} {E : Value → Shared → Prop} {sh : Shared}
theorem values_loop {it d : Addr} {ep : Nat} {es : Array DictEntry} {R : Result → Shared → Prop} {G : Heap → Prop} (hne : it ≠ d) (hh : A.handled = none) (hu : A.units + 2 < cLine)
    (hG : ∀ h h', G h → Heap.SameBut it h h' → G h') (hval : ∀ h, G h → h.DictRaw d es ep ∧ ∀ i (hi : i < es.size), es[i].val = .none ∨ ∃ l items, es[i].val = .ref l ∧ h.IsTuple l items)
    (fin : ∀ h' tk b, b = (es.toList.any fun e => isNoneV e.val) → (∀ x o, x ≠ it → sh.heap.get? x = some o → h'.get? x = some o) → R (.ok (.ret (.bool b))) { sh with heap := h', toks := tk }) :
    ∀ (k i : Nat) (h : Heap) (tk : Nat), k = es.size - i → i ≤ es.size → h.IsValIter it d i es.size ep → G h → (∀ x o, x ≠ it → sh.heap.get? x = some o → h.get? x = some o) → (es.toList.take i).any (fun e => isNoneV e.val) = false →
      codeAny (model prog w) A (.builtin "proto.contains_iter" ⟨[.ref it, .none], []⟩) R { sh with heap := h, toks := tk } := by
  intro k
  induction k with
  | zero =>
    intro i h tk hk hi hit hg old hno
    have hin : i = es.size := by omega
    subst hin
    refine codeAny_builtin entry_contains_iter ?_
    rw [Around.under_plainId plain_contains_iter _]
    show wpAny _ A.in1 (pyNext (.ref it) >>= _) _ _ _
    refine wpAny_bind (wpAny_pyNext_values_end_raw (s := { sh with heap := h, toks := tk }) hh hit (hval h hg).1 (Nat.le_refl _) fun h' hs => ?_)
    refine wpAny_bind (wpAny_rule ?_)
    refine wpAny_pure (fin h' _ false ?_ fun x o hx e => hs x o hx (old x o hx e))
    rw [List.take_of_length_le (by simp)] at hno
    exact hno.symm
  | succ k ih =>
    intro i h tk hk hi hit hg old hno
    have hlt : i < es.size := by omega
    refine codeAny_builtin entry_contains_iter ?_
    rw [Around.under_plainId plain_contains_iter _]
    show wpAny _ A.in1 (pyNext (.ref it) >>= _) _ _ _
    refine wpAny_bind (wpAny_pyNext_values_item_raw (s := { sh with heap := h, toks := tk }) hit (hval h hg).1 hlt fun h' hit' hs => ?_)
    have hg' := hG h h' hg hs
    have old' : ∀ x o, x ≠ it → sh.heap.get? x = some o → h'.get? x = some o := fun x o hx e => hs.extBut x o hx (old x o hx e)
    have hl : es.toList[i]? = some es[i] := by simp [hlt]
    have htk : es.toList.take (i + 1) = es.toList.take i ++ [es[i]] := by rw [List.take_add_one, hl]; rfl
    rcases (hval h' hg').2 i hlt with hv | ⟨l, items, hv, ht⟩
    · rw [hv]
      dsimp only
      refine wpAny_bind ?_
      unfold eqBool
      refine wpAny_holding ?_
      rw [if_pos (by rfl)]
      refine wpAny_bind (wpAny_rule (wpAny_pure ?_))
      rw [if_pos rfl]
      refine wpAny_bind (wpAny_rule (wpAny_pure (fin h' _ true ?_ old')))
      symm
      rw [List.any_eq_true]
      exact ⟨es[i], List.mem_of_getElem? hl, by rw [hv]; rfl⟩
    · rw [hv]
      dsimp only
      refine wpAny_bind (SeqAt.EqAt.tuple_none (s := { sh with heap := h', toks := tk }) ht (by show A.units + 1 < cLine; omega) _ _ _ _ ?_)
      rw [if_neg (by decide)]
      refine wpAny_pure ⟨plainId_quiet plain_contains_iter _, ?_⟩
      refine ih (i + 1) h' tk (by omega) hlt hit' hg' old' ?_
      rw [htk, List.any_append, hno, Bool.false_or]
      simp [hv, isNoneV]
theorem none_in_values {v d : Addr} {ep : Nat} {es : Array DictEntry} {Q : Value → Shared → Prop} (hh : A.handled = none) (hu : A.units + 3 < cLine) (hv : sh.heap.IsValuesView v d) (hm : sh.heap.DictRaw d es ep)
    (hval : ∀ i (hi : i < es.size), es[i].val = .none ∨ ∃ l items, es[i].val = .ref l ∧ sh.heap.IsTuple l items)
    (q : ∀ h' tk, (∀ x o, sh.heap.get? x = some o → h'.get? x = some o) → Q (.bool (es.toList.any fun e => isNoneV e.val)) { sh with heap := h', toks := tk }) :
    wpAny (model prog w) A (compareOp .In .none (.ref v)) Q E sh := by
  show wpAny _ _ (do return .bool (← contains (.ref v) .none)) Q E sh
  refine wpAny_bind ?_
  unfold contains
  refine wpAny_holding ?_
  rw [stdlibNamesSay?_of_typeIs hv.typeIs]
  refine wpAny_bind (wpAny_specialOf hv.typeIs nocontains_values ?_)
  rw [if_neg (by simp)]
  refine wpAny_bind (wpAny_callSpecialUnlessNone?_none hv.typeIs nocontains_values ?_)
  dsimp only
  refine wpAny_bind (wpAny_rule ?_)
  refine wpAny_bind (wpAny_tryCatch (wpAny_pyIter_values_raw hv hm ?_))
  obtain ⟨od, hod, hcd, hdd⟩ := id hm
  have hlt := Heap.lt_size hod
  have keep : ∀ x o, sh.heap.get? x = some o → (sh.heap.push { cls := .type "dict_valueiterator", data := .fields #[.ref d, .int 0 0, .int es.size 0, .int ep 0] }).get? x = some o := fun x o e => Heap.get?_push_of_some _ e
  refine wpAny_bind (wpAny_runValue ?_)
  refine values_loop (sh := { sh with heap := sh.heap.push { cls := .type "dict_valueiterator", data := .fields #[.ref d, .int 0 0, .int es.size 0, .int ep 0] } }) (it := sh.heap.objs.size) (d := d) (ep := ep) (es := es)
    (G := fun h => ∀ x o, sh.heap.get? x = some o → h.get? x = some o) (Nat.ne_of_gt hlt) hh (by omega) (fun h h' hg hs x o e => hs.extBut x o (Nat.ne_of_lt (Heap.lt_size e)) (hg x o e))
    (fun h hg => ⟨hm.at fun o e => hg _ o e, fun i hi => ?_⟩) (fun h' tk b hb hk => ?_) es.size 0 _ _ rfl (Nat.zero_le _) ⟨_, Heap.get?_push_size _ rfl, rfl, rfl⟩ keep (fun x o _ e => e) (by simp)
  · rcases hval i hi with h1 | ⟨l, items, h1, h2⟩
    · exact .inl h1
    · exact .inr ⟨l, items, h1, h2.at fun o e => hg _ o e⟩
  · subst hb
    dsimp only
    exact wpAny_pure (wpAny_pure (q h' tk fun x o e => hk x o (Nat.ne_of_lt (Heap.lt_size e)) (keep x o e)))
end
def nonV (v : V) : Bool := decide (v = .non)
def tNoneVals (X : Cx) (td : TE) : TE := fun σ H Q => td σ H fun x H1 => ∃ a ys, x = .ref a ∧ H1 a = some (.dK ys) ∧ (∀ p ∈ ys, p.2 = .non ∨ ∃ l xs, p.2 = .ref l ∧ SqT X.K H1 l xs) ∧ Q (.bl (ys.any fun p => nonV p.2)) H1
def plainV : PyData → Bool
  | .none => true
  | .tuple _ => true
  | _ => false
def noneInD (a : PyData) : Option Sl := match a with
  | .dict es => if es.all (fun p => plainV p.2) = true then vB (es.any fun p => isNon p.2) else none
  | _ => none
theorem noneIn_ok {K : PySem.W.Frag} {F H : Hp} (e : Same F H) : ∀ {ys : List (Key × V)} {es : List (PyData × PyData)}, RpK K F ys es → es.all (fun p => plainV p.2) = true → (∀ p ∈ ys, p.2 = .non ∨ ∃ l xs, p.2 = .ref l ∧ SqT K H l xs) ∧ (ys.any fun p => nonV p.2) = es.any fun p => isNon p.2
  | _, _, .nil, _ => by simp
  | _, _, .cons (k := k) (v := v) (d := d) h r, q => by
    simp only [List.all_cons, Bool.and_eq_true] at q
    obtain ⟨g1, g2⟩ := noneIn_ok e r q.2
    cases d with
    | none =>
      cases h
      exact ⟨fun p hp => by rcases List.mem_cons.mp hp with rfl | hp; exact .inl rfl; exact g1 p hp, by simp [g2, nonV, isNon]⟩
    | tuple ds =>
      cases h with
      | tup h1 h2 =>
        refine ⟨fun p hp => by rcases List.mem_cons.mp hp with rfl | hp; exact .inr ⟨_, _, rfl, same_sqT e h1⟩; exact g1 p hp, ?_⟩
        show (nonV (V.ref _) || _) = (isNon (PyData.tuple _) || _)
        rw [g2]
        rfl
    | _ => simp [plainV] at q
theorem kv_at {ys : List (Key × V)} {vs : List (Key × Value)} (h : KV ys vs) : ∀ {i : Nat} {q : Key × Value}, vs[i]? = some q → ∃ p ∈ ys, RelV p.2 q.2 := by
  induction h with
  | nil => intro i q e; simp at e
  | @cons p q ps qs h r ih =>
    intro i u e
    cases i with
    | zero => simp at e; subst e; exact ⟨p, by simp, h.2⟩
    | succ i =>
      obtain ⟨p', m, g⟩ := ih (i := i) (q := u) (by simpa using e)
      exact ⟨p', by simp [m], g⟩
theorem vals_any {es : Array DictEntry} {vs : List (Key × Value)} (hsz : es.size = vs.length) (hat : ∀ i (hi : i < es.size) k v, vs[i]? = some (k, v) → es[i].val = v) : (es.toList.any fun e => isNoneV e.val) = vs.any fun p => isNoneV p.2 := by
  have key : es.toList.map (·.val) = vs.map (·.2) := by
    apply List.ext_getElem
    · simp [hsz]
    · intro i h1 h2
      simp only [List.length_map, Array.length_toList] at h1 h2
      simp only [List.getElem_map, Array.getElem_toList]
      have hv : i < vs.length := h2
      exact hat i h1 (vs[i]).1 (vs[i]).2 (List.getElem?_eq_getElem hv)
  have a : (es.toList.any fun e => isNoneV e.val) = (es.toList.map (·.val)).any isNoneV := by rw [List.any_map]; rfl
  have b : (vs.any fun p => isNoneV p.2) = (vs.map (·.2)).any isNoneV := by rw [List.any_map]; rfl
  rw [a, b, key]
theorem kv_vals {ys : List (Key × V)} {vs : List (Key × Value)} (h : KV ys vs) : (vs.any fun p => isNoneV p.2) = ys.any fun p => nonV p.2 := by
  induction h with
  | nil => rfl
  | @cons p q ps qs h r ih =>
    simp only [List.any_cons, ih]
    congr 1
    obtain ⟨e, rv⟩ := h
    obtain ⟨k, v⟩ := p
    obtain ⟨k', u⟩ := q
    dsimp only at rv ⊢
    cases v with
    | non => cases rv; rfl
    | _ =>
      first
      | (cases rv; rfl)
      | (obtain ⟨t, rfl⟩ := rv; rfl)
section
variable {X : Cx} {W : WX} {e : Expr} {apos cpos pos p1 : Pos} {fe : FE} {j : Nat}
theorem pe_noneVals {td : TE} (hc : X.calm = true) (hu : X.A.units + 3 < cLine) (he : PE X e td) (hbase : attributeBase e "values" X.env (eval e X.env) = eval e X.env) (hline : (apos.endLine == cpos.line) = true)
    (hm : behindInMarks .In (.Call (.Attribute e "values" apos) [] [] cpos) = false) : PE X (.Compare (.Constant .none j p1) [.In] [.Call (.Attribute e "values" apos) [] [] cpos] pos) (tNoneVals X td) := by
  refine ⟨fun pins s σ H Q I h => wpAny_Compare1 (Constant_none ?_) hm⟩
  refine wpAny_Call_method (T := "dict") (id := "dict.values") hbase rfl hline PySem.F.plainAttrs_dict PySem.F.slot_dict_values PySem.F.type_dict_values (thn (he.run pins s σ H _ I h) fun u s1 ⟨x, H1, I1, rx, d, ys, ex, hd, hall, q⟩ => ?_)
  subst ex
  obtain rfl : u = Value.ref d := rx
  obtain ⟨_, hs, vs, kv, dd⟩ := dk_of I1.hok hd
  obtain ⟨es, ep, hraw, hsz, hat⟩ := dd.raw
  refine ⟨dd.typeIs, dd.mapOf.noDict, ?_⟩
  have keep : ∀ b o, s1.heap.get? b = some o → (s1.heap.push { cls := .type "dict_values", data := .fields #[.ref d] }).get? b = some o := fun b o q => Heap.get?_push_of_some _ q
  have I2 : Inv X pins σ H1 { s1 with heap := s1.heap.push { cls := .type "dict_values", data := .fields #[.ref d] } } := I1.kept (t' := s1.toks) keep
  have fin : wpAny (model X.prog X.w) X.A (compareOp .In .none (.ref s1.heap.objs.size)) (EP X pins σ Q) X.xe { s1 with heap := s1.heap.push { cls := .type "dict_values", data := .fields #[.ref d] } } := by
    refine none_in_values (d := d) (es := es) (ep := ep) (I1.ok.hd hc) hu ⟨_, Heap.get?_push_size _ rfl, rfl, rfl⟩ (hraw.at fun o e => keep _ o e) (fun i hi => ?_) fun h' tk old => ?_
    · have hiv : i < vs.length := hsz ▸ hi
      obtain ⟨p, pm, rp⟩ := kv_at kv (i := i) (q := vs[i]) (List.getElem?_eq_getElem hiv)
      have ev := (hat i hi vs[i].1 vs[i].2 (List.getElem?_eq_getElem hiv)).2
      rw [ev]
      rcases hall p pm with e | ⟨l, xs, e, ht⟩
      · rw [e] at rp
        exact .inl rp
      · rw [e] at rp
        obtain ⟨its, _, it, _⟩ := I2.tuple ht
        exact .inr ⟨l, its.toArray, rp, it⟩
    · refine ⟨.bl _, H1, I2.kept (t' := tk) old, rfl, ?_⟩
      rw [vals_any hsz fun i hi k v e => (hat i hi k v e).2, kv_vals kv]
      exact q
  show wpAny _ _ (callWith cpos (.builtin "dict.values") [.ref d] [] []) _ X.xe s1
  exact method_meetsIn PySem.F.slot_dict_values PySem.F.entry_dict_values rfl (PySem.evalArgs_none ⟨rfl, dd.typeIs, PySem.F.args_dict_values_1 _, _, meets_dict_values (mixKind X.prog X.w) d hs, ⟨vs, dd⟩, fin⟩)
theorem de_noneVals (hc : X.calm = true) (hu : X.A.units + 3 < cLine) (ha : DE X W e fe) (hbase : attributeBase e "values" X.env (eval e X.env) = eval e X.env := by rfl) (hline : (apos.endLine == cpos.line) = true := by rfl)
    (hm : behindInMarks .In (.Call (.Attribute e "values" apos) [] [] cpos) = false := by rfl) : DE X W (.Compare (.Constant .none j p1) [.In] [.Call (.Attribute e "values" apos) [] [] cpos] pos) (e1 noneInD fe) := by
  obtain ⟨ta, pa, sa⟩ := ha.ex
  refine ⟨_, pe_noneVals hc hu pa hbase hline hm, fun G O P ts env σ F H Q S hp => ?_⟩
  refine sa.thn (k := fun s env' => fin (g1 noneInD (rd s env')) env') S hp fun s env' v F' H' S' hp' => ?_
  obtain ⟨z, e0, q⟩ := fin_ok hp'
  obtain ⟨d, e1', e2'⟩ := g1_ok e0
  cases d with
  | dict es =>
    simp only [noneInD] at e2'
    split at e2'
    · rename_i hall
      cases e2'
      obtain ⟨ad, ys, rfl, h1, h2⟩ := S'.sh (s := s) (v := v) (by simp) e1'
      obtain ⟨g1, g2⟩ := noneIn_ok S'.fh h2 hall
      refine ⟨ad, ys, rfl, h1, g1, ?_⟩
      rw [g2]
      exact q _ F' H' S'.pop (.bl _)
    · cases e2'
  | _ => cases e2'
end
end DL
set_option Elab.async false
set_option linter.all false
set_option maxRecDepth 100000
set_option maxHeartbeats 4000000
namespace DL
open PySem PySem.Spec PyProof.Rows L2

/-! ### repr of anything small -/
def scalD : PyData → Bool
  | .none => true
  | .bool _ => true
  | .int _ => true
  | .str _ => true
  | _ => false
def reprG (ds : List PyData) : Option Sl := match ds with
  | [.none] => some (.val (.str "None"))
  | [.bool b] => some (.val (.str (PyData.shown (.bool b))))
  | [.int i] => if i.natAbs.log2 < 1920 then some (.val (.str (PyData.shown (.int i)))) else none
  | [.str x] => if (PyData.shown (.str x)).length ≤ bigL then some (.val (.str (PyData.shown (.str x)))) else none
  | [.dict es] => if es.all (fun p => scalD p.2) = true ∧ PyData.showable (.dict es) = true ∧ (PyData.shown (.dict es)).length ≤ bigL ∧ (PyData.depth (.dict es)) ≤ 4 then some (.val (.str (PyData.shown (.dict es)))) else none
  | ds => reprD ds
theorem scal_reads {K : PySem.W.Frag} {F : Hp} {h : Heap} {v : V} {d : PyData} {u : Value} (r : Rp K F v d) (s : scalD d = true) (rv : RelV v u) : Reads h u d [] := by
  cases d with
  | none => cases r; cases rv; exact .none
  | bool b => cases r; cases rv; exact .bool b
  | int i => cases r; obtain ⟨t, rfl⟩ := rv; exact .int i t
  | str x => cases r; obtain ⟨t, rfl⟩ := rv; exact .str x t
  | _ => cases s
theorem key_reads {h : Heap} {k : Key} {u : Value} (z : keyIs k u = true) : Reads h u (kD k) [] := by
  rcases keyIs_shape z with ⟨i, t, rfl, rfl⟩ | ⟨x, t, rfl, rfl⟩
  · exact .int i t
  · exact .str x t
theorem scalK_reads {K : PySem.W.Frag} {F : Hp} {h : Heap} : ∀ {ys : List (Key × V)} {es : List (PyData × PyData)} {vs : List (Key × Value)} {ens : List DictEntry}, RpK K F ys es → es.all (fun p => scalD p.2) = true → KV ys vs → ens.length = vs.length →
    (∀ i (hi : i < ens.length) k v, vs[i]? = some (k, v) → keyIs k ens[i].key = true ∧ ens[i].val = v) → ReadsAll h (ens.map (·.key)) (es.map (·.1)) [] ∧ ReadsAll h (ens.map (·.val)) (es.map (·.2)) []
  | _, _, _, ens, .nil, _, .nil, hl, _ => by
    cases ens with
    | nil => exact ⟨.nil, .nil⟩
    | cons _ _ => simp at hl
  | _, _, _, ens, .cons (k := k) (v := v) (d := d) hr r, q, .cons (b := b) hb kv, hl, hat => by
    cases ens with
    | nil => simp at hl
    | cons e ens =>
      simp only [List.all_cons, Bool.and_eq_true] at q
      obtain ⟨h1, h2⟩ := scalK_reads (h := h) (ens := ens) r q.2 kv (by simpa using hl) (fun i hi k v hv => by
        have := hat (i + 1) (by simp; omega) k v (by simpa using hv)
        simpa using this)
      obtain ⟨b1, b2⟩ := b
      obtain ⟨ek, rv⟩ := hb
      dsimp only at ek rv
      subst ek
      have h0 := hat 0 (by simp) k b2 rfl
      simp only [List.getElem_cons_zero] at h0
      refine ⟨?_, ?_⟩
      · exact ReadsAll.cons (as := []) (bs := []) (key_reads h0.1) h1
      · have e2 : e.val = b2 := h0.2
        exact ReadsAll.cons (as := []) (bs := []) (by dsimp only; rw [e2]; exact scal_reads hr q.1 rv) h2
def rReprG (K : PySem.W.Frag) : List V → Hp → VK → Prop := fun xs H Q => rRepr K xs H Q ∨ (∃ v d s, xs = [v] ∧ scalD d = true ∧ (∃ F, Rp K F v d) ∧ reprG [d] = some (.val (.str s)) ∧ Q (.str s) H) ∨
  ∃ a ys es F, xs = [.ref a] ∧ H a = some (.dK ys) ∧ RpK K F ys es ∧ es.all (fun p => scalD p.2) = true ∧ PyData.showable (.dict es) = true ∧ (PyData.shown (.dict es)).length ≤ bigL ∧ (PyData.depth (.dict es)) ≤ 4 ∧ Q (.str (PyData.shown (.dict es))) H
section
variable {X : Cx}
theorem call_reprG (hg : X.A.guards = some []) (hu : X.A.units + 128 < cLine) : CallR X (.builtin "repr") (rReprG X.K) := by
  intro pins s σ H xs us Q I r h
  rcases h with h | ⟨v, d, z, rfl, sc, ⟨F, rp⟩, hz, q⟩ | ⟨a, ys, es, F, rfl, ha, rk, sc, sh, hl, hd, q⟩
  · exact call_reprD hg hu pins s σ H xs us Q I r h
  · cases d with
    | none =>
      cases rp; cases hz
      obtain ⟨u, rfl, rfl⟩ := vals1 r
      exact PySem.P.repr_of_none ⟨.str _, H, I.tok _, ⟨_, rfl⟩, q⟩
    | bool b =>
      cases rp; cases hz
      obtain ⟨u, rfl, rfl⟩ := vals1 r
      exact PySem.P.repr_of_bool ⟨.str _, H, I.tok _, ⟨_, rfl⟩, q⟩
    | int i =>
      cases rp
      simp only [reprG] at hz
      split at hz
      · rename_i hi
        cases hz
        obtain ⟨u, rfl, t, rfl⟩ := vals1 r
        exact PySem.P.repr_of_int hi ⟨.str _, H, I.tok _, ⟨_, rfl⟩, q⟩
      · cases hz
    | str x =>
      cases rp
      simp only [reprG] at hz
      split at hz
      · rename_i hi
        cases hz
        obtain ⟨u, rfl, t, rfl⟩ := vals1 r
        exact PySem.P.repr_of_str ⟨.str _, H, I.tok _, ⟨_, rfl⟩, q⟩ (bigL_ok hi)
      · cases hz
    | _ => cases sc
  · obtain ⟨u, rfl, rfl⟩ := vals1 r
    obtain ⟨_, hs, vs, kv, dd⟩ := dk_of I.hok ha
    obtain ⟨ens, ep, ⟨o, ho, hc, hdt⟩, hsz, hat⟩ := dd.raw
    have hat' : ∀ i (hi : i < ens.toList.length) k v, vs[i]? = some (k, v) → keyIs k ens.toList[i].key = true ∧ ens.toList[i].val = v := fun i hi k v e => by
      have h1 := hat i (by simpa using hi) k v e
      have e1 : ens.toList[i] = ens[i]'(by simpa using hi) := by simp
      rw [e1]
      exact h1
    obtain ⟨r1, r2⟩ := scalK_reads (h := s.heap) (ens := ens.toList) rk sc kv (by simpa using hsz) hat'
    have rd : Reads s.heap (.ref a) (.dict es) (a :: [] ++ []) := .dict ho hc.1 hdt r1 r2
    refine repr_of_reads' rd sh (fun _ hm => ?_) hg (by omega) (fun _ _ e => e) (fun h' u tk hk => ⟨.str _, H, I.kept (t' := tk) hk, ⟨u, rfl⟩, q⟩) (bigL_ok hl)
    simp at hm
    rw [← hm] at hs
    simp at hs
theorem cd_reprG : CallD X (rReprG X.K) reprG := by
  intro G O P ts env σ F H vs ds s Q S h e q
  have go : ∀ d v, scalD d = true → Sh X.K F H v d → ∀ z, reprG [d] = some (.val (.str z)) → s = .val (.str z) → rReprG X.K [v] H Q := fun d v sc r z hz es => by
    subst es
    refine .inr (.inl ⟨v, d, z, rfl, sc, ⟨F, ?_⟩, hz, q _ F H S (.str _)⟩)
    cases d with
    | none => exact r
    | bool b => exact r
    | int i => exact r
    | str x => exact r
    | _ => cases sc
  unfold reprG at e
  split at e
  · cases e
    cases h with
    | cons h1 h2 => cases h2; exact go _ _ rfl h1 _ rfl rfl
  · cases e
    cases h with
    | cons h1 h2 => cases h2; exact go _ _ rfl h1 _ rfl rfl
  · split at e
    · rename_i hi
      cases e
      cases h with
      | cons h1 h2 => cases h2; exact go _ _ rfl h1 _ (by simp only [reprG, if_pos hi]) rfl
    · cases e
  · split at e
    · rename_i hi
      cases e
      cases h with
      | cons h1 h2 => cases h2; exact go _ _ rfl h1 _ (by simp only [reprG, if_pos hi]) rfl
    · cases e
  · split at e
    · rename_i hi
      cases e
      cases h with
      | cons h1 h2 =>
        cases h2
        obtain ⟨a, ys, rfl, g1, g2⟩ := h1
        exact .inr (.inr ⟨a, ys, _, F, rfl, g1, g2, hi.1, hi.2.1, hi.2.2.1, hi.2.2.2, q _ F H S (.str _)⟩)
    · cases e
  · exact .inl (cd_repr G O P ts env σ F H vs _ s Q S h e q)
end
end DL
set_option Elab.async false
set_option linter.all false
set_option maxRecDepth 100000
set_option maxHeartbeats 4000000
namespace DL
open PySem PySem.Spec PyProof.Rows L2 HT

/-! ### t[::-1], t a tuple -/
section
variable {prog : Program} {w : World} {A : Around} {E : Value → Shared → Prop} {s : Shared}
theorem adjust_rev (n : Nat) : Builtin.Slice.sliceAdjust none none (-1) (n : Int) = ((n : Int) - 1, -1) := by
  have h1 : ((-1 : Int) < 0) := by omega
  unfold Builtin.Slice.sliceAdjust
  simp only [h1, if_true]
theorem places_rev (n : Nat) : Builtin.Slice.slicePlaces ((n : Int) - 1) (-1) (-1) = n := by
  unfold Builtin.Slice.slicePlaces
  have h1 : ¬ ((-1 : Int) > 0) := by omega
  simp only [h1, if_false]
  split
  · have : (- (-1 : Int)) = 1 := by omega
    rw [this, Int.ediv_one]
    omega
  · omega
theorem sliceApplied_rev {sl : Addr} {vl vu vs : Value} {n : Nat} {Q : Int × Int × Nat → Shared → Prop} (hs : s.heap.IsSliceOf sl vl vu vs) (pl : IsPart vl none) (pu : IsPart vu none) (ps : IsPart vs (some (-1)))
    (h : Q ((n : Int) - 1, -1, n) s) : wpAny (model prog w) A (Builtin.Slice.sliceApplied (.ref sl) (pure (n : Int))) Q E s := by
  obtain ⟨os, hos, hcs, hds⟩ := id hs
  unfold Builtin.Slice.sliceApplied Builtin.Slice.sliceFields
  refine wpAny_bind (wpAny_bind (wpAny_field hos hds (x := vl) rfl (wpAny_bind (wpAny_field hos hds (x := vu) rfl (wpAny_bind (wpAny_field hos hds (x := vs) rfl (wpAny_pure ?_)))))))
  refine wpAny_bind (slicePart_ ps ?_)
  show wpAny _ _ (if ((-1 : Int) == 0) = true then _ else _) _ _ s
  rw [if_neg (by decide)]
  refine wpAny_bind (slicePart_ pl (wpAny_bind (slicePart_ pu (wpAny_bind (wpAny_pure ?_)))))
  show wpAny _ _ (match Builtin.Slice.sliceAdjust none none (-1) (n : Int) with | (lo, hi) => pure (lo, (-1 : Int), Builtin.Slice.slicePlaces lo hi (-1))) _ _ s
  rw [adjust_rev]
  show wpAny _ _ (pure ((n : Int) - 1, (-1 : Int), Builtin.Slice.slicePlaces ((n : Int) - 1) (-1) (-1))) _ _ s
  rw [places_rev]
  exact wpAny_pure h
theorem pick_rev (xs : Array Value) : ((List.range xs.size).filterMap fun (m : Nat) => xs[(((xs.size : Nat) : Int) - 1 + (m : Int) * (-1)).toNat]?).toArray = xs.toList.reverse.toArray := by
  have e : (fun (m : Nat) => xs[(((xs.size : Nat) : Int) - 1 + (m : Int) * (-1)).toNat]?) = fun m => xs[xs.size - 1 - m]? := by
    funext m
    have : (((xs.size : Nat) : Int) - 1 + (m : Int) * (-1)).toNat = xs.size - 1 - m := by omega
    rw [this]
  rw [e]
  have h := PySem.W.krv_all xs
  have h2 := PySem.W.krv_range xs.size
  rw [← h, ← List.filterMap_reverse, ← h2, List.filterMap_map]
  rfl
theorem getItem_tuple_rev {t sl : Addr} {items : Array Value} {vl vu vs : Value} {Q : Value → Shared → Prop} (ht : IsTup s.heap t items) (hs : s.heap.IsSliceOf sl vl vu vs) (pl : IsPart vl none) (pu : IsPart vu none) (ps : IsPart vs (some (-1)))
    (h : Q (.ref s.heap.objs.size) { s with heap := s.heap.push { cls := .type "tuple", data := .seq items.toList.reverse.toArray } })
    (hsz : items.size ≤ sizeLine) : wpAny (model prog w) A (getItem (.ref t) (.ref sl)) Q E s := by
  have htake : sizeOk (.seq items.toList.reverse.toArray) := by
    show items.toList.reverse.toArray.size ≤ sizeLine
    rw [List.size_toArray, List.length_reverse, Array.length_toList]
    omega
  obtain ⟨os, hos, hcs, hds⟩ := id hs
  have hTs : s.TypeIs (.ref sl) "slice" := ⟨os, hos, hcs⟩
  unfold getItem
  try with_reducible refine wpAny_holding ?_
  first | refine wpAny_bind (wpAny_pure ?_) | skip
  refine wpAny_bind (wpAny_sequenceKey ht.typeIs (by decide) ?_)
  refine wpAny_bind (wpAny_callSpecial?_slot (name := Str.ofString "__getitem__") ht.typeIs PyProof.Rows.slot_tuple_getitem
    (wpAny_call_entry PyProof.Rows.slot_tuple_getitem ht.typeIs entry_tuple_getitem ?_ (args_tuple_getitem _ _)))
  show wpAny _ _ (Builtin.Tuple.tupleItemsOf (.ref t) >>= _) _ _ s
  refine wpAny_bind (tupleItemsOf_ ht ?_)
  refine wpAny_bind (wpAny_typeOf hTs ?_)
  rw [if_pos (by decide)]
  refine wpAny_bind (sliceApplied_rev hs pl pu ps ?_)
  have hno : ¬ (((((items.size : Nat) : Int) - 1) == 0 && (-1 : Int) == 1 && items.size == items.size) = true) := by
    rw [Bool.and_eq_true, Bool.and_eq_true]
    intro q
    exact absurd q.1.2 (by decide)
  show wpAny _ _ (if ((((items.size : Nat) : Int) - 1) == 0 && (-1 : Int) == 1 && items.size == items.size) = true then _ else _) _ _ s
  rw [if_neg hno, pick_rev]
  first
    | exact wpAny_bind (m := Builtin.Tuple.tupleExact _) (wpAny_newObj_type (wpAny_pure ⟨_, rfl, wpAny_pure h⟩) htake)
    | exact wpAny_bind (m := Builtin.Tuple.tupleExact _) (wpAny_newObj_type (wpAny_bind (wpAny_pure (wpAny_pure ⟨_, rfl, wpAny_pure h⟩))) htake)
    | exact wpAny_bind (wpAny_bind (m := Builtin.Tuple.tupleExact _) (wpAny_newObj_type (wpAny_pure (wpAny_pure ⟨_, rfl, wpAny_pure h⟩)) htake))
    | exact wpAny_bind (wpAny_bind (m := Builtin.Tuple.tupleExact _) (wpAny_newObj_type (wpAny_pure ⟨_, rfl, wpAny_pure h⟩) htake))
end
def tRevT (K : PySem.W.Frag) (te : TE) : TE := fun σ H Q => te σ H fun x H1 => ∃ a xs, x = .ref a ∧ SqT K H1 a xs ∧ ∀ p, H1 p = none → Q (.ref p) (upd H1 p (.tup xs.reverse))
section
variable {X : Cx} {W : WX} {e : Expr} {fe : FE}
theorem pe_revT {te : TE} {k : Nat} {p1 p2 p3 pos : Pos} (he : PE X e te) : PE X (.Subscript e (.Slice none none (some (.UnaryOp .USub (.Constant (.int 1) k p1) p2)) p3) pos) (tRevT X.K te) := by
  refine ⟨fun pins s σ H Q I h => ?_⟩
  refine Subscript_ (thn (he.run pins s σ H _ I h) fun v s1 ⟨x, H1, I1, r1, q1⟩ => ?_)
  obtain ⟨a, xs, ex, hx, q⟩ := q1
  subst ex
  cases r1
  have hst : PO X (some (.UnaryOp .USub (.Constant (.int 1) k p1) p2)) (tPart (tUn (rU fun i => .int (-i)) (tC (.int 1)))) := po_some (pe_un un_neg pe_int)
  refine wpAny_Slice (thn (po_none.run pins s1 σ H1 (fun o H2 => o = none ∧ H2 = H1) I1 ⟨rfl, rfl⟩) fun vl s2 ⟨l, H2, I2, pl, el, e2⟩ => ?_)
  subst el e2
  refine thn (po_none.run pins s2 σ H2 (fun o H3 => o = none ∧ H3 = H2) I2 ⟨rfl, rfl⟩) fun vu s3 ⟨u, H3, I3, pu, eu, e3⟩ => ?_
  subst eu e3
  refine thn (hst.run pins s3 σ H3 (fun o H4 => o = some (-1) ∧ H4 = H3) I3 ⟨1, rfl, -1, rfl, rfl, rfl⟩) fun vs s4 ⟨o, H4, I4, ps, eo, e4⟩ => ?_
  subst eo e4
  have I5 : Inv X pins σ H4 { s4 with heap := s4.heap.push { cls := .type "slice", data := .fields #[vl, vu, vs] } } := I4.kept (t' := s4.toks) fun b ob q => Heap.get?_push_of_some _ q
  obtain ⟨its, r, ht, hz⟩ := I5.tuple hx
  have hlen := r.length
  show wpAny (model X.prog X.w) X.A (subscriptTail e (.Slice none none (some (.UnaryOp .USub (.Constant (.int 1) k p1) p2)) p3) (.ref a) (.ref s4.heap.objs.size)) (EP X pins σ Q) X.xe { s4 with heap := s4.heap.push { cls := .type "slice", data := .fields #[vl, vu, vs] } }
  refine tail_any (ops := [.ref a, .ref s4.heap.objs.size]) ht.typeIs (PyProof.Rows.slot_tuple_getitem.lookup) ?_ (by with_unfolding_all rfl)
  refine getItem_tuple_rev ht (Heap.IsSliceOf.new _ vl vu vs) pl pu ps ?_ (by rw [List.size_toArray]; omega)
  refine ⟨.ref _, _, I5.laid (t' := s4.toks) (o := .tup xs.reverse) (fun b ob q => Heap.get?_push_of_some _ q) (Nat.le_refl _) ?_, rfl, q _ (I5.hok.fresh (Nat.le_refl _))⟩
  exact ⟨by rw [List.length_reverse]; exact hz, _, r.reverse, IsTup.new _ _⟩
def revD (a : PyData) : Option Sl := match a with
  | .tuple xs => some (.val (.tuple xs.reverse))
  | _ => none
theorem rpL_rev {K : PySem.W.Frag} {F : Hp} : ∀ {vs : List V} {ds : List PyData}, RpL K F vs ds → RpL K F vs.reverse ds.reverse
  | _, _, .nil => .nil
  | _, _, .cons h r => by
    rw [List.reverse_cons, List.reverse_cons]
    exact (rpL_rev r).app (.cons h .nil)
theorem de_revT {k : Nat} {p1 p2 p3 pos : Pos} (ha : DE X W e fe) : DE X W (.Subscript e (.Slice none none (some (.UnaryOp .USub (.Constant (.int 1) k p1) p2)) p3) pos) (e1 revD fe) := by
  obtain ⟨ta, pa, sa⟩ := ha.ex
  refine ⟨_, pe_revT pa, fun G O P ts env σ F H Q S hp => ?_⟩
  refine sa.thn (k := fun s env' => fin (g1 revD (rd s env')) env') S hp fun s env' v F' H' S' hp' => ?_
  obtain ⟨z, e0, q⟩ := fin_ok hp'
  obtain ⟨d, e1', e2'⟩ := g1_ok e0
  cases d with
  | tuple ds =>
    cases e2'
    obtain ⟨a, xs, rfl, w1, w2⟩ := Sh.tup S'.fh (S'.sh (s := s) (v := v) (by simp) e1')
    refine ⟨a, xs, rfl, w1, fun p np => ?_⟩
    obtain ⟨S4, R4⟩ := S'.pop.valT np (rpL_rev w2)
    exact q _ _ _ S4 R4
  | _ => cases e2'
end
/-! ### t * k, k small -/
theorem tuple_mulSame (l : Addr) (items : Array Value) (n : Nat) (dd : Option Addr) (sl : Array (Option Value)) (x : Int) (u : Tok) (c0 : (decide (x < -(2 ^ 63)) || decide (x ≥ 2 ^ 63)) = false) (c1 : (items.isEmpty || x == 1) = true) :
    Meets (Builtin.«tuple.__mul__» ⟨[.ref l, .int x u], []⟩) (fun _ R s => s.heap.get? l = some { cls := .type "tuple", dict := dd, data := .seq items n, slots := sl } ∧ R (.ok (.ret (Value.ref l))) s) :=
  .of_wp fun prog w A R s h => by
    obtain ⟨hp, g, d, tk, os⟩ := s
    obtain ⟨hl, h⟩ := h
    have f1 := AutoSeq1.idx_int
    wp_walk using wpAny_loadPart' hl
    repeat (first
      | (refine wpAny_ite_false (decide_eq_false (by rw [c0]; exact Bool.false_ne_true)) ?_; wp_walk using wpAny_loadPart' hl)
      | (refine wpAny_ite_true (decide_eq_true (by rw [c1])) ?_; wp_walk using wpAny_loadPart' hl)
      | (refine wpAny_ite_true (by simp) ?_; wp_walk using wpAny_loadPart' hl))
    exact ⟨_, rfl, h⟩
theorem tuple_mulNone (l : Addr) (items : Array Value) (n : Nat) (dd : Option Addr) (sl : Array (Option Value)) (x : Int) (u : Tok) (c0 : (decide (x < -(2 ^ 63)) || decide (x ≥ 2 ^ 63)) = false) (c1 : (items.isEmpty || x == 1) = false) (c2 : (decide (x ≤ 0) || items.isEmpty) = true) :
    Meets (Builtin.«tuple.__mul__» ⟨[.ref l, .int x u], []⟩) (fun _ R s => s.heap.get? l = some { cls := .type "tuple", dict := dd, data := .seq items n, slots := sl } ∧
      R (.ok (.ret (Value.ref s.heap.objs.size))) { s with heap := s.heap.push { cls := Value.type "tuple", data := Data.seq #[] }, toks := s.toks }) :=
  .of_wp fun prog w A R s h => by
    obtain ⟨hp, g, d, tk, os⟩ := s
    obtain ⟨hl, h⟩ := h
    have f1 := AutoSeq1.idx_int
    wp_walk using wpAny_loadPart' hl
    repeat (first
      | (refine wpAny_ite_false (decide_eq_false (by rw [c0]; exact Bool.false_ne_true)) ?_; wp_walk using wpAny_loadPart' hl)
      | (refine wpAny_ite_false (decide_eq_false (by rw [c1]; exact Bool.false_ne_true)) ?_; wp_walk using wpAny_loadPart' hl)
      | (refine wpAny_ite_true (decide_eq_true (by rw [c2])) ?_; wp_walk using wpAny_loadPart' hl)
      | (refine wpAny_ite_false (decide_eq_false (by simp)) ?_; wp_walk using wpAny_loadPart' hl))
    exact ⟨_, rfl, h⟩
def rRepS (K : PySem.W.Frag) : R2 := fun x y H Q => ∃ l k xs, x = .ref l ∧ y = .int k ∧ SqT K H l xs ∧ 0 ≤ k ∧ k ≤ 1000 ∧ ((xs = [] ∨ k = 1) → Q (.ref l) H) ∧ (xs ≠ [] → k = 0 → ∀ p, H p = none → Q (.ref p) (upd H p (.tup []))) ∧ (xs = [] ∨ k ≤ 1)
def rMulG (K : PySem.W.Frag) : R2 := fun x y H Q => rMulA K x y H Q ∨ rRepS K x y H Q
def mulG (a b : PyData) : Option Sl := match a, b with
  | .tuple xs, .int k => if xs.length ≤ 1000 ∧ 0 ≤ k ∧ k ≤ 100 then some (.val (.tuple (List.replicate k.toNat xs).flatten)) else none
  | a, b => mulD a b
section
variable {X : Cx}
theorem op_repS : OpR X (binaryOp .Mult) (rRepS X.K) := by
  intro pins s σ H x y v u Q I rx ry h
  obtain ⟨l, k, xs, rfl, rfl, hT, h1, h2, qa, qb, hor⟩ := h
  cases rx
  obtain ⟨t, rfl⟩ := ry
  obtain ⟨its, r, ⟨⟨cls, dd, data, sl⟩, ho, hc, n, hd⟩, hs⟩ := I.tuple hT
  simp only at hc hd
  subst hc hd
  have c0 : (decide (k < -(2 ^ 63)) || decide (k ≥ 2 ^ 63)) = false := by
    rw [decide_eq_false (by omega), decide_eq_false (by omega)] <;> rfl
  have hi : its.toArray.isEmpty = decide (xs = []) := by
    cases r with
    | nil => rfl
    | cons _ _ => rfl
  by_cases hq : xs = [] ∨ k = 1
  · have c1 : (its.toArray.isEmpty || k == 1) = true := by
      rw [hi]
      rcases hq with e | e
      · simp [e]
      · simp [e]
    refine wpAny_binaryOp_repeat_ref (T := "tuple") (U := "int") (by decide) ⟨_, ho, rfl⟩ (fun s' => typeIs_int s' k t) noFill_tuple_mul F.fills_int_mul F.slot_int_rmul repeat_tuple F.slot_int_index.lookup
      (call_meets F.slot_int_rmul (typeIs_int s k t) F.entry_int_rmul (F.args_int_rmul_2 _ _) (int_rmul_tuple k t l its.toArray n dd sl)
        ⟨ho, rfl, ⟨_, ho, rfl⟩, call_meets F.slot_tuple_mul ⟨_, ho, rfl⟩ F.entry_tuple_mul (F.args_tuple_mul_2 _ _) (tuple_mulSame l its.toArray n dd sl k t c0 c1) ⟨ho, ?_⟩⟩)
    exact ⟨.ref l, H, I, rfl, qa hq⟩
  · have hne : xs ≠ [] := fun e => hq (.inl e)
    have hk : k = 0 := by
      have : k ≠ 1 := fun e => hq (.inr e)
      rcases hor with e | e
      · exact absurd e hne
      · omega
    have c1 : (its.toArray.isEmpty || k == 1) = false := by
      rw [hi]
      simp [hne, hk]
    have c2 : (decide (k ≤ 0) || its.toArray.isEmpty) = true := by simp [hk]
    refine wpAny_binaryOp_repeat_ref (T := "tuple") (U := "int") (by decide) ⟨_, ho, rfl⟩ (fun s' => typeIs_int s' k t) noFill_tuple_mul F.fills_int_mul F.slot_int_rmul repeat_tuple F.slot_int_index.lookup
      (call_meets F.slot_int_rmul (typeIs_int s k t) F.entry_int_rmul (F.args_int_rmul_2 _ _) (int_rmul_tuple k t l its.toArray n dd sl)
        ⟨ho, rfl, ⟨_, ho, rfl⟩, call_meets F.slot_tuple_mul ⟨_, ho, rfl⟩ F.entry_tuple_mul (F.args_tuple_mul_2 _ _) (tuple_mulNone l its.toArray n dd sl k t c0 c1 c2) ⟨ho, ?_⟩⟩)
    refine ⟨.ref s.heap.objs.size, _, I.laid (t' := s.toks) (o := .tup []) (fun b ob q => Heap.get?_push_of_some _ q) (Nat.le_refl _) ?_, rfl, qb hne hk _ (I.hok.fresh (Nat.le_refl _))⟩
    exact ⟨Nat.zero_le _, _, .nil, IsTup.new _ _⟩
theorem or_mulG : OpR X (binaryOp .Mult) (rMulG X.K) := or_mul.or op_repS
theorem rep_one {α : Type} (xs : List α) : (List.replicate 1 xs).flatten = xs := by simp
theorem od_mulG : OpD X (rMulG X.K) mulG := by
  intro G O P ts env σ F H x y d1 d2 s Q S h1 h2 e q
  unfold mulG at e
  split at e
  · rename_i ds k
    split at e
    · rename_i hl
      by_cases hb : ds ≠ [] ∧ 2 ≤ k
      · exact .inl (od_mul G O P ts env σ F H x y _ _ s Q S h1 h2 (by simp only [mulD]; rw [if_pos ⟨hl.1, hb.1, hb.2, hl.2.2⟩]; exact e) q)
      · cases e
        have h2' := h2
        cases h2
        obtain ⟨a, xs, rfl, q1, r1⟩ := Sh.tup S.fh h1
        have hxs : xs = [] ↔ ds = [] := by
          rw [← List.length_eq_zero_iff, ← List.length_eq_zero_iff, r1.length]
        refine .inr ⟨a, _, xs, rfl, rfl, q1, hl.2.1, by omega, fun z => ?_, fun hn hk p np => ?_, ?_⟩
        · have e : (List.replicate k.toNat ds).flatten = ds := by
            rcases z with z | z
            · rw [hxs.mp z]; simp
            · rw [z]; exact rep_one ds
          rw [e] at q
          exact q _ F H S h1
        · subst hk
          obtain ⟨S2, R2⟩ := S.valT np (.nil (K := X.K))
          exact q _ _ _ S2 R2
        · by_cases hd : ds = []
          · exact .inl (hxs.mpr hd)
          · refine .inr ?_
            by_cases h2k : 2 ≤ k
            · exact absurd ⟨hd, h2k⟩ hb
            · omega
    · cases e
  · exact .inl (od_mul G O P ts env σ F H x y _ _ s Q S h1 h2 e q)
end
end DL
set_option Elab.async false
set_option linter.all false
set_option maxRecDepth 100000
set_option maxHeartbeats 4000000
namespace DL
open PySem PySem.Spec PyProof.Rows L2

/-! ### f(x, a, .., y): x's list is got to change, y's list is lent -/
def lendA (j : Nat) (dj : List PyData) : List Sl → Option (List PyData)
  | [] => some []
  | .val d :: r => match lendA j dj r with
    | some ds => some (d :: ds)
    | none => none
  | .al k :: r => if k = j then (match lendA j dj r with
    | some ds => some (.list dj :: ds)
    | none => none) else none
  | _ :: _ => none
/-- of scalars, or one -/
def flatD : PyData → Bool
  | .tuple ds => ds.all scalD
  | d => scalD d
def lendEnd (i : Nat) (s : Sl) (m : M (Sl × EnvD)) (env : EnvD) : M (Sl × EnvD) := match m with
  | some (.ok (.val d, some (.pen (.lst es)) :: _)) => if flatD d = true ∧ es.all scalD = true then M.ok (.val d, env.set i (some (reO s (.lst es)))) else none
  | _ => none
def callPLr (j : Nat) (m : MF) (ss : List Sl) (env : EnvD) : M (Sl × EnvD) := match ss with
  | .al i :: rest => if i = j then none else match env[j]? with
    | some (some (.own (.lst dj))) => match lendA j dj rest with
      | some ds => match slotO i env with
        | some (s, o) => lendEnd i s (m (.pen o :: ds.map .val)) env
        | none => none
      | none => none
    | _ => none
  | _ => none
def callPL (j : Nat) (m : MF) (f : FA) : FE := fun env => M.bind (f env) fun p => callPLr j m p.1 p.2
theorem scal_any {K : PySem.W.Frag} {F F2 : Hp} {v : V} {d : PyData} (r : Rp K F v d) (s : scalD d = true) : Rp K F2 v d := by
  cases d with
  | none => cases r; exact .non
  | bool b => cases r; exact .bl b
  | int i => cases r; exact .int i
  | str x => cases r; exact .str x
  | _ => cases s
theorem scalL_any {K : PySem.W.Frag} {F F2 : Hp} : ∀ {vs : List V} {ds : List PyData}, RpL K F vs ds → ds.all scalD = true → RpL K F2 vs ds
  | _, _, .nil, _ => .nil
  | _, _, .cons h r, q => by
    simp only [List.all_cons, Bool.and_eq_true] at q
    exact .cons (scal_any h q.1) (scalL_any r q.2)
theorem lendA_ok {K : PySem.W.Frag} {G O F F2 H : Hp} {P : Nat → Option Addr} {ts : List (Sl × V)} {env : EnvD} {σ : L2.St} {j : Nat} {dj : List PyData} {a : Addr} (S : SR K G O P ts env σ F H) (m : Same F F2) (hv : σ[j]? = some (some (.ref a))) (ra : Rp K F2 (.ref a) (.list dj)) :
    ∀ {rest : List Sl} {ds : List PyData} {vs : List V}, lendA j dj rest = some ds → rest.length = vs.length → (∀ p ∈ rest.zip vs, p ∈ ts) → RpL K F2 vs ds
  | [], ds, vs, h, hl, _ => by
    cases h
    cases vs with
    | nil => exact .nil
    | cons _ _ => cases hl
  | s :: rest, ds, [], h, hl, _ => by cases hl
  | s :: rest, ds, v :: vs, h, hl, ht => by
    have h1 := S.tmp (s, v) (ht _ (by simp))
    have go : ∀ ds1, lendA j dj rest = some ds1 → RpL K F2 vs ds1 := fun ds1 e => lendA_ok S m hv ra e (by simpa using hl) fun p hp => ht p (by simp [hp])
    cases s with
    | val d =>
      unfold lendA at h
      split at h
      · cases h
        rename_i e
        exact .cons (Rp.mono m _ _ h1) (go _ e)
      · cases h
    | al k =>
      unfold lendA at h
      split at h
      · rename_i hk
        subst hk
        split at h
        · cases h
          rename_i e
          have h2 : σ[k]? = some (some v) := h1
          rw [hv] at h2
          cases h2
          exact .cons ra (go _ e)
        · cases h
      · cases h
    | own o => cases h
    | pen o => cases h
section
variable {X : Cx} {W : WX} {e : Expr} {es : List Expr} {pos : Pos} {x : Str} {p : Pos} {k : Nat} {fA : FA}
theorem de_callPL {gd : Bool} {f : Addr} {fd : FuncData} {ps : List Str} {m : MF} (j : Nat) (Fn : FnG gd X.prog X.w X.K X.mg X.base (L2.CX X.prog X.w) k f fd ps (spD X.K X.mg m)) (hr : RG gd k X.A) (hg : Gl X x) (hm : X.mg x = some (.ref f)) (hk : PySem.W.keepIn X.K (.ref f) = true) (hb : Binds X.K fd ps [])
    (tk : Takes X W) (ha : DA X W (e :: es) fA) (hdb : (x == ("__debug__" : Str)) = false := by decide) (he : starEach (e :: es) X.env = (false, eval e X.env) :: starEach es X.env := by rfl) (hpl : (backTo pos (starEach es X.env)).any (·.1) = false := by rfl) :
    DE X W (.Call (.Name x p) (e :: es) [] pos) (callPL j m fA) := by
  obtain ⟨t, pa, sa⟩ := ha.ex
  refine ⟨_, pe_callG Fn hr hg hm hk hb .nil (fun σ => passAt tk σ) pa hdb he hpl, fun G O P ts env σ F H Q S hp => ?_⟩
  refine sa.thn (k := fun ss env' => callPLr j m ss env') S hp fun ss env' vs F' H' hl S' hp' => ?_
  unfold callPLr at hp'
  split at hp'
  · rename_i i rest
    split at hp'
    · exact hp'.elim
    rename_i hij
    split at hp'
    · rename_i dj hej
      split at hp'
      · rename_i ds hds
        split at hp'
        · rename_i s o q2
          cases vs with
          | nil => cases hl
          | cons v0 vs =>
            have hv0 : σ[i]? = some (some v0) := S'.tmp (.al i, v0) (by simp)
            have S3 : SR X.K G O P ts env' σ F' H' := S'.sub fun p hp => List.mem_append_right _ hp
            obtain ⟨a, f1, f2, f3, f4, f5⟩ := S3.slO q2
            obtain ⟨g1, g2⟩ := slotO_ok q2
            rw [hv0] at f1
            cases f1
            obtain ⟨w, b1, b, rfl, bF, bO, bw⟩ := S3.slot j _ hej
            have hab : a ≠ b := fun z => by
              subst z
              exact hij (S3.sep i j s _ a g1 hej f5 trivial hv0 b1)
            obtain ⟨xs, hx, rx⟩ := id bw
            have m2 : Same F' (upd F' b (.lst xs)) := same_new bF
            have ra : Rp X.K (upd F' b (.lst xs)) (.ref b) (.list dj) := bw.rp hx bF
            have hex : ∀ (j : Nat) (t : Sl) (c : Addr), (env'.set i none)[j]? = some (some t) → t.owns → σ[j]? = some (some (.ref c)) → ¬ (c = a) := fun l t c z1 z2 z3 z4 => by
              subst z4
              by_cases hil : i = l
              · subst hil
                have hlt := (List.getElem?_eq_some_iff.mp g1).1
                rw [List.getElem?_set_self hlt] at z1
                cases z1
              · rw [List.getElem?_set_ne hil] at z1
                exact hil (S3.sep i l s t c g1 z1 f5 z2 hv0 z3)
            have Sf := S3.forget i
            have hejF : (env'.set i none)[j]? = some (some (.own (.lst dj))) := by rw [List.getElem?_set_ne hij]; exact hej
            have fh2 : Same (upd F' b (.lst xs)) H' := (upd_same_of hx).mpr fun c y _ q => S3.fh c y q
            have ob : ownO (env'.set i none) σ O H' (fun c => c = a ∨ c = b) b = none := by
              unfold ownO
              rw [if_neg fun z => z.2 (.inr rfl)]
              exact bO
            have oa : ownO (env'.set i none) σ O H' (fun c => c = a ∨ c = b) a = O a := by
              unfold ownO
              rw [if_neg fun z => z.2 (.inl rfl)]
            have odj : ∀ c y, ownO (env'.set i none) σ O H' (fun c => c = a ∨ c = b) c = some y → upd F' b (.lst xs) c = none := fun c y q => by
              by_cases hc : c = b
              · subst hc; rw [ob] at q; cases q
              · rw [upd_ne hc]; exact ownO_F Sf c y q
            have nt2 : NoT (upd F' b (.lst xs)) := S3.nt.new fun ps z => by cases z
            have rL := lendA_ok (vs := vs) S' m2 b1 ra hds (by simpa using hl) fun p hp => by simp [hp]
            have Sc : SR X.K (upd F' b (.lst xs)) (ownO (env'.set i none) σ O H' (fun c => c = a ∨ c = b)) (fun l => if l = 0 then some a else none) [] ((Sl.pen o :: ds.map .val).map some) ((V.ref a :: vs).map some) (upd F' b (.lst xs)) H' := by
              have Sv := vals_sr (O := ownO (env'.set i none) σ O H' (fun c => c = a ∨ c = b)) fh2 (ownO_H Sf) nt2 odj rL
              refine ⟨Sv.gf, Sv.fh, Sv.oh, Sv.dj, by simpa using Sv.len, fun l t z => ?_, fun p hp => absurd hp (by simp), fun l k t t' c z1 z2 w1 w2 y1 y2 => ?_, Sv.nt⟩
              · cases l with
                | zero =>
                  simp at z
                  subst z
                  exact ⟨.ref a, rfl, a, rfl, rfl, by rw [upd_ne hab]; exact f2, by rw [oa]; exact f3, f4.mono m2 rfl⟩
                | succ l =>
                  obtain ⟨w, u1, u2⟩ := Sv.slot l t (by simpa using z)
                  refine ⟨w, by simpa using u1, ?_⟩
                  cases t with
                  | val d => exact u2
                  | own o' => exact u2
                  | pen o' =>
                    obtain ⟨_, _, y, _⟩ := u2
                    cases y
                  | al l => exact u2
              · have only0 : ∀ (l : Nat) (t : Sl), ((Sl.pen o :: ds.map Sl.val).map some)[l]? = some (some t) → t.owns → l = 0 := fun l t z w => by
                  cases l with
                  | zero => rfl
                  | succ l =>
                    simp at z
                    obtain ⟨d, _, rfl⟩ := z
                    exact w.elim
                rw [only0 l t z1 w1, only0 k t' z2 w2]
            refine ⟨.pen o :: ds.map .val, fun l => if l = 0 then some a else none, upd F' b (.lst xs), ownO (env'.set i none) σ O H' (fun c => c = a ∨ c = b), fun s hs => ?_, ?_, ?_⟩
            · rcases List.mem_cons.mp hs with rfl | hs
              · trivial
              · obtain ⟨d, _, rfl⟩ := List.mem_map.mp hs
                trivial
            · rw [List.append_nil]; exact Sc
            · rw [List.append_nil]
              unfold lendEnd at hp'
              split at hp'
              · rename_i d es' tl q3
                rw [q3]
                split at hp'
                · rename_i hfl
                  intro v F4 H4 S4 r4
                  -- what stays, the lent list taken out
                  have h4b : F4 b = some (.lst xs) := S4.gf b _ upd_same
                  have H4b : H4 b = some (.lst xs) := S4.fh b _ h4b
                  have key : ∀ F5 : Hp, F5 = (fun c => if c = b then none else F4 c) → SR X.K G O P ts (env'.set i (some (reO s (.lst es')))) σ F5 H4 ∧ ∀ v : V, Rp X.K F4 v d → Rp X.K F5 v d := fun F5 e5 => by
                    have f5b : F5 b = none := by rw [e5]; simp
                    have f5o : ∀ c, c ≠ b → F5 c = F4 c := fun c hc => by rw [e5]; simp [hc]
                    have sub54 : ∀ c y, F5 c = some y → F4 c = some y := fun c y q => by
                      by_cases hc : c = b
                      · subst hc; rw [f5b] at q; cases q
                      · rw [← f5o c hc]; exact q
                    have gf5 : Same F' F5 := fun c y q => by
                      have hc : c ≠ b := fun z => by subst z; rw [bF] at q; cases q
                      rw [f5o c hc]
                      exact S4.gf c y (m2 c y q)
                    have fh5 : Same F5 H4 := fun c y q => S4.fh c y (sub54 c y q)
                    have oh5 : SameO X.K (ownO (env'.set i none) σ O H' (fun c => c = a)) H4 := by
                      refine ⟨fun c y q => ?_, fun c ps q => ?_, S4.oh.tb⟩
                      · by_cases hc : c = b
                        · subst hc
                          have z := ownO_at (O := O) (ex := fun c => c = a) Sf hejF trivial b1 (fun z => hab z.symm)
                          rw [z, hx] at q
                          cases q
                          exact H4b
                        · refine S4.oh.val c y ?_
                          rw [← q]
                          unfold ownO
                          by_cases hA : (∃ (l : Nat) (t : Sl), (env'.set i none)[l]? = some (some t) ∧ t.owns ∧ σ[l]? = some (some (.ref c))) ∧ ¬ (c = a)
                          · rw [if_pos hA, if_pos ⟨hA.1, fun z => z.elim hA.2 hc⟩]
                          · rw [if_neg hA, if_neg fun z => hA ⟨z.1, fun y => z.2 (.inl y)⟩]
                      · exact (ownO_H (ex := fun c => c = a) Sf).nt c ps q
                    have dj5 : ∀ c y, ownO (env'.set i none) σ O H' (fun c => c = a) c = some y → F5 c = none := fun c y q => by
                      by_cases hc : c = b
                      · subst hc; exact f5b
                      · rw [f5o c hc]
                        refine S4.dj c y ?_
                        rw [← q]
                        unfold ownO
                        by_cases hA : (∃ (l : Nat) (t : Sl), (env'.set i none)[l]? = some (some t) ∧ t.owns ∧ σ[l]? = some (some (.ref c))) ∧ ¬ (c = a)
                        · rw [if_pos hA, if_pos ⟨hA.1, fun z => z.elim hA.2 hc⟩]
                        · rw [if_neg hA, if_neg fun z => hA ⟨z.1, fun y => z.2 (.inl y)⟩]
                    have nt5 : NoT F5 := fun c ps q => S4.nt c ps (sub54 c _ q)
                    have Sb : SR X.K G O P ts (env'.set i none) σ F5 H4 := Sf.back gf5 fh5 oh5 dj5 hex nt5
                    obtain ⟨w, u1, u2⟩ := S4.slot 0 (.pen (.lst es')) rfl
                    cases u1
                    obtain ⟨c, e1, e2, e3, e4, ys, e6, e7⟩ := u2
                    cases e1
                    refine ⟨S3.retell Sb q2 hv0 (by rw [f5o a hab]; exact e3) f3 ⟨ys, e6, scalL_any e7 hfl.2⟩, fun v r => ?_⟩
                    have h1 := hfl.1
                    cases d with
                    | tuple zs =>
                      cases r with
                      | tup hs hr =>
                        rename_i q xs'
                        refine .tup ?_ (scalL_any hr h1)
                        rcases hs with hs | hs
                        · rcases hs with hs | ⟨oo, hs⟩
                          · have hq : q ≠ b := fun z => by subst z; rw [h4b] at hs; cases hs
                            exact .inl (.inl (by rw [f5o q hq]; exact hs))
                          · have hq : q ≠ b := fun z => by subst z; rw [h4b] at hs; cases hs
                            exact .inl (.inr ⟨oo, by rw [f5o q hq]; exact hs⟩)
                        · exact .inr hs
                    | none => exact scal_any r h1
                    | bool _ => exact scal_any r h1
                    | int _ => exact scal_any r h1
                    | str _ => exact scal_any r h1
                    | _ => cases h1
                  obtain ⟨S5, r5⟩ := key _ rfl
                  exact hp' v _ H4 S5 (r5 v r4)
                · exact hp'.elim
              · exact hp'.elim
        · exact hp'.elim
      · exact hp'.elim
    · exact hp'.elim
  · exact hp'.elim
theorem de_cPL {gd gd' : Bool} {ps : List Str} {m : MF} {l : Nat} (j : Nat) (C : Callee gd' X.prog X.w X.K X.mg X.base k x ps m) (hr : RG gd l X.A) (hj : k ≤ l) (tk : Takes X W) (hg : Gl X x) (ha : DA X W (e :: es) fA) (hdb : (x == ("__debug__" : Str)) = false := by decide) (he : starEach (e :: es) X.env = (false, eval e X.env) :: starEach es X.env := by rfl) (hpl : (backTo pos (starEach es X.env)).any (·.1) = false := by rfl) (hle : (!gd' || gd) = true := by rfl) :
    DE X W (.Call (.Name x p) (e :: es) [] pos) (callPL j m fA) := by
  obtain ⟨f, fd, h1, h2, h3, h4⟩ := C.ex
  exact de_callPL j h1 ((hr.mono hj).le hle) hg h2 h3 h4 tk ha hdb he hpl
end
end DL
set_option Elab.async false
set_option linter.all false
set_option maxRecDepth 100000
set_option maxHeartbeats 0
namespace WH
open PySem PySem.Spec PyProof.Rows L2 DL He
def dic_BOUNDS : List (Str × PyData) := [("source", .tuple [.tuple [.int 0, .int 200]]), ("tank", .tuple [.tuple [.int 0, .int 150], .tuple [.int 1, .int 50], .tuple [.int 1, .int 50]])]
def f_is_whole : FS := (retF (eAnd (e1 (isiD .int) (eVar 0)) (eNot (e1 (isiD .bool) (eVar 0)))))
def m_is_whole : MF := bodyF 1 1 f_is_whole
def f_is_number : FS := (retF (eAnd (callV m_is_whole [] (aCons (eVar 0) aNil)) (eChain leD leD (eVar 1) (eVar 0) (eVar 2))))
def m_is_number : MF := bodyF 3 3 f_is_number
def f_is_place_joint : FS := (seqF (asgG (gtTup (gtCons (gtName 1) (gtCons (gtName 2) (gtCons (gtName 3) (gtCons (gtName 4) gtNil))))) (eVar 0))
    (retF (eAnd (callV m_is_number [] (aCons (eVar 2) (aCons (eC (.int 0)) (aCons (eC (.int 100)) aNil)))) (eAnd (callV m_is_number [] (aCons (eVar 4) (aCons (eC (.int 0)) (aCons (eC (.int 200)) aNil)))) (callV m_is_number [] (aCons (eVar 3) (aCons (eC (.int 0)) (aCons (eVar 4) aNil))))))))
def m_is_place_joint : MF := bodyF 1 5 f_is_place_joint
def f_is_joint : FS := (seqF (ifF (tOrF (tNotF (eT (e1 (isiD .tuple) (eVar 0)))) (tOrF (eT (e2 eqD (eVar 0) (eTup aNil))) (tNotF (eT (e1 (isiD .str) (e2 ixD (eVar 0) (eC (.int 0)))))))) (retF (eC (.bool false))) nilF)
    (seqF (ifF (eT (e2 eqD (e2 ixD (eVar 0) (eC (.int 0))) (eC (.str (Str.ofString "place"))))) (retF (eAnd (e2 eqD (eCB lenD (aCons (eVar 0) aNil)) (eC (.int 4))) (callV m_is_place_joint [] (aCons (eVar 0) aNil)))) nilF)
    (seqF (asgF 1 (eKGet dic_BOUNDS (e2 ixD (eVar 0) (eC (.int 0)))))
    (seqF (ifF (tOrF (eT (e2 isD (eVar 1) (eC .none))) (eT (e2 neD (eCB lenD (aCons (eVar 0) aNil)) (e2 addD (eCB lenD (aCons (eVar 1) aNil)) (eC (.int 1)))))) (retF (eC (.bool false))) nilF)
    (retF (eCB allD (aCons (lcF (argI zipI (aCons (eSl (eVar 0) (oSome (eC (.int 1))) oNone) (aCons (eVar 1) aNil))) (gtTup (gtCons (gtName 4) (gtCons (gtTup (gtCons (gtName 3) (gtCons (gtName 2) gtNil))) gtNil))) yesF (callV m_is_number [] (aCons (eVar 4) (aCons (eVar 3) (aCons (eVar 2) aNil)))) [4, 3, 2]) aNil)))))))
def m_is_joint : MF := bodyF 1 5 f_is_joint
def f_is_pipe : FS := (seqF (ifF (tOrF (tNotF (eT (e1 (isiD .tuple) (eVar 1)))) (eT (e2 neD (eCB lenD (aCons (eVar 1) aNil)) (eC (.int 7))))) (retF (eC (.bool false))) nilF)
    (seqF (asgG (gtTup (gtCons (gtName 2) (gtCons (gtName 3) (gtCons (gtName 4) (gtCons (gtName 5) (gtCons (gtName 6) (gtCons (gtName 7) (gtCons (gtName 8) gtNil)))))))) (eVar 1))
    (seqF (ifF (tOrF (tNotF (eT (callV m_is_number [] (aCons (eVar 2) (aCons (eC (.int 0)) (aCons (e2 subD (eVar 0) (eC (.int 1))) aNil)))))) (tOrF (tNotF (eT (callV m_is_number [] (aCons (eVar 3) (aCons (eC (.int 0)) (aCons (e2 subD (eVar 0) (eC (.int 1))) aNil)))))) (eT (e2 eqD (eVar 2) (eVar 3))))) (retF (eC (.bool false))) nilF)
    (seqF (ifF (tOrF (tNotF (eT (callV m_is_number [] (aCons (eVar 4) (aCons (eC (.int 1)) (aCons (eC (.int 20)) aNil)))))) (tOrF (tNotF (eT (e1 (isiD .str) (eVar 5)))) (eT (e2 ninD (eVar 5) (eTup (aCons (eC (.str (Str.ofString "both"))) (aCons (eC (.str (Str.ofString "on"))) aNil))))))) (retF (eC (.bool false))) nilF)
    (seqF (ifF (tOrF (tNotF (eT (callV m_is_number [] (aCons (eVar 6) (aCons (eC (.int 0)) (aCons (eIf (eT (e2 eqD (eVar 5) (eC (.str (Str.ofString "on"))))) (eC (.int 50)) (eC (.int 0))) aNil)))))) (tNotF (eT (e1 (isiD .bool) (eVar 7))))) (retF (eC (.bool false))) nilF)
    (retF (callV m_is_number [] (aCons (eVar 8) (aCons (eC (.int 0)) (aCons (eC (.int 20)) aNil))))))))))
def m_is_pipe : MF := bodyF 2 9 f_is_pipe
def f_is_net : FS := (seqF (ifF (tOrF (tNotF (eT (e1 (isiD .tuple) (eVar 0)))) (tOrF (eT (e2 neD (eCB lenD (aCons (eVar 0) aNil)) (eC (.int 2)))) (tNotF (eT (eCB allD (aCons (lcF (seqI (eVar 0)) (gtName 3) yesF (e1 (isiD .tuple) (eVar 3)) [3]) aNil)))))) (retF (eC (.bool false))) nilF)
    (seqF (asgG (gtTup (gtCons (gtName 1) (gtCons (gtName 2) gtNil))) (eVar 0))
    (seqF (ifF (tOrF (tNotF (eT (eChain leD leD (eC (.int 2)) (eCB lenD (aCons (eVar 1) aNil)) (eC (.int 7))))) (tNotF (eT (eCB allD (aCons (lcF (seqI (eVar 1)) (gtName 4) yesF (callV m_is_joint [] (aCons (eVar 4) aNil)) [4]) aNil))))) (retF (eC (.bool false))) nilF)
    (seqF (ifF (tOrF (tNotF (eT (eChain leD leD (eC (.int 1)) (eCB lenD (aCons (eVar 2) aNil)) (eC (.int 9))))) (tNotF (eT (eCB allD (aCons (lcF (seqI (eVar 2)) (gtName 5) yesF (callV m_is_pipe [] (aCons (eCB lenD (aCons (eVar 1) aNil)) (aCons (eVar 5) aNil))) [5]) aNil))))) (retF (eC (.bool false))) nilF)
    (retF (e2 leD (eCB lenD (aCons (lcF (seqI (eVar 2)) (gtName 5) (eT (e2 eqD (e2 ixD (eVar 5) (eC (.int 3))) (eC (.str (Str.ofString "on"))))) (eVar 5) [5]) aNil)) (eC (.int 4))))))))
def m_is_net : MF := bodyF 1 6 f_is_net
def f_need_net : FS := (ifF (tNotF (eT (callV m_is_net [] (aCons (eVar 0) aNil)))) (raiseF "NoNet") nilF)
def m_need_net : MF := bodyF 1 1 f_need_net
def f_is_place : FS := (retF (eAnd (callV m_is_number [] (aCons (eVar 1) (aCons (eC (.int 0)) (aCons (e2 subD (eCB lenD (aCons (e2 ixD (eVar 0) (eC (.int 0))) aNil)) (eC (.int 1))) aNil)))) (e2 eqD (e2 ixD (e2 ixD (e2 ixD (eVar 0) (eC (.int 0))) (eVar 1)) (eC (.int 0))) (eC (.str (Str.ofString "place"))))))
def m_is_place : MF := bodyF 2 2 f_is_place
def f_is_pump : FS := (retF (e2 gtD (e2 ixD (e2 ixD (e2 ixD (eVar 0) (eC (.int 1))) (eVar 1)) (eC (.int 4))) (eC (.int 0))))
def m_is_pump : MF := bodyF 2 2 f_is_pump
def f_can_shut : FS := (retF (eAnd (callV m_is_number [] (aCons (eVar 1) (aCons (eC (.int 0)) (aCons (e2 subD (eCB lenD (aCons (e2 ixD (eVar 0) (eC (.int 1))) aNil)) (eC (.int 1))) aNil)))) (eOr (e2 ixD (e2 ixD (e2 ixD (eVar 0) (eC (.int 1))) (eVar 1)) (eC (.int 5))) (callV m_is_pump [] (aCons (eVar 0) (aCons (eVar 1) aNil))))))
def m_can_shut : MF := bodyF 2 2 f_can_shut
def f_are_rising : FS := (retF (eCB allD (aCons (lcF (argI zipI (aCons (eSl (eVar 0) oNone (oSome (e1 negD (eC (.int 1))))) (aCons (eSl (eVar 0) (oSome (eC (.int 1))) oNone) aNil))) (gtTup (gtCons (gtName 1) (gtCons (gtName 2) gtNil))) yesF (e2 ltD (eVar 1) (eVar 2)) [1, 2]) aNil)))
def m_are_rising : MF := bodyF 1 3 f_are_rising
def f_are_shut : FS := (retF (eAnd (e1 (isiD .tuple) (eVar 1)) (eAnd (eCB allD (aCons (lcF (seqI (eVar 1)) (gtName 2) yesF (callV m_can_shut [] (aCons (eVar 0) (aCons (eVar 2) aNil))) [2]) aNil)) (callV m_are_rising [] (aCons (eVar 1) aNil)))))
def m_are_shut : MF := bodyF 2 3 f_are_shut
def f_end_from : FS := (seqF (ifF (eT (e2 eqD (e2 ixD (eVar 0) (eC (.int 0))) (eVar 1))) (retF (e2 ixD (eVar 0) (eC (.int 1)))) nilF)
    (retF (eIf (tAndF (eT (e2 eqD (e2 ixD (eVar 0) (eC (.int 1))) (eVar 1))) (eT (e2 eqD (e2 ixD (eVar 0) (eC (.int 3))) (eC (.str (Str.ofString "both")))))) (e2 ixD (eVar 0) (eC (.int 0))) (eC .none))))
def m_end_from : MF := bodyF 2 2 f_end_from
def f_begins : FS := (retF (lcF (argI rng1I (aCons (eCB lenD (aCons (e2 ixD (eVar 0) (eC (.int 0))) aNil)) aNil)) (gtName 1) (tNotF (eT (callV m_is_place [] (aCons (eVar 0) (aCons (eVar 1) aNil))))) (eVar 1) [1]))
def m_begins : MF := bodyF 1 2 f_begins
def f_fed_by__2 : FS := (seqF (asgF 2 (callV m_begins [] (aCons (eVar 0) aNil)))
    (seqF (asgF 3 (eCB listD (aCons (eVar 2) aNil)))
    (seqF (whileF (fun _ => 60) (eT (e2 neD (eVar 3) (eLst aNil))) (seqF (asgF 4 (ePop 3))
    (forF (argI enumI (aCons (e2 ixD (eVar 0) (eC (.int 1))) aNil)) (gtTup (gtCons (gtName 5) (gtCons (gtName 6) gtNil))) (seqF (asgF 7 (callV m_end_from [] (aCons (eVar 6) (aCons (eVar 4) aNil))))
    (ifF (tAndF (eT (e2 ninD (eVar 5) (eVar 1))) (tAndF (eT (e2 isntD (eVar 7) (eC .none))) (eT (e2 ninD (eVar 7) (eVar 2))))) (seqF (dropF (eApp 2 (eVar 7)))
    (dropF (eApp 3 (eVar 7)))) nilF)))))
    (retF (eVar 2)))))
def m_fed_by__2 : MF := bodyF 2 8 f_fed_by__2
def f_gates_in : FS := (retF (lcF (argI enumI (aCons (e2 ixD (eVar 0) (eC (.int 1))) aNil)) (gtTup (gtCons (gtName 2) (gtCons (gtName 3) gtNil))) (tAndF (eT (e2 ixD (eVar 3) (eC (.int 5)))) (eT (e2 ninD (eVar 2) (eVar 1)))) (eVar 2) [2, 3]))
def m_gates_in : MF := bodyF 2 4 f_gates_in
def f_lots_of (mR : MF) : FS := (seqF (ifF (eT (e2 eqD (eVar 1) (eC (.int 0)))) (retF (eLst (aCons (eTup aNil) aNil))) nilF)
    (seqF (asgF 2 (eLst aNil))
    (seqF (forF (argI enumI (aCons (eVar 0) aNil)) (gtTup (gtCons (gtName 3) (gtCons (gtName 4) gtNil))) (dropF (eExt 2 (lcF (seqI (callV mR [] (aCons (eSl (eVar 0) (oSome (e2 addD (eVar 3) (eC (.int 1)))) oNone) (aCons (e2 subD (eVar 1) (eC (.int 1))) aNil)))) (gtName 5) yesF (e2 addD (eTup (aCons (eVar 4) aNil)) (eVar 5)) [5]))))
    (retF (eVar 2)))))
def m_lots_of : Nat → MF
  | 0 => fun _ => none
  | n + 1 => bodyF 2 6 (f_lots_of (m_lots_of n))
def f_fewest_gates : FS := (seqF (asgF 3 (callV m_gates_in [] (aCons (eVar 0) (aCons (eVar 2) aNil))))
    (seqF (forF (argI rng1I (aCons (e2 addD (eCB lenD (aCons (eVar 3) aNil)) (eC (.int 1))) aNil)) (gtName 4) (forF (seqI (callV (m_lots_of 12) [] (aCons (eVar 3) (aCons (eVar 4) aNil)))) (gtName 5) (ifF (eT (e2 ninD (eVar 1) (callV m_fed_by__2 [] (aCons (eVar 0) (aCons (e2 addD (eVar 2) (eVar 5)) aNil))))) (retF (eVar 5)) nilF)))
    (retF (eC .none))))
def m_fewest_gates : MF := bodyF 3 6 f_fewest_gates
def f_ways_from (mR : MF) : FS := (seqF (asgF 5 (eLst aNil))
    (seqF (forF (argI enumI (aCons (e2 ixD (eVar 0) (eC (.int 1))) aNil)) (gtTup (gtCons (gtName 6) (gtCons (gtName 7) gtNil))) (seqF (asgF 8 (callV m_end_from [] (aCons (eVar 7) (aCons (e2 ixD (eVar 4) (e1 negD (eC (.int 1)))) aNil))))
    (ifF (tAndF (eT (e2 ninD (eVar 6) (eVar 1))) (tAndF (eT (e2 isntD (eVar 8) (eC .none))) (eT (e2 ninD (eVar 8) (eVar 4))))) (ifF (eT (e2 eqD (eVar 8) (eVar 2))) (dropF (eApp 5 (e2 addD (eVar 3) (eTup (aCons (eVar 6) aNil))))) (ifF (eT (callV m_is_place [] (aCons (eVar 0) (aCons (eVar 8) aNil)))) (dropF (eExt 5 (callV mR [] (aCons (eVar 0) (aCons (eVar 1) (aCons (eVar 2) (aCons (e2 addD (eVar 3) (eTup (aCons (eVar 6) aNil))) (aCons (e2 addD (eVar 4) (eTup (aCons (eVar 8) aNil))) aNil)))))))) nilF)) nilF)))
    (retF (eVar 5))))
def m_ways_from : Nat → MF
  | 0 => fun _ => none
  | n + 1 => bodyF 5 9 (f_ways_from (m_ways_from n))
def f_ways_to : FS := (retF (lc2F (seqI (callV m_begins [] (aCons (eVar 0) aNil))) (gtName 3) yesF (seqI (callV (m_ways_from 9) [] (aCons (eVar 0) (aCons (eVar 1) (aCons (eVar 2) (aCons (eTup aNil) (aCons (eTup (aCons (eVar 3) aNil)) aNil))))))) (gtName 4) yesF (eVar 4) [3, 4] [4]))
def m_ways_to : MF := bodyF 3 5 f_ways_to
def f_gates_on : FS := (retF (lcF (seqI (eVar 1)) (gtName 2) (eT (e2 ixD (e2 ixD (e2 ixD (eVar 0) (eC (.int 1))) (eVar 2)) (eC (.int 5)))) (eVar 2) [2]))
def m_gates_on : MF := bodyF 2 3 f_gates_on
def f_apart_ways (mR : MF) : FS := (seqF (ifF (eT (e2 eqD (eVar 2) (eC (.int 0)))) (retF (eTup aNil)) nilF)
    (seqF (forF (argI enumI (aCons (eVar 1) aNil)) (gtTup (gtCons (gtName 3) (gtCons (gtName 4) gtNil))) (seqF (asgF 5 (callV m_gates_on [] (aCons (eVar 0) (aCons (eVar 4) aNil))))
    (seqF (asgF 6 (lcF (seqI (eSl (eVar 1) (oSome (e2 addD (eVar 3) (eC (.int 1)))) oNone)) (gtName 8) (eT (e2 eqD (lcF (seqI (callV m_gates_on [] (aCons (eVar 0) (aCons (eVar 8) aNil)))) (gtName 9) (eT (e2 inD (eVar 9) (eVar 5))) (eVar 9) [9]) (eLst aNil))) (eVar 8) [8]))
    (seqF (asgF 7 (callV mR [] (aCons (eVar 0) (aCons (eVar 6) (aCons (e2 subD (eVar 2) (eC (.int 1))) aNil)))))
    (ifF (eT (e2 isntD (eVar 7) (eC .none))) (retF (e2 addD (eTup (aCons (eVar 4) aNil)) (eVar 7))) nilF)))))
    (retF (eC .none))))
def m_apart_ways : Nat → MF
  | 0 => fun _ => none
  | n + 1 => bodyF 3 10 (f_apart_ways (m_apart_ways n))
def f_need_place : FS := (ifF (tNotF (eT (callV m_is_place [] (aCons (eVar 0) (aCons (eVar 1) aNil))))) (raiseF "NoPlace") nilF)
def m_need_place : MF := bodyF 2 2 f_need_place
def f_need_cut : FS := (seqF (dropF (callV m_need_net [] (aCons (eVar 0) aNil)))
    (seqF (dropF (callV m_need_place [] (aCons (eVar 0) (aCons (eVar 1) aNil))))
    (ifF (tNotF (eT (callV m_are_shut [] (aCons (eVar 0) (aCons (eVar 2) aNil))))) (raiseF "NoShut") nilF)))
def m_need_cut : MF := bodyF 3 3 f_need_cut
def f_cut_by : FS := (seqF (asgF 3 (callV m_fewest_gates [] (aCons (eVar 0) (aCons (eVar 1) (aCons (eVar 2) aNil)))))
    (retF (eIf (eT (e2 isD (eVar 3) (eC .none))) (eC .none) (eTup (aCons (eVar 3) (aCons (callV (m_apart_ways 12) [] (aCons (eVar 0) (aCons (callV m_ways_to [] (aCons (eVar 0) (aCons (eVar 2) (aCons (eVar 1) aNil)))) (aCons (eCB lenD (aCons (eVar 3) aNil)) aNil)))) aNil))))))
def m_cut_by : MF := bodyF 3 4 f_cut_by
def f_cut_of : FS := (seqF (dropF (callV m_need_cut [] (aCons (eVar 0) (aCons (eVar 1) (aCons (eVar 2) aNil)))))
    (retF (callV m_cut_by [] (aCons (eVar 0) (aCons (eVar 1) (aCons (eVar 2) aNil))))))
def m_cut_of : MF := bodyF 3 3 f_cut_of
def f_are_gates : FS := (seqF (asgF 3 (callV m_gates_in [] (aCons (eVar 0) (aCons (eVar 1) aNil))))
    (seqF (ifF (tOrF (tNotF (eT (e1 (isiD .tuple) (eVar 2)))) (tNotF (eT (eCB allD (aCons (lcF (seqI (eVar 2)) (gtName 4) yesF (callV m_is_number [] (aCons (eVar 4) (aCons (eC (.int 0)) (aCons (e2 subD (eCB lenD (aCons (e2 ixD (eVar 0) (eC (.int 1))) aNil)) (eC (.int 1))) aNil)))) [4]) aNil))))) (retF (eC (.bool false))) nilF)
    (retF (eAnd (eCB allD (aCons (lcF (seqI (eVar 2)) (gtName 4) yesF (e2 inD (eVar 4) (eVar 3)) [4]) aNil)) (callV m_are_rising [] (aCons (eVar 2) aNil))))))
def m_are_gates : MF := bodyF 3 5 f_are_gates
def f_led_along : FS := (seqF (forF (seqI (eVar 2)) (gtName 3) (asgF 1 (eIf (eT (e2 isD (eVar 1) (eC .none))) (eC .none) (callV m_end_from [] (aCons (e2 ixD (e2 ixD (eVar 0) (eC (.int 1))) (eVar 3)) (aCons (eVar 1) aNil))))))
    (retF (eVar 1)))
def m_led_along : MF := bodyF 3 4 f_led_along
def f_is_way : FS := (seqF (ifF (tOrF (tNotF (eT (e1 (isiD .tuple) (eVar 3)))) (tOrF (eT (e2 eqD (eVar 3) (eTup aNil))) (tNotF (eT (eCB allD (aCons (lcF (seqI (eVar 3)) (gtName 4) yesF (callV m_is_number [] (aCons (eVar 4) (aCons (eC (.int 0)) (aCons (e2 subD (eCB lenD (aCons (e2 ixD (eVar 0) (eC (.int 1))) aNil)) (eC (.int 1))) aNil)))) [4]) aNil)))))) (retF (eC (.bool false))) nilF)
    (seqF (ifF (eT (eCB anyD (aCons (lcF (seqI (eVar 3)) (gtName 5) yesF (e2 inD (eVar 5) (eVar 2)) [5]) aNil))) (retF (eC (.bool false))) nilF)
    (retF (eCB anyD (aCons (lcF (seqI (callV m_begins [] (aCons (eVar 0) aNil))) (gtName 6) yesF (e2 eqD (callV m_led_along [] (aCons (eVar 0) (aCons (eVar 6) (aCons (eVar 3) aNil)))) (eVar 1)) [6]) aNil)))))
def m_is_way : MF := bodyF 4 7 f_is_way
def f_is_cut : FS := (seqF (dropF (callV m_need_cut [] (aCons (eVar 0) (aCons (eVar 1) (aCons (eVar 3) aNil)))))
    (seqF (ifF (tOrF (tNotF (eT (e1 (isiD .tuple) (eVar 2)))) (tOrF (eT (e2 neD (eCB lenD (aCons (eVar 2) aNil)) (eC (.int 2)))) (tNotF (eT (e1 (isiD .tuple) (e2 ixD (eVar 2) (eC (.int 1)))))))) (retF (eC (.bool false))) nilF)
    (seqF (asgG (gtTup (gtCons (gtName 4) (gtCons (gtName 5) gtNil))) (eVar 2))
    (seqF (ifF (tOrF (tNotF (eT (callV m_are_gates [] (aCons (eVar 0) (aCons (eVar 3) (aCons (eVar 4) aNil)))))) (tOrF (eT (e2 neD (eCB lenD (aCons (eVar 4) aNil)) (eCB lenD (aCons (eVar 5) aNil)))) (eT (e2 inD (eVar 1) (callV m_fed_by__2 [] (aCons (eVar 0) (aCons (e2 addD (eVar 3) (eVar 4)) aNil))))))) (retF (eC (.bool false))) nilF)
    (seqF (ifF (tNotF (eT (eCB allD (aCons (lcF (seqI (eVar 5)) (gtName 7) yesF (callV m_is_way [] (aCons (eVar 0) (aCons (eVar 1) (aCons (eVar 3) (aCons (eVar 7) aNil))))) [7]) aNil)))) (retF (eC (.bool false))) nilF)
    (seqF (asgF 6 (lc2F (seqI (eVar 5)) (gtName 7) yesF (seqI (callV m_gates_on [] (aCons (eVar 0) (aCons (eVar 7) aNil)))) (gtName 8) yesF (eVar 8) [7, 8] [8]))
    (retF (e2 eqD (eCB lenD (aCons (eVar 6) aNil)) (eLenSet (eVar 6))))))))))
def m_is_cut : MF := bodyF 4 9 f_is_cut
def f__law_cell_at : FS := (seqF (ifF (eT (e2 ltD (eVar 1) (eCB lenD (aCons (eVar 0) aNil)))) (retF (e2 ixD (eVar 0) (eVar 1))) nilF)
    (retF (eC (.int 0))))
def m__law_cell_at : MF := bodyF 2 2 f__law_cell_at
def f__law_next : FS := (seqF (asgF 0 (e2 modD (e2 addD (eVar 0) (eC (.int 7919))) (eC (.int 2147483647))))
    (retF (e2 modD (e2 addD (e2 addD (e2 mulD (eVar 0) (eVar 0)) (e2 mulD (eC (.int 48271)) (eVar 0))) (eC (.int 12345))) (eC (.int 2147483629)))))
def m__law_next : MF := bodyF 1 1 f__law_next
def f__law_pen_of : FS := (seqF (asgF 1 (eCB maxD (aCons (eVar 0) (aCons (e2 subD (eC (.int 0)) (eVar 0)) aNil))))
    (retF (eLst (aCons (eVar 1) (aCons (eCB intD (aCons (e2 geD (eVar 1) (e2 powD (eC (.int 10)) (eC (.int 18)))) aNil)) (aCons (e2 modD (eVar 1) (eC (.int 1000003))) aNil))))))
def m__law_pen_of : MF := bodyF 1 2 f__law_pen_of
def f__law_draw : FS := (seqF (ifF (tAndF (eT (e2 eqD (e2 ixD (eVar 0) (eC (.int 1))) (eC (.int 1)))) (eT (e2 gtD (e2 ixD (eVar 0) (eC (.int 0))) (eC (.int 0))))) (seqF (asgF 2 (e2 modD (e2 ixD (eVar 0) (eC (.int 0))) (eVar 1)))
    (seqF (asgG (gtSub 0 (eC (.int 0))) (e2 divD (e2 ixD (eVar 0) (eC (.int 0))) (eVar 1)))
    (retF (eVar 2)))) nilF)
    (seqF (asgG (gtSub 0 (eC (.int 2))) (callV m__law_next [] (aCons (e2 addD (callV m__law_next [] (aCons (e2 ixD (eVar 0) (eC (.int 2))) aNil)) (eC (.int 7))) aNil)))
    (retF (e2 modD (e2 divD (e2 ixD (eVar 0) (eC (.int 2))) (eC (.int 64))) (eVar 1)))))
def m__law_draw : MF := bodyF 2 3 f__law_draw
def f__law_joint__3 : FS := (seqF (parF 1 2 (callP m__law_draw (aCons (eVar 0) (aCons (eC (.int 8)) aNil))) (callP m__law_draw (aCons (eVar 0) (aCons (eC (.int 6)) aNil))))
    (seqF (ifF (eT (e2 ltD (eVar 1) (eC (.int 6)))) (retF (eTup (aCons (eC (.str (Str.ofString "place"))) (aCons (callP m__law_draw (aCons (eVar 0) (aCons (eC (.int 9)) aNil))) (aCons (eVar 2) (aCons (e2 addD (eVar 2) (callP m__law_draw (aCons (eVar 0) (aCons (eC (.int 60)) aNil)))) aNil)))))) nilF)
    (retF (e2 ixD (eLst (aCons (eTup (aCons (eC (.str (Str.ofString "source"))) (aCons (e2 addD (eC (.int 20)) (callP m__law_draw (aCons (eVar 0) (aCons (eC (.int 60)) aNil)))) aNil))) (aCons (eTup (aCons (eC (.str (Str.ofString "tank"))) (aCons (e2 addD (eC (.int 10)) (callP m__law_draw (aCons (eVar 0) (aCons (eC (.int 30)) aNil)))) (aCons (e2 addD (eC (.int 1)) (callP m__law_draw (aCons (eVar 0) (aCons (eC (.int 50)) aNil)))) (aCons (eC (.int 20)) aNil))))) aNil))) (e2 subD (eVar 1) (eC (.int 6)))))))
def m__law_joint__3 : MF := bodyF 1 3 f__law_joint__3
def f__law_pipe__3 : FS := (seqF (asgF 3 (callP m__law_draw (aCons (eVar 0) (aCons (eVar 1) aNil))))
    (seqF (asgF 4 (e2 modD (e2 addD (e2 addD (eVar 3) (eC (.int 1))) (callP m__law_draw (aCons (eVar 0) (aCons (e2 subD (eVar 1) (eC (.int 1))) aNil)))) (eVar 1)))
    (seqF (asgF 5 (eAnd (e2 eqD (callP m__law_draw (aCons (eVar 0) (aCons (eC (.int 4)) aNil))) (eC (.int 0))) (e2 ltD (eCB lenD (aCons (lcF (seqI (eVar 2)) (gtName 9) (eT (e2 eqD (e2 ixD (eVar 9) (eC (.int 3))) (eC (.str (Str.ofString "on"))))) (eVar 9) [9]) aNil)) (eC (.int 4)))))
    (seqF (asgF 6 (eIf (eT (eVar 5)) (e2 ixD (eLst (aCons (eC (.int 0)) (aCons (e2 addD (eC (.int 1)) (callP m__law_draw (aCons (eVar 0) (aCons (eC (.int 50)) aNil)))) aNil))) (callP m__law_draw (aCons (eVar 0) (aCons (eC (.int 2)) aNil)))) (eC (.int 0))))
    (seqF (parF 7 8 (e2 ixD (eLst (aCons (eC (.str (Str.ofString "both"))) (aCons (eC (.str (Str.ofString "on"))) aNil))) (eCB intD (aCons (eVar 5) aNil))) (e2 gtD (callP m__law_draw (aCons (eVar 0) (aCons (eC (.int 3)) aNil))) (eC (.int 0))))
    (retF (eTup (aCons (eVar 3) (aCons (eVar 4) (aCons (e2 addD (eC (.int 1)) (callP m__law_draw (aCons (eVar 0) (aCons (eC (.int 20)) aNil)))) (aCons (eVar 7) (aCons (eVar 6) (aCons (eVar 8) (aCons (callP m__law_draw (aCons (eVar 0) (aCons (eC (.int 21)) aNil))) aNil))))))))))))))
def m__law_pipe__3 : MF := bodyF 3 10 f__law_pipe__3
def f__law_net__3 : FS := (seqF (asgF 2 (e2 addD (eC (.int 2)) (callP m__law_draw (aCons (eVar 0) (aCons (e2 subD (eVar 1) (eC (.int 1))) aNil)))))
    (seqF (parF 3 4 (eLst (aCons (eTup (aCons (eC (.str (Str.ofString "source"))) (aCons (e2 addD (eC (.int 20)) (callP m__law_draw (aCons (eVar 0) (aCons (eC (.int 60)) aNil)))) aNil))) (aCons (eTup (aCons (eC (.str (Str.ofString "place"))) (aCons (callP m__law_draw (aCons (eVar 0) (aCons (eC (.int 9)) aNil))) (aCons (eC (.int 0)) (aCons (eC (.int 99)) aNil))))) aNil))) (eLst aNil))
    (seqF (asgF 3 (e2 addD (eVar 3) (lcF (argI rng1I (aCons (e2 subD (eVar 2) (eC (.int 2))) aNil)) (gtName 5) yesF (callP m__law_joint__3 (aCons (eVar 0) aNil)) [5])))
    (seqF (forF (argI rng2I (aCons (eC (.int 1)) (aCons (eVar 2) aNil))) (gtName 5) (seqF (asgF 6 (callPL 4 m__law_pipe__3 (aCons (eVar 0) (aCons (eVar 2) (aCons (eVar 4) aNil)))))
    (dropF (eApp 4 (e2 addD (eTup (aCons (callP m__law_draw (aCons (eVar 0) (aCons (eVar 5) aNil))) (aCons (eVar 5) aNil))) (eSl (eVar 6) (oSome (eC (.int 2))) oNone))))))
    (seqF (forF (argI rng1I (aCons (callP m__law_draw (aCons (eVar 0) (aCons (e2 subD (eC (.int 11)) (eVar 2)) aNil))) aNil)) (gtName 7) (dropF (eApp 4 (callPL 4 m__law_pipe__3 (aCons (eVar 0) (aCons (eVar 2) (aCons (eVar 4) aNil)))))))
    (retF (eTup (aCons (eCB tupleD (aCons (eVar 3) aNil)) (aCons (eCB tupleD (aCons (eVar 4) aNil)) aNil)))))))))
def m__law_net__3 : MF := bodyF 2 8 f__law_net__3
def f__law_shut : FS := (seqF (asgF 2 (lcF (argI enumI (aCons (e2 ixD (eVar 1) (eC (.int 1))) aNil)) (gtTup (gtCons (gtName 3) (gtCons (gtName 4) gtNil))) (tOrF (eT (e2 ixD (eVar 4) (eC (.int 5)))) (eT (e2 gtD (e2 ixD (eVar 4) (eC (.int 4))) (eC (.int 0))))) (eVar 3) [3, 4]))
    (retF (eCB tupleD (aCons (lcF (seqI (eVar 2)) (gtName 3) (eT (e2 eqD (callP m__law_draw (aCons (eVar 0) (aCons (eC (.int 5)) aNil))) (eC (.int 0)))) (eVar 3) [3]) aNil))))
def m__law_shut : MF := bodyF 2 5 f__law_shut
def f__law_places : FS := (retF (lcF (argI rng1I (aCons (eCB lenD (aCons (e2 ixD (eVar 0) (eC (.int 0))) aNil)) aNil)) (gtName 1) (eT (e2 eqD (e2 ixD (e2 ixD (e2 ixD (eVar 0) (eC (.int 0))) (eVar 1)) (eC (.int 0))) (eC (.str (Str.ofString "place"))))) (eVar 1) [1]))
def m__law_places : MF := bodyF 1 2 f__law_places
def f__law_to : FS := (seqF (ifF (eT (e2 eqD (e2 ixD (eVar 0) (eC (.int 0))) (eVar 1))) (retF (e2 ixD (eVar 0) (eC (.int 1)))) nilF)
    (retF (eIf (tAndF (eT (e2 eqD (e2 ixD (eVar 0) (eC (.int 1))) (eVar 1))) (eT (e2 eqD (e2 ixD (eVar 0) (eC (.int 3))) (eC (.str (Str.ofString "both")))))) (e2 ixD (eVar 0) (eC (.int 0))) (eC .none))))
def m__law_to : MF := bodyF 2 2 f__law_to
def f__law_fed__2 : FS := (seqF (asgF 2 (lcF (argI rng1I (aCons (eCB lenD (aCons (e2 ixD (eVar 0) (eC (.int 0))) aNil)) aNil)) (gtName 6) (eT (e2 neD (e2 ixD (e2 ixD (e2 ixD (eVar 0) (eC (.int 0))) (eVar 6)) (eC (.int 0))) (eC (.str (Str.ofString "place"))))) (eVar 6) [6]))
    (seqF (forF (argI rng1I (aCons (eC (.int 7)) aNil)) (gtName 3) (forF (argI enumI (aCons (e2 ixD (eVar 0) (eC (.int 1))) aNil)) (gtTup (gtCons (gtName 4) (gtCons (gtName 5) gtNil))) (forF (seqI (lcF (seqI (eSl (eVar 5) oNone (oSome (eC (.int 2))))) (gtName 8) (tAndF (eT (e2 inD (eVar 8) (eVar 2))) (eT (e2 ninD (eVar 4) (eVar 1)))) (eVar 8) [8])) (gtName 6) (seqF (asgF 7 (callV m__law_to [] (aCons (eVar 5) (aCons (eVar 6) aNil))))
    (ifF (tAndF (eT (e2 isntD (eVar 7) (eC .none))) (eT (e2 ninD (eVar 7) (eVar 2)))) (dropF (eApp 2 (eVar 7))) nilF)))))
    (retF (eVar 2))))
def m__law_fed__2 : MF := bodyF 2 9 f__law_fed__2
def f__law_whole : FS := (retF (eAnd (e1 (isiD .int) (eVar 0)) (eNot (e1 (isiD .bool) (eVar 0)))))
def m__law_whole : MF := bodyF 1 1 f__law_whole
def f__law_are_numbers : FS := (seqF (ifF (tNotF (eT (e1 (isiD .tuple) (eVar 0)))) (retF (eC (.bool false))) nilF)
    (retF (eCB allD (aCons (lcF (seqI (eVar 0)) (gtName 2) yesF (eAnd (callV m__law_whole [] (aCons (eVar 2) aNil)) (eChain leD ltD (eC (.int 0)) (eVar 2) (eVar 1))) [2]) aNil))))
def m__law_are_numbers : MF := bodyF 2 3 f__law_are_numbers
def f__law_leads : FS := (seqF (ifF (tOrF (tNotF (eT (callV m__law_are_numbers [] (aCons (eVar 3) (aCons (eCB lenD (aCons (e2 ixD (eVar 0) (eC (.int 1))) aNil)) aNil))))) (tOrF (eT (e2 eqD (eVar 3) (eTup aNil))) (eT (e2 neD (lcF (seqI (eVar 3)) (gtName 7) (eT (e2 inD (eVar 7) (eVar 2))) (eVar 7) [7]) (eLst aNil))))) (retF (eC (.bool false))) nilF)
    (seqF (forF (seqI (lcF (argI rng1I (aCons (eCB lenD (aCons (e2 ixD (eVar 0) (eC (.int 0))) aNil)) aNil)) (gtName 8) (eT (e2 neD (e2 ixD (e2 ixD (e2 ixD (eVar 0) (eC (.int 0))) (eVar 8)) (eC (.int 0))) (eC (.str (Str.ofString "place"))))) (eVar 8) [8])) (gtName 4) (seqF (asgF 5 (eVar 4))
    (seqF (forF (seqI (eVar 3)) (gtName 6) (asgF 5 (eIf (eT (e2 isD (eVar 5) (eC .none))) (eC .none) (callV m__law_to [] (aCons (e2 ixD (e2 ixD (eVar 0) (eC (.int 1))) (eVar 6)) (aCons (eVar 5) aNil))))))
    (ifF (eT (e2 eqD (eVar 5) (eVar 1))) (retF (eC (.bool true))) nilF))))
    (retF (eC (.bool false)))))
def m__law_leads : MF := bodyF 4 9 f__law_leads
def f__law_apart : FS := (seqF (asgF 2 (eLst aNil))
    (seqF (forF (seqI (eVar 1)) (gtName 3) (seqF (asgF 4 (lcF (seqI (eVar 3)) (gtName 5) (eT (e2 ixD (e2 ixD (e2 ixD (eVar 0) (eC (.int 1))) (eVar 5)) (eC (.int 5)))) (eVar 5) [5]))
    (seqF (ifF (tOrF (eT (e2 neD (eLenSet (eVar 4)) (eCB lenD (aCons (eVar 4) aNil)))) (eT (e2 neD (lcF (seqI (eVar 4)) (gtName 5) (eT (e2 inD (eVar 5) (eVar 2))) (eVar 5) [5]) (eLst aNil)))) (retF (eC (.bool false))) nilF)
    (asgF 2 (e2 addD (eVar 2) (eVar 4))))))
    (retF (eC (.bool true)))))
def m__law_apart : MF := bodyF 2 6 f__law_apart
def f__law_is_cut : FS := (seqF (ifF (tOrF (tNotF (eT (e1 (isiD .tuple) (eVar 3)))) (tOrF (eT (e2 neD (eCB lenD (aCons (eVar 3) aNil)) (eC (.int 2)))) (tNotF (eT (e1 (isiD .tuple) (e2 ixD (eVar 3) (eC (.int 1)))))))) (retF (eC (.bool false))) nilF)
    (seqF (asgG (gtTup (gtCons (gtName 4) (gtCons (gtName 5) gtNil))) (eVar 3))
    (seqF (ifF (tOrF (tNotF (eT (callV m__law_are_numbers [] (aCons (eVar 4) (aCons (eCB lenD (aCons (e2 ixD (eVar 0) (eC (.int 1))) aNil)) aNil))))) (eT (e2 neD (eCB listD (aCons (eVar 4) aNil)) (eSrtSet (eVar 4))))) (retF (eC (.bool false))) nilF)
    (seqF (ifF (tOrF (eT (e2 neD (lcF (seqI (eVar 4)) (gtName 6) (tOrF (tNotF (eT (e2 ixD (e2 ixD (e2 ixD (eVar 0) (eC (.int 1))) (eVar 6)) (eC (.int 5))))) (eT (e2 inD (eVar 6) (eVar 2)))) (eVar 6) [6]) (eLst aNil))) (eT (e2 neD (eCB lenD (aCons (eVar 4) aNil)) (eCB lenD (aCons (eVar 5) aNil))))) (retF (eC (.bool false))) nilF)
    (seqF (ifF (tOrF (tNotF (eT (eCB allD (aCons (lcF (seqI (eVar 5)) (gtName 7) yesF (callV m__law_leads [] (aCons (eVar 0) (aCons (eVar 1) (aCons (eVar 2) (aCons (eVar 7) aNil))))) [7]) aNil)))) (tNotF (eT (callV m__law_apart [] (aCons (eVar 0) (aCons (eVar 5) aNil)))))) (retF (eC (.bool false))) nilF)
    (retF (e2 ninD (eVar 1) (callV m__law_fed__2 [] (aCons (eVar 0) (aCons (e2 addD (eVar 2) (eVar 4)) aNil))))))))))
def m__law_is_cut : MF := bodyF 4 8 f__law_is_cut
def f__law_odd__3 : FS := (seqF (asgF 1 (eLst (aCons (eC .none) (aCons (eC (.bool true)) (aCons (eC (.bool false)) (aCons (e1 negD (eC (.int 1))) (aCons (eC (.int 0)) (aCons (e2 powD (eC (.int 10)) (eC (.int 11))) (aCons (eC (.str (Str.ofString ""))) (aCons (eC (.str (Str.ofString "gate"))) (aCons (eTup aNil) (aCons (eLst aNil) (aCons eDNew (aCons (eTup (aCons (eC (.int 0)) aNil)) (aCons (eLst (aCons (eC (.int 0)) aNil)) (aCons (eTup (aCons (eTup aNil) aNil)) (aCons (eTup (aCons (eTup aNil) (aCons (eTup aNil) aNil))) (aCons (eTup (aCons (eC (.bool true)) aNil)) aNil))))))))))))))))))
    (retF (e2 ixD (eVar 1) (callP m__law_draw (aCons (eVar 0) (aCons (eC (.int 16)) aNil))))))
def m__law_odd__3 : MF := bodyF 1 2 f__law_odd__3
def f__law_row : FS := (seqF (asgF 3 (callP m__law_draw (aCons (eVar 0) (aCons (e2 addD (eCB lenD (aCons (eVar 1) aNil)) (eC (.int 1))) aNil))))
    (seqF (asgF 4 (e2 ixD (eLst (aCons (callP m__law_draw (aCons (eVar 0) (aCons (eVar 2) aNil))) (aCons (eVar 2) (aCons (e1 negD (eC (.int 1))) (aCons (eC (.bool true)) (aCons (eC .none) (aCons (eC (.str (Str.ofString "0"))) (aCons (eTup (aCons (eC (.int 0)) aNil)) aNil)))))))) (callP m__law_draw (aCons (eVar 0) (aCons (eC (.int 7)) aNil)))))
    (seqF (asgF 5 (eLst (aCons (e2 addD (e2 addD (eSl (eVar 1) oNone (oSome (eVar 3))) (eTup (aCons (eVar 4) aNil))) (eSl (eVar 1) (oSome (e2 addD (eVar 3) (eC (.int 1)))) oNone)) (aCons (e2 addD (e2 addD (eSl (eVar 1) oNone (oSome (eVar 3))) (eTup (aCons (eVar 4) aNil))) (eSl (eVar 1) (oSome (eVar 3)) oNone)) (aCons (e2 addD (eSl (eVar 1) oNone (oSome (eVar 3))) (eSl (eVar 1) (oSome (e2 addD (eVar 3) (eC (.int 1)))) oNone)) (aCons (e1 revD (eVar 1)) aNil))))))
    (retF (e2 ixD (e2 addD (eVar 5) (eLst (aCons (eCB listD (aCons (eVar 1) aNil)) (aCons (e2 addD (eVar 1) (eSl (eVar 1) (oSome (e1 negD (eC (.int 1)))) oNone)) (aCons (eCB tupleD (aCons (lcF (seqI (eVar 1)) (gtName 6) yesF (e2 eqD (eVar 6) (eC (.int 1))) [6]) aNil)) aNil))))) (callP m__law_draw (aCons (eVar 0) (aCons (eC (.int 7)) aNil))))))))
def m__law_row : MF := bodyF 3 7 f__law_row
def f__law_bent__3 : FS := (seqF (asgG (gtTup (gtCons (gtName 3) (gtCons (gtName 4) gtNil))) (eVar 2))
    (seqF (parF 5 6 (eCB lenD (aCons (e2 ixD (eVar 1) (eC (.int 1))) aNil)) (callP m__law_draw (aCons (eVar 0) (aCons (eCB maxD (aCons (eC (.int 1)) (aCons (eCB lenD (aCons (eVar 4) aNil)) aNil))) aNil))))
    (seqF (asgF 7 (callP m__law_draw (aCons (eVar 0) (aCons (eVar 5) aNil))))
    (seqF (asgF 8 (eLst (aCons (eTup (aCons (callP m__law_row (aCons (eVar 0) (aCons (eVar 3) (aCons (eVar 5) aNil)))) (aCons (eVar 4) aNil))) (aCons (eTup (aCons (e2 addD (eVar 3) (eTup (aCons (eVar 7) aNil))) (aCons (eVar 4) aNil))) (aCons (eTup (aCons (eCB tupleD (aCons (eCB sortedD (aCons (e2 addD (eVar 3) (eTup (aCons (eVar 7) aNil))) aNil)) aNil)) (aCons (eVar 4) aNil))) aNil)))))
    (seqF (asgF 8 (e2 addD (eVar 8) (eLst (aCons (eTup (aCons (eVar 3) (aCons (e2 addD (eSl (eVar 4) oNone (oSome (eVar 6))) (eSl (eVar 4) (oSome (e2 addD (eVar 6) (eC (.int 1)))) oNone)) aNil))) (aCons (eTup (aCons (eVar 3) (aCons (e2 addD (eVar 4) (eSl (eVar 4) oNone (oSome (eC (.int 1))))) aNil))) (aCons (eTup (aCons (eVar 3) (aCons (e1 revD (eVar 4)) aNil))) aNil))))))
    (seqF (asgF 8 (e2 addD (eVar 8) (eLst (aCons (eTup (aCons (eVar 3) (aCons (eCB listD (aCons (eVar 4) aNil)) aNil))) (aCons (eTup (aCons (eVar 4) (aCons (eVar 3) aNil))) (aCons (eLst (aCons (eVar 3) (aCons (eVar 4) aNil))) (aCons (eTup (aCons (eVar 3) aNil)) (aCons (eTup (aCons (eVar 3) (aCons (eVar 4) (aCons (eTup aNil) aNil)))) aNil))))))))
    (seqF (dropF (eApp 8 (eTup (aCons (eVar 3) (aCons (e2 addD (e2 addD (eSl (eVar 4) oNone (oSome (eVar 6))) (eTup (aCons (eTup (aCons (eVar 7) aNil)) aNil))) (eSl (eVar 4) (oSome (e2 addD (eVar 6) (eC (.int 1)))) oNone)) aNil)))))
    (seqF (forF (seqI (eSl (eVar 4) (oSome (eVar 6)) (oSome (e2 addD (eVar 6) (eC (.int 1)))))) (gtName 9) (seqF (asgF 10 (callP m__law_row (aCons (eVar 0) (aCons (eVar 9) (aCons (eVar 5) aNil)))))
    (seqF (dropF (eApp 8 (eTup (aCons (eVar 3) (aCons (e2 addD (e2 addD (eSl (eVar 4) oNone (oSome (eVar 6))) (eTup (aCons (eVar 10) aNil))) (eSl (eVar 4) (oSome (e2 addD (eVar 6) (eC (.int 1)))) oNone)) aNil)))))
    (dropF (eApp 8 (eTup (aCons (eVar 3) (aCons (e2 addD (e2 addD (eSl (eVar 4) oNone (oSome (eVar 6))) (eTup (aCons (e2 addD (eVar 9) (e2 mulG (eSl (eVar 9) (oSome (e1 negD (eC (.int 1)))) oNone) (eC (.int 2)))) aNil))) (eSl (eVar 4) (oSome (e2 addD (eVar 6) (eC (.int 1)))) oNone)) aNil))))))))
    (retF (e2 ixD (eVar 8) (callP m__law_draw (aCons (eVar 0) (aCons (eCB lenD (aCons (eVar 8) aNil)) aNil)))))))))))))
def m__law_bent__3 : MF := bodyF 3 11 f__law_bent__3
def f_law__11 : FS := (seqF (forF (seqI (e2 addD (eLst (aCons (callV m__law_cell_at [] (aCons (eVar 0) (aCons (eC (.int 0)) aNil))) aNil)) (eSl (eVar 0) (oSome (eC (.int 1))) (oSome (eC (.int 3)))))) (gtName 1) (seqF (asgF 2 (callV m__law_pen_of [] (aCons (eVar 1) aNil)))
    (seqF (asgF 3 (callP m__law_net__3 (aCons (eVar 2) (aCons (e2 ixD (eLst (aCons (eC (.int 7)) (aCons (eC (.int 4)) aNil))) (callP m__law_draw (aCons (eVar 2) (aCons (eC (.int 2)) aNil)))) aNil))))
    (seqF (asgF 4 (callP m__law_shut (aCons (eVar 2) (aCons (eVar 3) aNil))))
    (forF (seqI (eSl (callV m__law_places [] (aCons (eVar 3) aNil)) oNone (oSome (eC (.int 3))))) (gtName 5) (seqF (parF 6 7 (callK 1 m_cut_of (aCons (eVar 3) (aCons (eVar 5) aNil)) (aCons (eVar 4) aNil)) (eCB tupleD (aCons (lcF (argI enumI (aCons (e2 ixD (eVar 3) (eC (.int 1))) aNil)) (gtTup (gtCons (gtName 15) (gtCons (gtName 16) gtNil))) (eT (e2 ixD (eVar 16) (eC (.int 5)))) (eVar 15) [15, 16]) aNil)))
    (seqF (asgF 8 (eIf (eT (e2 isD (eVar 6) (eC .none))) (eTup (aCons (eTup aNil) (aCons (eTup aNil) aNil))) (eVar 6)))
    (seqF (asgF 9 (eLst (aCons (eVar 6) (aCons (eVar 8) (aCons (eTup (aCons (eVar 7) (aCons (eCB tupleD (aCons (lcF (seqI (eVar 7)) (gtName 15) yesF (eTup (aCons (eVar 15) aNil)) [15]) aNil)) aNil))) (aCons (eTup (aCons (eSl (eVar 7) oNone (oSome (eC (.int 1)))) (aCons (eTup (aCons (eTup (aCons (eC (.int 0)) aNil)) aNil)) aNil))) (aCons (callP m__law_odd__3 (aCons (eVar 2) aNil)) aNil)))))))
    (seqF (asgF 9 (e2 addD (eVar 9) (eLst (aCons (eTup (aCons (e1 revD (e2 ixD (eVar 8) (eC (.int 0)))) (aCons (e2 ixD (eVar 8) (eC (.int 1))) aNil))) (aCons (eTup (aCons (e2 ixD (eVar 8) (eC (.int 0))) (aCons (e2 mulG (eSl (e2 ixD (eVar 8) (eC (.int 1))) oNone (oSome (eC (.int 1)))) (eCB lenD (aCons (e2 ixD (eVar 8) (eC (.int 0))) aNil))) aNil))) (aCons (eTup (aCons (eSl (e2 ixD (eVar 8) (eC (.int 0))) (oSome (eC (.int 1))) oNone) (aCons (eSl (e2 ixD (eVar 8) (eC (.int 1))) (oSome (eC (.int 1))) oNone) aNil))) aNil))))))
    (seqF (forF (argI rng1I (aCons (eC (.int 10)) aNil)) (gtName 10) (dropF (eApp 9 (callP m__law_bent__3 (aCons (eVar 2) (aCons (eVar 3) (aCons (eVar 8) aNil)))))))
    (forF (seqI (eVar 9)) (gtName 11) (seqF (parF 12 13 (eCB reprG (aCons (eVar 11) aNil)) (callV m__law_is_cut [] (aCons (eVar 3) (aCons (eVar 5) (aCons (eVar 4) (aCons (eVar 11) aNil))))))
    (seqF (asgF 14 (lcF (argI rng1I (aCons (eC (.int 2)) aNil)) (gtName 10) yesF (callK 1 m_is_cut (aCons (eVar 3) (aCons (eVar 5) (aCons (eVar 11) aNil))) (aCons (eVar 4) aNil)) [10]))
    (ifF (tOrF (eT (e2 neD (eCB reprG (aCons (eVar 14) aNil)) (eCB reprG (aCons (eLst (aCons (eVar 13) (aCons (eVar 13) aNil))) aNil)))) (eT (e2 neD (eCB reprG (aCons (eVar 11) aNil)) (eVar 12)))) (retF (eC (.bool false))) nilF))))))))))))))
    (retF (eC (.bool true))))
def m_law__11 : MF := bodyF 1 17 f_law__11
end WH
set_option Elab.async false
set_option linter.all false
set_option maxRecDepth 100000
set_option maxHeartbeats 0
namespace K32
open PySem PySem.Spec PyProof.Rows L2 DL He
open WH
def topS (i : Nat) : Stmt := PySem.Challenge.pw_waterheads_k32_cuts_looked_at.main.body.getD i (.Pass ⟨0, 0, 0, 0⟩)
abbrev s_is_whole : Stmt := topS 6
theorem sc_is_whole : FnScope ["thing"] ["thing"] (defScope s_is_whole) := ⟨rfl, rfl, rfl, by decide +kernel, rfl, by decide +kernel, by decide +kernel⟩
abbrev s_is_number : Stmt := topS 17
theorem sc_is_number : FnScope ["thing", "low", "high"] ["thing", "low", "high"] (defScope s_is_number) := ⟨rfl, rfl, rfl, by decide +kernel, rfl, by decide +kernel, by decide +kernel⟩
abbrev s_is_place_joint : Stmt := topS 18
theorem sc_is_place_joint : FnScope ["thing", "word", "height", "least", "most"] ["thing"] (defScope s_is_place_joint) := ⟨rfl, rfl, rfl, by decide +kernel, rfl, by decide +kernel, by decide +kernel⟩
abbrev s_is_joint : Stmt := topS 19
theorem sc_is_joint : FnScope ["thing", "bounds", "high", "low", "one"] ["thing"] (defScope s_is_joint) := ⟨rfl, rfl, rfl, by decide +kernel, rfl, by decide +kernel, by decide +kernel⟩
abbrev s_is_pipe : Stmt := topS 20
theorem sc_is_pipe : FnScope ["many", "thing", "one", "other", "factor", "way", "lift", "gate", "volume"] ["many", "thing"] (defScope s_is_pipe) := ⟨rfl, rfl, rfl, by decide +kernel, rfl, by decide +kernel, by decide +kernel⟩
abbrev s_is_net : Stmt := topS 21
theorem sc_is_net : FnScope ["thing", "joints", "pipes", "one", "joint", "pipe"] ["thing"] (defScope s_is_net) := ⟨rfl, rfl, rfl, by decide +kernel, rfl, by decide +kernel, by decide +kernel⟩
abbrev s_need_net : Stmt := topS 22
theorem sc_need_net : FnScope ["thing"] ["thing"] (defScope s_need_net) := ⟨rfl, rfl, rfl, by decide +kernel, rfl, by decide +kernel, by decide +kernel⟩
abbrev s_is_place : Stmt := topS 23
theorem sc_is_place : FnScope ["net", "thing"] ["net", "thing"] (defScope s_is_place) := ⟨rfl, rfl, rfl, by decide +kernel, rfl, by decide +kernel, by decide +kernel⟩
abbrev s_is_pump : Stmt := topS 24
theorem sc_is_pump : FnScope ["net", "pipe"] ["net", "pipe"] (defScope s_is_pump) := ⟨rfl, rfl, rfl, by decide +kernel, rfl, by decide +kernel, by decide +kernel⟩
abbrev s_can_shut : Stmt := topS 25
theorem sc_can_shut : FnScope ["net", "thing"] ["net", "thing"] (defScope s_can_shut) := ⟨rfl, rfl, rfl, by decide +kernel, rfl, by decide +kernel, by decide +kernel⟩
abbrev s_are_rising : Stmt := topS 26
theorem sc_are_rising : FnScope ["some", "one", "other"] ["some"] (defScope s_are_rising) := ⟨rfl, rfl, rfl, by decide +kernel, rfl, by decide +kernel, by decide +kernel⟩
abbrev s_are_shut : Stmt := topS 27
theorem sc_are_shut : FnScope ["net", "thing", "one"] ["net", "thing"] (defScope s_are_shut) := ⟨rfl, rfl, rfl, by decide +kernel, rfl, by decide +kernel, by decide +kernel⟩
abbrev s_end_from : Stmt := topS 29
theorem sc_end_from : FnScope ["pipe", "joint"] ["pipe", "joint"] (defScope s_end_from) := ⟨rfl, rfl, rfl, by decide +kernel, rfl, by decide +kernel, by decide +kernel⟩
abbrev s_begins : Stmt := topS 30
theorem sc_begins : FnScope ["net", "joint"] ["net"] (defScope s_begins) := ⟨rfl, rfl, rfl, by decide +kernel, rfl, by decide +kernel, by decide +kernel⟩
abbrev s_fed_by : Stmt := topS 31
theorem sc_fed_by : FnScope ["net", "shut", "found", "line", "joint", "number", "pipe", "to"] ["net", "shut"] (defScope s_fed_by) := ⟨rfl, rfl, rfl, by decide +kernel, rfl, by decide +kernel, by decide +kernel⟩
abbrev s_gates_in : Stmt := topS 32
theorem sc_gates_in : FnScope ["net", "shut", "number", "pipe"] ["net", "shut"] (defScope s_gates_in) := ⟨rfl, rfl, rfl, by decide +kernel, rfl, by decide +kernel, by decide +kernel⟩
abbrev s_lots_of : Stmt := topS 33
theorem sc_lots_of : FnScope ["things", "many", "found", "at", "one", "lot"] ["things", "many"] (defScope s_lots_of) := ⟨rfl, rfl, rfl, by decide +kernel, rfl, by decide +kernel, by decide +kernel⟩
abbrev s_fewest_gates : Stmt := topS 34
theorem sc_fewest_gates : FnScope ["net", "place", "shut", "gates", "many", "lot"] ["net", "place", "shut"] (defScope s_fewest_gates) := ⟨rfl, rfl, rfl, by decide +kernel, rfl, by decide +kernel, by decide +kernel⟩
abbrev s_ways_from : Stmt := topS 35
theorem sc_ways_from : FnScope ["net", "shut", "place", "way", "seen", "found", "number", "pipe", "to"] ["net", "shut", "place", "way", "seen"] (defScope s_ways_from) := ⟨rfl, rfl, rfl, by decide +kernel, rfl, by decide +kernel, by decide +kernel⟩
abbrev s_ways_to : Stmt := topS 36
theorem sc_ways_to : FnScope ["net", "shut", "place", "joint", "way"] ["net", "shut", "place"] (defScope s_ways_to) := ⟨rfl, rfl, rfl, by decide +kernel, rfl, by decide +kernel, by decide +kernel⟩
abbrev s_gates_on : Stmt := topS 37
theorem sc_gates_on : FnScope ["net", "way", "number"] ["net", "way"] (defScope s_gates_on) := ⟨rfl, rfl, rfl, by decide +kernel, rfl, by decide +kernel, by decide +kernel⟩
abbrev s_apart_ways : Stmt := topS 38
theorem sc_apart_ways : FnScope ["net", "ways", "many", "at", "way", "gates", "left", "rest", "other", "one"] ["net", "ways", "many"] (defScope s_apart_ways) := ⟨rfl, rfl, rfl, by decide +kernel, rfl, by decide +kernel, by decide +kernel⟩
abbrev s_need_place : Stmt := topS 39
theorem sc_need_place : FnScope ["net", "place"] ["net", "place"] (defScope s_need_place) := ⟨rfl, rfl, rfl, by decide +kernel, rfl, by decide +kernel, by decide +kernel⟩
abbrev s_need_cut : Stmt := topS 40
theorem sc_need_cut : FnScope ["net", "place", "shut"] ["net", "place", "shut"] (defScope s_need_cut) := ⟨rfl, rfl, rfl, by decide +kernel, rfl, by decide +kernel, by decide +kernel⟩
abbrev s_cut_by : Stmt := topS 41
theorem sc_cut_by : FnScope ["net", "place", "shut", "gates"] ["net", "place", "shut"] (defScope s_cut_by) := ⟨rfl, rfl, rfl, by decide +kernel, rfl, by decide +kernel, by decide +kernel⟩
abbrev s_cut_of : Stmt := topS 42
theorem sc_cut_of : FnScope ["net", "place", "shut"] ["net", "place", "shut"] (defScope s_cut_of) := ⟨rfl, rfl, rfl, by decide +kernel, rfl, by decide +kernel, by decide +kernel⟩
abbrev s_are_gates : Stmt := topS 43
theorem sc_are_gates : FnScope ["net", "shut", "thing", "gates", "one"] ["net", "shut", "thing"] (defScope s_are_gates) := ⟨rfl, rfl, rfl, by decide +kernel, rfl, by decide +kernel, by decide +kernel⟩
abbrev s_led_along : Stmt := topS 44
theorem sc_led_along : FnScope ["net", "joint", "way", "number"] ["net", "joint", "way"] (defScope s_led_along) := ⟨rfl, rfl, rfl, by decide +kernel, rfl, by decide +kernel, by decide +kernel⟩
abbrev s_is_way : Stmt := topS 45
theorem sc_is_way : FnScope ["net", "place", "shut", "thing", "one", "number", "joint"] ["net", "place", "shut", "thing"] (defScope s_is_way) := ⟨rfl, rfl, rfl, by decide +kernel, rfl, by decide +kernel, by decide +kernel⟩
abbrev s_is_cut : Stmt := topS 46
theorem sc_is_cut : FnScope ["net", "place", "thing", "shut", "gates", "ways", "passed", "way", "number"] ["net", "place", "thing", "shut"] (defScope s_is_cut) := ⟨rfl, rfl, rfl, by decide +kernel, rfl, by decide +kernel, by decide +kernel⟩
abbrev s__law_cell_at : Stmt := topS 48
theorem sc__law_cell_at : FnScope ["_law_script", "_law_k"] ["_law_script", "_law_k"] (defScope s__law_cell_at) := ⟨rfl, rfl, rfl, by decide +kernel, rfl, by decide +kernel, by decide +kernel⟩
abbrev s__law_next : Stmt := topS 49
theorem sc__law_next : FnScope ["_law_root"] ["_law_root"] (defScope s__law_next) := ⟨rfl, rfl, rfl, by decide +kernel, rfl, by decide +kernel, by decide +kernel⟩
abbrev s__law_pen_of : Stmt := topS 50
theorem sc__law_pen_of : FnScope ["_law_cell", "_law_left"] ["_law_cell"] (defScope s__law_pen_of) := ⟨rfl, rfl, rfl, by decide +kernel, rfl, by decide +kernel, by decide +kernel⟩
abbrev s__law_draw : Stmt := topS 51
theorem sc__law_draw : FnScope ["_law_pen", "_law_many", "_law_found"] ["_law_pen", "_law_many"] (defScope s__law_draw) := ⟨rfl, rfl, rfl, by decide +kernel, rfl, by decide +kernel, by decide +kernel⟩
abbrev s__law_joint : Stmt := topS 52
theorem sc__law_joint : FnScope ["_law_pen", "_law_way", "_law_least"] ["_law_pen"] (defScope s__law_joint) := ⟨rfl, rfl, rfl, by decide +kernel, rfl, by decide +kernel, by decide +kernel⟩
abbrev s__law_pipe : Stmt := topS 53
theorem sc__law_pipe : FnScope ["_law_pen", "_law_many", "_law_ahead", "_law_one", "_law_other", "_law_on", "_law_lift", "_law_way", "_law_gate", "_law_pipe_here"] ["_law_pen", "_law_many", "_law_ahead"] (defScope s__law_pipe) := ⟨rfl, rfl, rfl, by decide +kernel, rfl, by decide +kernel, by decide +kernel⟩
abbrev s__law_net : Stmt := topS 54
theorem sc__law_net : FnScope ["_law_pen", "_law_most", "_law_many", "_law_joints", "_law_pipes", "_law_joint_here", "_law_pipe_here", "_law_turn"] ["_law_pen", "_law_most"] (defScope s__law_net) := ⟨rfl, rfl, rfl, by decide +kernel, rfl, by decide +kernel, by decide +kernel⟩
abbrev s__law_shut : Stmt := topS 55
theorem sc__law_shut : FnScope ["_law_pen", "_law_net_here", "_law_some", "_law_number", "_law_pipe_here"] ["_law_pen", "_law_net_here"] (defScope s__law_shut) := ⟨rfl, rfl, rfl, by decide +kernel, rfl, by decide +kernel, by decide +kernel⟩
abbrev s__law_places : Stmt := topS 56
theorem sc__law_places : FnScope ["_law_net_here", "_law_joint_here"] ["_law_net_here"] (defScope s__law_places) := ⟨rfl, rfl, rfl, by decide +kernel, rfl, by decide +kernel, by decide +kernel⟩
abbrev s__law_to : Stmt := topS 57
theorem sc__law_to : FnScope ["_law_pipe_here", "_law_joint_here"] ["_law_pipe_here", "_law_joint_here"] (defScope s__law_to) := ⟨rfl, rfl, rfl, by decide +kernel, rfl, by decide +kernel, by decide +kernel⟩
abbrev s__law_fed : Stmt := topS 58
theorem sc__law_fed : FnScope ["_law_net_here", "_law_closed", "_law_found", "_law_turn", "_law_number", "_law_pipe_here", "_law_joint_here", "_law_to_here", "_law_one"] ["_law_net_here", "_law_closed"] (defScope s__law_fed) := ⟨rfl, rfl, rfl, by decide +kernel, rfl, by decide +kernel, by decide +kernel⟩
abbrev s__law_whole : Stmt := topS 59
theorem sc__law_whole : FnScope ["_law_thing"] ["_law_thing"] (defScope s__law_whole) := ⟨rfl, rfl, rfl, by decide +kernel, rfl, by decide +kernel, by decide +kernel⟩
abbrev s__law_are_numbers : Stmt := topS 60
theorem sc__law_are_numbers : FnScope ["_law_thing", "_law_many", "_law_one"] ["_law_thing", "_law_many"] (defScope s__law_are_numbers) := ⟨rfl, rfl, rfl, by decide +kernel, rfl, by decide +kernel, by decide +kernel⟩
abbrev s__law_leads : Stmt := topS 61
theorem sc__law_leads : FnScope ["_law_net_here", "_law_place", "_law_closed", "_law_way", "_law_begin", "_law_here", "_law_number", "_law_one", "_law_joint_here"] ["_law_net_here", "_law_place", "_law_closed", "_law_way"] (defScope s__law_leads) := ⟨rfl, rfl, rfl, by decide +kernel, rfl, by decide +kernel, by decide +kernel⟩
abbrev s__law_apart : Stmt := topS 62
theorem sc__law_apart : FnScope ["_law_net_here", "_law_ways", "_law_seen", "_law_way", "_law_gates", "_law_number"] ["_law_net_here", "_law_ways"] (defScope s__law_apart) := ⟨rfl, rfl, rfl, by decide +kernel, rfl, by decide +kernel, by decide +kernel⟩
abbrev s__law_is_cut : Stmt := topS 63
theorem sc__law_is_cut : FnScope ["_law_net_here", "_law_place", "_law_closed", "_law_thing", "_law_gates", "_law_ways", "_law_one", "_law_way"] ["_law_net_here", "_law_place", "_law_closed", "_law_thing"] (defScope s__law_is_cut) := ⟨rfl, rfl, rfl, by decide +kernel, rfl, by decide +kernel, by decide +kernel⟩
abbrev s__law_odd : Stmt := topS 64
theorem sc__law_odd : FnScope ["_law_pen", "_law_some"] ["_law_pen"] (defScope s__law_odd) := ⟨rfl, rfl, rfl, by decide +kernel, rfl, by decide +kernel, by decide +kernel⟩
abbrev s__law_row : Stmt := topS 65
theorem sc__law_row : FnScope ["_law_pen", "_law_row_here", "_law_many", "_law_at", "_law_number", "_law_some", "_law_one"] ["_law_pen", "_law_row_here", "_law_many"] (defScope s__law_row) := ⟨rfl, rfl, rfl, by decide +kernel, rfl, by decide +kernel, by decide +kernel⟩
abbrev s__law_bent : Stmt := topS 66
theorem sc__law_bent : FnScope ["_law_pen", "_law_net_here", "_law_cut", "_law_gates", "_law_ways", "_law_many", "_law_at", "_law_number", "_law_some", "_law_way", "_law_other"] ["_law_pen", "_law_net_here", "_law_cut"] (defScope s__law_bent) := ⟨rfl, rfl, rfl, by decide +kernel, rfl, by decide +kernel, by decide +kernel⟩
abbrev s_law : Stmt := topS 67
theorem sc_law : FnScope ["_law_script", "_law_cell", "_law_pen", "_law_net_here", "_law_closed", "_law_place", "_law_found", "_law_gates", "_law_cut", "_law_things", "_law_lap", "_law_thing", "_law_stays", "_law_due", "_law_told", "_law_at", "_law_pipe_here"] ["_law_script"] (defScope s_law) := ⟨rfl, rfl, rfl, by decide +kernel, rfl, by decide +kernel, by decide +kernel⟩
def names0 : List Str := ["WaterError", "NoNet", "NoShut", "NoPlace", "is_whole", "PLACE", "SOURCE", "TANK", "BOTH", "ON", "MOST_JOINTS", "MOST_PIPES", "MOST_ON", "BOUNDS", "is_number"]
def names1 : List Str := ["is_place_joint", "is_joint", "is_pipe", "is_net", "need_net", "is_place", "is_pump", "can_shut", "are_rising", "are_shut", "end_from", "begins", "fed_by", "gates_in", "lots_of"]
def names2 : List Str := ["fewest_gates", "ways_from", "ways_to", "gates_on", "apart_ways", "need_place", "need_cut", "cut_by", "cut_of", "are_gates", "led_along", "is_way", "is_cut", "_law_cell_at", "_law_next"]
def names3 : List Str := ["_law_pen_of", "_law_draw", "_law_joint", "_law_pipe", "_law_net", "_law_shut", "_law_places", "_law_to", "_law_fed", "_law_whole", "_law_are_numbers", "_law_leads", "_law_apart", "_law_is_cut", "_law_odd"]
def names4 : List Str := ["_law_row", "_law_bent"]
def names : List Str := names0 ++ names1 ++ names2 ++ names3 ++ names4
abbrev R : PySem.W.OpenRow := PySem.W.OpenLaw.row PySem.Challenge.rw_waterheads_k32_cuts_looked_at
abbrev qv : Program := PySem.W.view R.prog [67]
def fn0 : List DefD := [defD "is_whole" s_is_whole, defD "is_number" s_is_number, defD "is_place_joint" s_is_place_joint, defD "is_joint" s_is_joint, defD "is_pipe" s_is_pipe, defD "is_net" s_is_net, defD "need_net" s_need_net, defD "is_place" s_is_place, defD "is_pump" s_is_pump, defD "can_shut" s_can_shut, defD "are_rising" s_are_rising, defD "are_shut" s_are_shut, defD "end_from" s_end_from, defD "begins" s_begins, defD "fed_by" s_fed_by]
def fn1 : List DefD := [defD "gates_in" s_gates_in, defD "lots_of" s_lots_of, defD "fewest_gates" s_fewest_gates, defD "ways_from" s_ways_from, defD "ways_to" s_ways_to, defD "gates_on" s_gates_on, defD "apart_ways" s_apart_ways, defD "need_place" s_need_place, defD "need_cut" s_need_cut, defD "cut_by" s_cut_by, defD "cut_of" s_cut_of, defD "are_gates" s_are_gates, defD "led_along" s_led_along, defD "is_way" s_is_way, defD "is_cut" s_is_cut]
def fn2 : List DefD := [defD "_law_cell_at" s__law_cell_at, defD "_law_next" s__law_next, defD "_law_pen_of" s__law_pen_of, defD "_law_draw" s__law_draw, defD "_law_joint" s__law_joint, defD "_law_pipe" s__law_pipe, defD "_law_net" s__law_net, defD "_law_shut" s__law_shut, defD "_law_places" s__law_places, defD "_law_to" s__law_to, defD "_law_fed" s__law_fed, defD "_law_whole" s__law_whole, defD "_law_are_numbers" s__law_are_numbers, defD "_law_leads" s__law_leads, defD "_law_apart" s__law_apart]
def fn3 : List DefD := [defD "_law_is_cut" s__law_is_cut, defD "_law_odd" s__law_odd, defD "_law_row" s__law_row, defD "_law_bent" s__law_bent, defD "law" s_law]
def fn : List DefD := fn0 ++ fn1 ++ fn2 ++ fn3
def fa0 : List Fa := [.glo "is_whole", .glo "is_number", .glo "is_place_joint", .glo "is_joint", .glo "is_pipe", .glo "is_net", .glo "need_net", .glo "is_place", .glo "is_pump", .glo "can_shut", .glo "are_rising", .glo "are_shut", .glo "end_from", .glo "begins", .glo "fed_by"]
def fa1 : List Fa := [.glo "gates_in", .glo "lots_of", .glo "fewest_gates", .glo "ways_from", .glo "ways_to", .glo "gates_on", .glo "apart_ways", .glo "need_place", .glo "need_cut", .glo "cut_by", .glo "cut_of", .glo "are_gates", .glo "led_along", .glo "is_way", .glo "is_cut"]
def fa2 : List Fa := [.glo "_law_cell_at", .glo "_law_next", .glo "_law_pen_of", .glo "_law_draw", .glo "_law_joint", .glo "_law_pipe", .glo "_law_net", .glo "_law_shut", .glo "_law_places", .glo "_law_to", .glo "_law_fed", .glo "_law_whole", .glo "_law_are_numbers", .glo "_law_leads", .glo "_law_apart"]
def fa3 : List Fa := [.glo "_law_is_cut", .glo "_law_odd", .glo "_law_row", .glo "_law_bent", .glo "law", .glo "NoNet", .glo "NoPlace", .glo "NoShut", .exc "NoNet", .exc "NoPlace", .exc "NoShut", .glo "BOUNDS", .free "all", .free "any", .free "bool"]
def fa4 : List Fa := [.free "enumerate", .free "int", .free "isinstance", .free "len", .free "list", .free "max", .free "range", .free "repr", .free "set", .free "sorted", .free "str", .free "tuple", .free "zip", .code ("law", none) "law"]
def fa : List Fa := fa0 ++ fa1 ++ fa2 ++ fa3 ++ fa4
def tabs : List Tab := [((fun K => ga K "BOUNDS"), ["source", "tank"])]
def tf : List Defn := [("law", none)]
def errs : List Str := []
def ex (K : PySem.W.Frag) : Bool := (noLst K && (glB K "BOTH" (.str (Str.ofString "both")) && (glB K "MOST_JOINTS" (.int 7) && (glB K "MOST_ON" (.int 4) && (glB K "MOST_PIPES" (.int 9) && (glB K "ON" (.str (Str.ofString "on")) && (glB K "PLACE" (.str (Str.ofString "place")) && (dicB K "BOUNDS" dic_BOUNDS && (tabB K ["law"] && true)))))))))
abbrev hk : PySem.W.Hook := hookX 5 fa fn tabs tf ex
def ob (s : PySem.W.SharedT) : AlX := obsX 5 fa fn tabs tf ex (HandSHeadRun.getT s)
theorem ob_eq (s : PySem.W.SharedT) : ob s = hk.obs s.abs := obsX_eq (HandSHeadRun.getT_eq s)
theorem run_false (w : World) : HandSHeadRun.RunEq R qv hk ob 8000 names (w.withFollow "special-get-raises" false) := by
  intro os
  kernel_rfl
theorem run_true (w : World) : HandSHeadRun.RunEq R qv hk ob 8000 names (w.withFollow "special-get-raises" true) := by
  intro os
  kernel_rfl
theorem run (w : World) : HandSHeadRun.RunEq R qv hk ob 8000 names w := PySem.W.byRow2 (P := fun w => HandSHeadRun.RunEq R qv hk ob 8000 names w) "special-get-raises" run_false run_true w
end K32
set_option Elab.async false
set_option linter.all false
set_option maxRecDepth 100000
set_option maxHeartbeats 0
namespace K32
open PySem PySem.Spec PyProof.Rows L2 DL He
open WH
structure Txt (w : World) (K : PySem.W.Frag) (mg : Str → Option Value) (base : Heap) : Prop where
  d_is_whole : Has K mg "is_whole" s_is_whole ["thing"]
  d_is_number : Has K mg "is_number" s_is_number ["thing", "low", "high"]
  d_is_place_joint : Has K mg "is_place_joint" s_is_place_joint ["thing"]
  d_is_joint : Has K mg "is_joint" s_is_joint ["thing"]
  d_is_pipe : Has K mg "is_pipe" s_is_pipe ["many", "thing"]
  d_is_net : Has K mg "is_net" s_is_net ["thing"]
  d_need_net : Has K mg "need_net" s_need_net ["thing"]
  d_is_place : Has K mg "is_place" s_is_place ["net", "thing"]
  d_is_pump : Has K mg "is_pump" s_is_pump ["net", "pipe"]
  d_can_shut : Has K mg "can_shut" s_can_shut ["net", "thing"]
  d_are_rising : Has K mg "are_rising" s_are_rising ["some"]
  d_are_shut : Has K mg "are_shut" s_are_shut ["net", "thing"]
  d_end_from : Has K mg "end_from" s_end_from ["pipe", "joint"]
  d_begins : Has K mg "begins" s_begins ["net"]
  d_fed_by : Has K mg "fed_by" s_fed_by ["net", "shut"]
  d_gates_in : Has K mg "gates_in" s_gates_in ["net", "shut"]
  d_lots_of : Has K mg "lots_of" s_lots_of ["things", "many"]
  d_fewest_gates : Has K mg "fewest_gates" s_fewest_gates ["net", "place", "shut"]
  d_ways_from : Has K mg "ways_from" s_ways_from ["net", "shut", "place", "way", "seen"]
  d_ways_to : Has K mg "ways_to" s_ways_to ["net", "shut", "place"]
  d_gates_on : Has K mg "gates_on" s_gates_on ["net", "way"]
  d_apart_ways : Has K mg "apart_ways" s_apart_ways ["net", "ways", "many"]
  d_need_place : Has K mg "need_place" s_need_place ["net", "place"]
  d_need_cut : Has K mg "need_cut" s_need_cut ["net", "place", "shut"]
  d_cut_by : Has K mg "cut_by" s_cut_by ["net", "place", "shut"]
  d_cut_of : HasK K mg "cut_of" s_cut_of ["net", "place", "shut"] ["shut"]
  d_are_gates : Has K mg "are_gates" s_are_gates ["net", "shut", "thing"]
  d_led_along : Has K mg "led_along" s_led_along ["net", "joint", "way"]
  d_is_way : Has K mg "is_way" s_is_way ["net", "place", "shut", "thing"]
  d_is_cut : HasK K mg "is_cut" s_is_cut ["net", "place", "thing", "shut"] ["shut"]
  d__law_cell_at : Has K mg "_law_cell_at" s__law_cell_at ["_law_script", "_law_k"]
  d__law_next : Has K mg "_law_next" s__law_next ["_law_root"]
  d__law_pen_of : Has K mg "_law_pen_of" s__law_pen_of ["_law_cell"]
  d__law_draw : Has K mg "_law_draw" s__law_draw ["_law_pen", "_law_many"]
  d__law_joint : Has K mg "_law_joint" s__law_joint ["_law_pen"]
  d__law_pipe : Has K mg "_law_pipe" s__law_pipe ["_law_pen", "_law_many", "_law_ahead"]
  d__law_net : Has K mg "_law_net" s__law_net ["_law_pen", "_law_most"]
  d__law_shut : Has K mg "_law_shut" s__law_shut ["_law_pen", "_law_net_here"]
  d__law_places : Has K mg "_law_places" s__law_places ["_law_net_here"]
  d__law_to : Has K mg "_law_to" s__law_to ["_law_pipe_here", "_law_joint_here"]
  d__law_fed : Has K mg "_law_fed" s__law_fed ["_law_net_here", "_law_closed"]
  d__law_whole : Has K mg "_law_whole" s__law_whole ["_law_thing"]
  d__law_are_numbers : Has K mg "_law_are_numbers" s__law_are_numbers ["_law_thing", "_law_many"]
  d__law_leads : Has K mg "_law_leads" s__law_leads ["_law_net_here", "_law_place", "_law_closed", "_law_way"]
  d__law_apart : Has K mg "_law_apart" s__law_apart ["_law_net_here", "_law_ways"]
  d__law_is_cut : Has K mg "_law_is_cut" s__law_is_cut ["_law_net_here", "_law_place", "_law_closed", "_law_thing"]
  d__law_odd : Has K mg "_law_odd" s__law_odd ["_law_pen"]
  d__law_row : Has K mg "_law_row" s__law_row ["_law_pen", "_law_row_here", "_law_many"]
  d__law_bent : Has K mg "_law_bent" s__law_bent ["_law_pen", "_law_net_here", "_law_cut"]
  d_law : Has K mg "law" s_law ["_law_script"]
  b_all : mg "all" = none
  b_any : mg "any" = none
  b_bool : mg "bool" = none
  b_enumerate : mg "enumerate" = none
  b_int : mg "int" = none
  b_isinstance : mg "isinstance" = none
  b_len : mg "len" = none
  b_list : mg "list" = none
  b_max : mg "max" = none
  b_range : mg "range" = none
  b_repr : mg "repr" = none
  b_set : mg "set" = none
  b_sorted : mg "sorted" = none
  b_str : mg "str" = none
  b_tuple : mg "tuple" = none
  b_zip : mg "zip" = none
  x_NoNet : ClsX K mg "NoNet"
  x_NoPlace : ClsX K mg "NoPlace"
  x_NoShut : ClsX K mg "NoShut"
  g_BOTH : GlD K mg "BOTH" (.str (Str.ofString "both"))
  g_MOST_JOINTS : GlD K mg "MOST_JOINTS" (.int 7)
  g_MOST_ON : GlD K mg "MOST_ON" (.int 4)
  g_MOST_PIPES : GlD K mg "MOST_PIPES" (.int 9)
  g_ON : GlD K mg "ON" (.str (Str.ofString "on"))
  g_PLACE : GlD K mg "PLACE" (.str (Str.ofString "place"))
  k_BOUNDS : KDic K w mg "BOUNDS" dic_BOUNDS
section
variable {P : Program} {w : World} {K : PySem.W.Frag} {mg : Str → Option Value} {base : Heap}
theorem c_is_whole (T : Txt w K mg base) : Callee false P w K mg base 1 "is_whole" ["thing"] m_is_whole := callee_ok (gd := false) T.d_is_whole sc_is_whole fun _ _ _ _ _ _ _ hr hgf hcf =>
  (dss_one (ds_ret (de_and (de_isi .int (by rfl) T.b_isinstance (by rfl) T.b_int bt_int (de_var 0)) (de_one (de_not (de_isi .bool (by rfl) T.b_isinstance (by rfl) T.b_bool bt_bool (de_var 0)))))))
theorem c_is_number (T : Txt w K mg base) : Callee false P w K mg base 2 "is_number" ["thing", "low", "high"] m_is_number := callee_ok (gd := false) T.d_is_number sc_is_number fun _ _ _ _ _ _ _ hr hgf hcf =>
  (dss_one (ds_ret (de_and (de_c (c_is_whole T) hr (by decide) (takes_of rfl rfl rfl rfl) (by rfl) (da_cons (de_var 0) da_nil)) (de_one (de_chain op_le od_ord op_le od_ord (de_var 1) (de_var 0) (de_var 2))))))
theorem c_is_place_joint (T : Txt w K mg base) : Callee false P w K mg base 3 "is_place_joint" ["thing"] m_is_place_joint := callee_ok (gd := false) T.d_is_place_joint sc_is_place_joint fun _ _ _ _ _ _ _ hr hgf hcf =>
  (dss_cons (ds_asgG (de_var 0) (dg_tupC (K := K) (by rfl) (dgs_cons (dg_name 1 sc_is_place_joint.nd) (dgs_cons (dg_name 2 sc_is_place_joint.nd) (dgs_cons (dg_name 3 sc_is_place_joint.nd) (dgs_cons (dg_name 4 sc_is_place_joint.nd) dgs_nil)))) (gl_cons (gl_cons (gl_cons (gl_cons gl_nil))))))
    (dss_one (ds_ret (de_and (de_c (c_is_number T) hr (by decide) (takes_of rfl rfl rfl rfl) (by rfl) (da_cons (de_var 2) (da_cons de_int (da_cons de_int da_nil)))) (de_and (de_c (c_is_number T) hr (by decide) (takes_of rfl rfl rfl rfl) (by rfl) (da_cons (de_var 4) (da_cons de_int (da_cons de_int da_nil)))) (de_one (de_c (c_is_number T) hr (by decide) (takes_of rfl rfl rfl rfl) (by rfl) (da_cons (de_var 3) (da_cons de_int (da_cons (de_var 4) da_nil))))))))))
theorem c_is_joint (T : Txt w K mg base) : Callee false P w K mg base 4 "is_joint" ["thing"] m_is_joint := callee_ok (gd := false) T.d_is_joint sc_is_joint fun _ _ _ _ _ _ _ hr hgf hcf =>
  (dss_cons (ds_if (dt_w (dw_or (dt_not (dt_val (de_isi .tuple (by rfl) T.b_isinstance (by rfl) T.b_tuple bt_tuple (de_var 0)))) (dw_or (dt_cmp (or_eq (ru64 hr)) od_eq (de_var 0) (de_tup da_nil)) (dw_or1 (dt_not (dt_val (de_isi .str (by rfl) T.b_isinstance (by rfl) T.b_str bt_str (de_ix (de_var 0) de_int)))))))) (dss_one (ds_ret de_bl)) dss_nil)
    (dss_cons (ds_if (dt_cmp (or_eq (ru64 hr)) od_eq (de_ix (de_var 0) de_int) (de_gl (by rfl) T.g_PLACE)) (dss_one (ds_ret (de_and (de_cmp (or_eq (ru64 hr)) od_eq (de_cb call_len_seq cd_len (by rfl) T.b_len bt_len (da_cons (de_var 0) da_nil)) de_int) (de_one (de_c (c_is_place_joint T) hr (by decide) (takes_of rfl rfl rfl rfl) (by rfl) (da_cons (de_var 0) da_nil)))))) dss_nil)
    (dss_cons (ds_asg 1 (de_kget T.k_BOUNDS (by rfl) (de_ix (de_var 0) de_int) ⟨rfl, rfl, rfl, rfl⟩) sc_is_joint.nd)
    (dss_cons (ds_if (dt_w (dw_or (dt_cmp op_isN od_is (de_var 1) de_non) (dw_or1 (dt_cmp (or_ne (ru64 hr)) od_ne (de_cb call_len_seq cd_len (by rfl) T.b_len bt_len (da_cons (de_var 0) da_nil)) (de_op or_add od_add (de_cb call_len_seq cd_len (by rfl) T.b_len bt_len (da_cons (de_var 1) da_nil)) de_int))))) (dss_one (ds_ret de_bl)) dss_nil)
    (dss_one (ds_ret (de_cb (cr_all rfl) cd_all (by rfl) T.b_all bt_all (da_cons (de_lc (own := [("one", 4), ("low", 3), ("high", 2)]) rfl sc_is_joint.nd (di_zip (by rfl) T.b_zip (da_cons (de_sl (de_var 0) (do_some de_int) do_none) (da_cons (de_var 1) da_nil))) (blkOk_by (N := ["thing", "bounds", "high", "low", "one"]) (sc := defScope s_is_joint) (by decide +kernel)) (by decide) (fun _ _ _ _ _ => (dg_tupC (K := K) (by rfl) (dgs_cons (dg_name 4 sc_is_joint.nd) (dgs_cons (dg_tupC (K := K) (by rfl) (dgs_cons (dg_name 3 sc_is_joint.nd) (dgs_cons (dg_name 2 sc_is_joint.nd) dgs_nil)) (gl_cons (gl_cons gl_nil))) dgs_nil)) (gl_cons (gl_cons gl_nil)))) (fun _ _ _ _ _ => dts_nil) (fun _ _ _ _ _ => (de_c (c_is_number T) hr (by decide) takesF (by rfl) (da_cons (de_var 4) (da_cons (de_var 3) (da_cons (de_var 2) da_nil)))))) da_nil))))))))
theorem c_is_pipe (T : Txt w K mg base) : Callee false P w K mg base 3 "is_pipe" ["many", "thing"] m_is_pipe := callee_ok (gd := false) T.d_is_pipe sc_is_pipe fun _ _ _ _ _ _ _ hr hgf hcf =>
  (dss_cons (ds_if (dt_w (dw_or (dt_not (dt_val (de_isi .tuple (by rfl) T.b_isinstance (by rfl) T.b_tuple bt_tuple (de_var 1)))) (dw_or1 (dt_cmp (or_ne (ru64 hr)) od_ne (de_cb call_len_seq cd_len (by rfl) T.b_len bt_len (da_cons (de_var 1) da_nil)) de_int)))) (dss_one (ds_ret de_bl)) dss_nil)
    (dss_cons (ds_asgG (de_var 1) (dg_tupC (K := K) (by rfl) (dgs_cons (dg_name 2 sc_is_pipe.nd) (dgs_cons (dg_name 3 sc_is_pipe.nd) (dgs_cons (dg_name 4 sc_is_pipe.nd) (dgs_cons (dg_name 5 sc_is_pipe.nd) (dgs_cons (dg_name 6 sc_is_pipe.nd) (dgs_cons (dg_name 7 sc_is_pipe.nd) (dgs_cons (dg_name 8 sc_is_pipe.nd) dgs_nil))))))) (gl_cons (gl_cons (gl_cons (gl_cons (gl_cons (gl_cons (gl_cons gl_nil)))))))))
    (dss_cons (ds_if (dt_w (dw_or (dt_not (dt_val (de_c (c_is_number T) hr (by decide) (takes_of rfl rfl rfl rfl) (by rfl) (da_cons (de_var 2) (da_cons de_int (da_cons (de_op op_sub od_sub (de_var 0) de_int) da_nil)))))) (dw_or (dt_not (dt_val (de_c (c_is_number T) hr (by decide) (takes_of rfl rfl rfl rfl) (by rfl) (da_cons (de_var 3) (da_cons de_int (da_cons (de_op op_sub od_sub (de_var 0) de_int) da_nil)))))) (dw_or1 (dt_cmp (or_eq (ru64 hr)) od_eq (de_var 2) (de_var 3)))))) (dss_one (ds_ret de_bl)) dss_nil)
    (dss_cons (ds_if (dt_w (dw_or (dt_not (dt_val (de_c (c_is_number T) hr (by decide) (takes_of rfl rfl rfl rfl) (by rfl) (da_cons (de_var 4) (da_cons de_int (da_cons de_int da_nil)))))) (dw_or (dt_not (dt_val (de_isi .str (by rfl) T.b_isinstance (by rfl) T.b_str bt_str (de_var 5)))) (dw_or1 (dt_cmp (or_nin (ru128 hr)) od_nin (de_var 5) (de_tup (da_cons (de_gl (by rfl) T.g_BOTH) (da_cons (de_gl (by rfl) T.g_ON) da_nil)))))))) (dss_one (ds_ret de_bl)) dss_nil)
    (dss_cons (ds_if (dt_w (dw_or (dt_not (dt_val (de_c (c_is_number T) hr (by decide) (takes_of rfl rfl rfl rfl) (by rfl) (da_cons (de_var 6) (da_cons de_int (da_cons (de_if (dt_cmp (or_eq (ru64 hr)) od_eq (de_var 5) (de_gl (by rfl) T.g_ON)) de_int de_int) da_nil)))))) (dw_or1 (dt_not (dt_val (de_isi .bool (by rfl) T.b_isinstance (by rfl) T.b_bool bt_bool (de_var 7))))))) (dss_one (ds_ret de_bl)) dss_nil)
    (dss_one (ds_ret (de_c (c_is_number T) hr (by decide) (takes_of rfl rfl rfl rfl) (by rfl) (da_cons (de_var 8) (da_cons de_int (da_cons de_int da_nil)))))))))))
theorem c_is_net (T : Txt w K mg base) : Callee false P w K mg base 5 "is_net" ["thing"] m_is_net := callee_ok (gd := false) T.d_is_net sc_is_net fun _ _ _ _ _ _ _ hr hgf hcf =>
  (dss_cons (ds_if (dt_w (dw_or (dt_not (dt_val (de_isi .tuple (by rfl) T.b_isinstance (by rfl) T.b_tuple bt_tuple (de_var 0)))) (dw_or (dt_cmp (or_ne (ru64 hr)) od_ne (de_cb call_len_seq cd_len (by rfl) T.b_len bt_len (da_cons (de_var 0) da_nil)) de_int) (dw_or1 (dt_not (dt_val (de_cb (cr_all rfl) cd_all (by rfl) T.b_all bt_all (da_cons (de_lc (own := [("one", 3)]) rfl sc_is_net.nd (di_seq (de_var 0)) (blkOk_by (N := ["thing", "joints", "pipes", "one", "joint", "pipe"]) (sc := defScope s_is_net) (by decide +kernel)) (by decide) (fun _ _ _ _ _ => (dg_name 3 sc_is_net.nd)) (fun _ _ _ _ _ => dts_nil) (fun _ _ _ _ _ => (de_isi .tuple (by rfl) T.b_isinstance (by rfl) T.b_tuple bt_tuple (de_var 3)))) da_nil)))))))) (dss_one (ds_ret de_bl)) dss_nil)
    (dss_cons (ds_asgG (de_var 0) (dg_tupC (K := K) (by rfl) (dgs_cons (dg_name 1 sc_is_net.nd) (dgs_cons (dg_name 2 sc_is_net.nd) dgs_nil)) (gl_cons (gl_cons gl_nil))))
    (dss_cons (ds_if (dt_w (dw_or (dt_not (dt_chain op_le od_ord op_le od_ord de_int (de_cb call_len_seq cd_len (by rfl) T.b_len bt_len (da_cons (de_var 1) da_nil)) (de_gl (by rfl) T.g_MOST_JOINTS))) (dw_or1 (dt_not (dt_val (de_cb (cr_all rfl) cd_all (by rfl) T.b_all bt_all (da_cons (de_lc (own := [("joint", 4)]) rfl sc_is_net.nd (di_seq (de_var 1)) (blkOk_by (N := ["thing", "joints", "pipes", "one", "joint", "pipe"]) (sc := defScope s_is_net) (by decide +kernel)) (by decide) (fun _ _ _ _ _ => (dg_name 4 sc_is_net.nd)) (fun _ _ _ _ _ => dts_nil) (fun _ _ _ _ _ => (de_c (c_is_joint T) hr (by decide) takesF (by rfl) (da_cons (de_var 4) da_nil)))) da_nil))))))) (dss_one (ds_ret de_bl)) dss_nil)
    (dss_cons (ds_if (dt_w (dw_or (dt_not (dt_chain op_le od_ord op_le od_ord de_int (de_cb call_len_seq cd_len (by rfl) T.b_len bt_len (da_cons (de_var 2) da_nil)) (de_gl (by rfl) T.g_MOST_PIPES))) (dw_or1 (dt_not (dt_val (de_cb (cr_all rfl) cd_all (by rfl) T.b_all bt_all (da_cons (de_lc (own := [("pipe", 5)]) rfl sc_is_net.nd (di_seq (de_var 2)) (blkOk_by (N := ["thing", "joints", "pipes", "one", "joint", "pipe"]) (sc := defScope s_is_net) (by decide +kernel)) (by decide) (fun _ _ _ _ _ => (dg_name 5 sc_is_net.nd)) (fun _ _ _ _ _ => dts_nil) (fun _ _ _ _ _ => (de_c (c_is_pipe T) hr (by decide) takesF (by rfl) (da_cons (de_cb call_len_seq cd_len (by rfl) T.b_len bt_len (da_cons (de_var 1) da_nil)) (da_cons (de_var 5) da_nil))))) da_nil))))))) (dss_one (ds_ret de_bl)) dss_nil)
    (dss_one (ds_ret (de_cmp op_le od_ord (de_cb call_len_seq cd_len (by rfl) T.b_len bt_len (da_cons (de_lc (own := [("pipe", 5)]) rfl sc_is_net.nd (di_seq (de_var 2)) (blkOk_by (N := ["thing", "joints", "pipes", "one", "joint", "pipe"]) (sc := defScope s_is_net) (by decide +kernel)) (by decide) (fun _ _ _ _ _ => (dg_name 5 sc_is_net.nd)) (fun _ _ _ _ _ => (dts_one (dt_cmp (or_eq (ru64 hr)) od_eq (de_ix (de_var 5) de_int) (de_gl (by rfl) T.g_ON)))) (fun _ _ _ _ _ => (de_var 5))) da_nil)) (de_gl (by rfl) T.g_MOST_ON))))))))
theorem c_need_net (T : Txt w K mg base) : Callee false P w K mg base 6 "need_net" ["thing"] m_need_net := callee_ok (gd := false) T.d_need_net sc_need_net fun _ _ _ _ _ _ _ hr hgf hcf =>
  (dss_one (ds_if (dt_not (dt_val (de_c (c_is_net T) hr (by decide) (takes_of rfl rfl rfl rfl) (by rfl) (da_cons (de_var 0) da_nil)))) (dss_one (ds_raiseC T.x_NoNet rfl (takes_of rfl rfl rfl rfl) (by rfl))) dss_nil))
theorem c_is_place (T : Txt w K mg base) : Callee false P w K mg base 3 "is_place" ["net", "thing"] m_is_place := callee_ok (gd := false) T.d_is_place sc_is_place fun _ _ _ _ _ _ _ hr hgf hcf =>
  (dss_one (ds_ret (de_and (de_c (c_is_number T) hr (by decide) (takes_of rfl rfl rfl rfl) (by rfl) (da_cons (de_var 1) (da_cons de_int (da_cons (de_op op_sub od_sub (de_cb call_len_seq cd_len (by rfl) T.b_len bt_len (da_cons (de_ix (de_var 0) de_int) da_nil)) de_int) da_nil)))) (de_one (de_cmp (or_eq (ru64 hr)) od_eq (de_ix (de_ix (de_ix (de_var 0) de_int) (de_var 1)) de_int) (de_gl (by rfl) T.g_PLACE))))))
theorem c_is_pump (T : Txt w K mg base) : Callee false P w K mg base 1 "is_pump" ["net", "pipe"] m_is_pump := callee_ok (gd := false) T.d_is_pump sc_is_pump fun _ _ _ _ _ _ _ hr hgf hcf =>
  (dss_one (ds_ret (de_cmp op_gt od_ord (de_ix (de_ix (de_ix (de_var 0) de_int) (de_var 1)) de_int) de_int)))
theorem c_can_shut (T : Txt w K mg base) : Callee false P w K mg base 3 "can_shut" ["net", "thing"] m_can_shut := callee_ok (gd := false) T.d_can_shut sc_can_shut fun _ _ _ _ _ _ _ hr hgf hcf =>
  (dss_one (ds_ret (de_and (de_c (c_is_number T) hr (by decide) (takes_of rfl rfl rfl rfl) (by rfl) (da_cons (de_var 1) (da_cons de_int (da_cons (de_op op_sub od_sub (de_cb call_len_seq cd_len (by rfl) T.b_len bt_len (da_cons (de_ix (de_var 0) de_int) da_nil)) de_int) da_nil)))) (de_one (de_or (de_ix (de_ix (de_ix (de_var 0) de_int) (de_var 1)) de_int) (de_one (de_c (c_is_pump T) hr (by decide) (takes_of rfl rfl rfl rfl) (by rfl) (da_cons (de_var 0) (da_cons (de_var 1) da_nil)))))))))
theorem c_are_rising (T : Txt w K mg base) : Callee false P w K mg base 1 "are_rising" ["some"] m_are_rising := callee_ok (gd := false) T.d_are_rising sc_are_rising fun _ _ _ _ _ _ _ hr hgf hcf =>
  (dss_one (ds_ret (de_cb (cr_all rfl) cd_all (by rfl) T.b_all bt_all (da_cons (de_lc (own := [("one", 1), ("other", 2)]) rfl sc_are_rising.nd (di_zip (by rfl) T.b_zip (da_cons (de_sl (de_var 0) do_none (do_some (de_neg de_int))) (da_cons (de_sl (de_var 0) (do_some de_int) do_none) da_nil))) (blkOk_by (N := ["some", "one", "other"]) (sc := defScope s_are_rising) (by decide +kernel)) (by decide) (fun _ _ _ _ _ => (dg_tupC (K := K) (by rfl) (dgs_cons (dg_name 1 sc_are_rising.nd) (dgs_cons (dg_name 2 sc_are_rising.nd) dgs_nil)) (gl_cons (gl_cons gl_nil)))) (fun _ _ _ _ _ => dts_nil) (fun _ _ _ _ _ => (de_cmp op_lt od_ord (de_var 1) (de_var 2)))) da_nil))))
theorem c_are_shut (T : Txt w K mg base) : Callee false P w K mg base 4 "are_shut" ["net", "thing"] m_are_shut := callee_ok (gd := false) T.d_are_shut sc_are_shut fun _ _ _ _ _ _ _ hr hgf hcf =>
  (dss_one (ds_ret (de_and (de_isi .tuple (by rfl) T.b_isinstance (by rfl) T.b_tuple bt_tuple (de_var 1)) (de_and (de_cb (cr_all rfl) cd_all (by rfl) T.b_all bt_all (da_cons (de_lc (own := [("one", 2)]) rfl sc_are_shut.nd (di_seq (de_var 1)) (blkOk_by (N := ["net", "thing", "one"]) (sc := defScope s_are_shut) (by decide +kernel)) (by decide) (fun _ _ _ _ _ => (dg_name 2 sc_are_shut.nd)) (fun _ _ _ _ _ => dts_nil) (fun _ _ _ _ _ => (de_c (c_can_shut T) hr (by decide) takesF (by rfl) (da_cons (de_var 0) (da_cons (de_var 2) da_nil))))) da_nil)) (de_one (de_c (c_are_rising T) hr (by decide) (takes_of rfl rfl rfl rfl) (by rfl) (da_cons (de_var 1) da_nil)))))))
theorem c_end_from (T : Txt w K mg base) : Callee false P w K mg base 1 "end_from" ["pipe", "joint"] m_end_from := callee_ok (gd := false) T.d_end_from sc_end_from fun _ _ _ _ _ _ _ hr hgf hcf =>
  (dss_cons (ds_if (dt_cmp (or_eq (ru64 hr)) od_eq (de_ix (de_var 0) de_int) (de_var 1)) (dss_one (ds_ret (de_ix (de_var 0) de_int))) dss_nil)
    (dss_one (ds_ret (de_if (dt_w (dw_and (dt_cmp (or_eq (ru64 hr)) od_eq (de_ix (de_var 0) de_int) (de_var 1)) (dw_and1 (dt_cmp (or_eq (ru64 hr)) od_eq (de_ix (de_var 0) de_int) (de_gl (by rfl) T.g_BOTH))))) (de_ix (de_var 0) de_int) de_non))))
theorem c_begins (T : Txt w K mg base) : Callee false P w K mg base 4 "begins" ["net"] m_begins := callee_ok (gd := false) T.d_begins sc_begins fun _ _ _ _ _ _ _ hr hgf hcf =>
  (dss_one (ds_ret (de_lc (own := [("joint", 1)]) rfl sc_begins.nd (di_range1 (by rfl) T.b_range (da_cons (de_cb call_len_seq cd_len (by rfl) T.b_len bt_len (da_cons (de_ix (de_var 0) de_int) da_nil)) da_nil)) (blkOk_by (N := ["net", "joint"]) (sc := defScope s_begins) (by decide +kernel)) (by decide) (fun _ _ _ _ _ => (dg_name 1 sc_begins.nd)) (fun _ _ _ _ _ => (dts_one (dt_not (dt_val (de_c (c_is_place T) hr (by decide) takesF (by rfl) (da_cons (de_var 0) (da_cons (de_var 1) da_nil))))))) (fun _ _ _ _ _ => (de_var 1)))))
theorem c_fed_by (T : Txt w K mg base) : Callee false P w K mg base 5 "fed_by" ["net", "shut"] m_fed_by__2 := callee_ok (gd := false) T.d_fed_by sc_fed_by fun _ _ _ _ _ _ _ hr hgf hcf =>
  (dss_cons (ds_asg 2 (de_c (c_begins T) hr (by decide) (takes_of rfl rfl rfl rfl) (by rfl) (da_cons (de_var 0) da_nil)) sc_fed_by.nd)
    (dss_cons (ds_asg 3 (de_ct call_list_of cd_list (by rfl) T.b_list bt_list (da_cons (de_var 2) da_nil)) sc_fed_by.nd)
    (dss_cons (ds_while (fun _ => 60) (passes_of rfl) (dt_cmp (or_ne (ru64 hr)) od_ne (de_var 3) (de_lst da_nil)) (dss_cons (ds_asg 4 (de_pop 3) sc_fed_by.nd)
    (dss_one (ds_for (passes_of rfl) rfl (di_enum (by rfl) T.b_enumerate (da_cons (de_ix (de_var 0) de_int) da_nil)) (dg_tupC (K := K) (by rfl) (dgs_cons (dg_name 5 sc_fed_by.nd) (dgs_cons (dg_name 6 sc_fed_by.nd) dgs_nil)) (gl_cons (gl_cons gl_nil))) (dss_cons (ds_asg 7 (de_c (c_end_from T) hr (by decide) (takes_of rfl rfl rfl rfl) (by rfl) (da_cons (de_var 6) (da_cons (de_var 4) da_nil))) sc_fed_by.nd)
    (dss_one (ds_if (dt_w (dw_and (dt_cmp (or_nin (ru128 hr)) od_nin (de_var 5) (de_var 1)) (dw_and (dt_cmp op_notN od_isnt (de_var 7) de_non) (dw_and1 (dt_cmp (or_nin (ru128 hr)) od_nin (de_var 7) (de_var 2)))))) (dss_cons (ds_expr (de_app 2 (de_var 7)))
    (dss_one (ds_expr (de_app 3 (de_var 7))))) dss_nil)))))))
    (dss_one (ds_ret (de_var 2))))))
theorem c_gates_in (T : Txt w K mg base) : Callee false P w K mg base 1 "gates_in" ["net", "shut"] m_gates_in := callee_ok (gd := false) T.d_gates_in sc_gates_in fun _ _ _ _ _ _ _ hr hgf hcf =>
  (dss_one (ds_ret (de_lc (own := [("number", 2), ("pipe", 3)]) rfl sc_gates_in.nd (di_enum (by rfl) T.b_enumerate (da_cons (de_ix (de_var 0) de_int) da_nil)) (blkOk_by (N := ["net", "shut", "number", "pipe"]) (sc := defScope s_gates_in) (by decide +kernel)) (by decide) (fun _ _ _ _ _ => (dg_tupC (K := K) (by rfl) (dgs_cons (dg_name 2 sc_gates_in.nd) (dgs_cons (dg_name 3 sc_gates_in.nd) dgs_nil)) (gl_cons (gl_cons gl_nil)))) (fun _ _ _ _ _ => (dts_one (dt_w (dw_and (dt_val (de_ix (de_var 3) de_int)) (dw_and1 (dt_cmp (or_nin (ru128 hr)) od_nin (de_var 2) (de_var 1))))))) (fun _ _ _ _ _ => (de_var 2)))))
theorem c_lots_of (T : Txt w K mg base) : ∀ n, Callee false P w K mg base (0 + n) "lots_of" ["things", "many"] (m_lots_of n)
  | 0 => callee_zero T.d_lots_of
  | n + 1 => callee_ok (gd := false) (k := 0 + n) T.d_lots_of sc_lots_of fun _ _ _ _ _ _ _ hr hgf hcf =>
  (dss_cons (ds_if (dt_cmp (or_eq (ru64 hr)) od_eq (de_var 1) de_int) (dss_one (ds_ret (de_lst (da_cons (de_tup da_nil) da_nil)))) dss_nil)
    (dss_cons (ds_asg 2 (de_lst da_nil) sc_lots_of.nd)
    (dss_cons (ds_for (passes_of rfl) rfl (di_enum (by rfl) T.b_enumerate (da_cons (de_var 0) da_nil)) (dg_tupC (K := K) (by rfl) (dgs_cons (dg_name 3 sc_lots_of.nd) (dgs_cons (dg_name 4 sc_lots_of.nd) dgs_nil)) (gl_cons (gl_cons gl_nil))) (dss_one (ds_expr (de_ext 2 (de_lc (own := [("lot", 5)]) rfl sc_lots_of.nd (di_seq (de_c (c_lots_of T n) hr (by omega) (takes_of rfl rfl rfl rfl) (by rfl) (da_cons (de_sl (de_var 0) (do_some (de_op or_add od_add (de_var 3) de_int)) do_none) (da_cons (de_op op_sub od_sub (de_var 1) de_int) da_nil)))) (blkOk_by (N := ["things", "many", "found", "at", "one", "lot"]) (sc := defScope s_lots_of) (by decide +kernel)) (by decide) (fun _ _ _ _ _ => (dg_name 5 sc_lots_of.nd)) (fun _ _ _ _ _ => dts_nil) (fun _ _ _ _ _ => (de_op or_add od_add (de_tup (da_cons (de_var 4) da_nil)) (de_var 5))))))))
    (dss_one (ds_ret (de_var 2))))))
theorem c_fewest_gates (T : Txt w K mg base) : Callee false P w K mg base 13 "fewest_gates" ["net", "place", "shut"] m_fewest_gates := callee_ok (gd := false) T.d_fewest_gates sc_fewest_gates fun _ _ _ _ _ _ _ hr hgf hcf =>
  (dss_cons (ds_asg 3 (de_c (c_gates_in T) hr (by decide) (takes_of rfl rfl rfl rfl) (by rfl) (da_cons (de_var 0) (da_cons (de_var 2) da_nil))) sc_fewest_gates.nd)
    (dss_cons (ds_for (passes_of rfl) rfl (di_range1 (by rfl) T.b_range (da_cons (de_op or_add od_add (de_cb call_len_seq cd_len (by rfl) T.b_len bt_len (da_cons (de_var 3) da_nil)) de_int) da_nil)) (dg_name 4 sc_fewest_gates.nd) (dss_one (ds_for (passes_of rfl) rfl (di_seq (de_c (c_lots_of T 12) hr (by decide) (takes_of rfl rfl rfl rfl) (by rfl) (da_cons (de_var 3) (da_cons (de_var 4) da_nil)))) (dg_name 5 sc_fewest_gates.nd) (dss_one (ds_if (dt_cmp (or_nin (ru128 hr)) od_nin (de_var 1) (de_c (c_fed_by T) hr (by decide) (takes_of rfl rfl rfl rfl) (by rfl) (da_cons (de_var 0) (da_cons (de_op or_add od_add (de_var 2) (de_var 5)) da_nil)))) (dss_one (ds_ret (de_var 5))) dss_nil)))))
    (dss_one (ds_ret de_non))))
theorem c_ways_from (T : Txt w K mg base) : ∀ n, Callee false P w K mg base (3 + n) "ways_from" ["net", "shut", "place", "way", "seen"] (m_ways_from n)
  | 0 => callee_zero T.d_ways_from
  | n + 1 => callee_ok (gd := false) (k := 3 + n) T.d_ways_from sc_ways_from fun _ _ _ _ _ _ _ hr hgf hcf =>
  (dss_cons (ds_asg 5 (de_lst da_nil) sc_ways_from.nd)
    (dss_cons (ds_for (passes_of rfl) rfl (di_enum (by rfl) T.b_enumerate (da_cons (de_ix (de_var 0) de_int) da_nil)) (dg_tupC (K := K) (by rfl) (dgs_cons (dg_name 6 sc_ways_from.nd) (dgs_cons (dg_name 7 sc_ways_from.nd) dgs_nil)) (gl_cons (gl_cons gl_nil))) (dss_cons (ds_asg 8 (de_c (c_end_from T) hr (by omega) (takes_of rfl rfl rfl rfl) (by rfl) (da_cons (de_var 7) (da_cons (de_ix (de_var 4) (de_neg de_int)) da_nil))) sc_ways_from.nd)
    (dss_one (ds_if (dt_w (dw_and (dt_cmp (or_nin (ru128 hr)) od_nin (de_var 6) (de_var 1)) (dw_and (dt_cmp op_notN od_isnt (de_var 8) de_non) (dw_and1 (dt_cmp (or_nin (ru128 hr)) od_nin (de_var 8) (de_var 4)))))) (dss_one (ds_if (dt_cmp (or_eq (ru64 hr)) od_eq (de_var 8) (de_var 2)) (dss_one (ds_expr (de_app 5 (de_op or_add od_add (de_var 3) (de_tup (da_cons (de_var 6) da_nil)))))) (dss_one (ds_if (dt_val (de_c (c_is_place T) hr (by omega) (takes_of rfl rfl rfl rfl) (by rfl) (da_cons (de_var 0) (da_cons (de_var 8) da_nil)))) (dss_one (ds_expr (de_ext 5 (de_c (c_ways_from T n) hr (by omega) (takes_of rfl rfl rfl rfl) (by rfl) (da_cons (de_var 0) (da_cons (de_var 1) (da_cons (de_var 2) (da_cons (de_op or_add od_add (de_var 3) (de_tup (da_cons (de_var 6) da_nil))) (da_cons (de_op or_add od_add (de_var 4) (de_tup (da_cons (de_var 8) da_nil))) da_nil))))))))) dss_nil)))) dss_nil))))
    (dss_one (ds_ret (de_var 5)))))
theorem c_ways_to (T : Txt w K mg base) : Callee false P w K mg base 13 "ways_to" ["net", "shut", "place"] m_ways_to := callee_ok (gd := false) T.d_ways_to sc_ways_to fun _ _ _ _ _ _ _ hr hgf hcf =>
  (dss_one (ds_ret (de_lc2 (own := [("joint", 3), ("way", 4)]) (vs1 := [4]) rfl sc_ways_to.nd (di_seq (de_c (c_begins T) hr (by decide) (takes_of rfl rfl rfl rfl) (by rfl) (da_cons (de_var 0) da_nil))) (blkOk_by (N := ["net", "shut", "place", "joint", "way"]) (sc := defScope s_ways_to) (by decide +kernel)) (by decide) (by decide) (by decide) (fun _ _ _ _ _ => (dg_name 3 sc_ways_to.nd)) (fun _ _ _ _ _ => dts_nil) (fun _ _ _ _ _ => (di_seq (de_c (c_ways_from T 9) hr (by decide) takesF (by rfl) (da_cons (de_var 0) (da_cons (de_var 1) (da_cons (de_var 2) (da_cons (de_tup da_nil) (da_cons (de_tup (da_cons (de_var 3) da_nil)) da_nil)))))))) (fun _ _ _ _ _ => (dg_name 4 sc_ways_to.nd)) (fun _ _ _ _ _ => dts_nil) (fun _ _ _ _ _ => (de_var 4)))))
theorem c_gates_on (T : Txt w K mg base) : Callee false P w K mg base 1 "gates_on" ["net", "way"] m_gates_on := callee_ok (gd := false) T.d_gates_on sc_gates_on fun _ _ _ _ _ _ _ hr hgf hcf =>
  (dss_one (ds_ret (de_lc (own := [("number", 2)]) rfl sc_gates_on.nd (di_seq (de_var 1)) (blkOk_by (N := ["net", "way", "number"]) (sc := defScope s_gates_on) (by decide +kernel)) (by decide) (fun _ _ _ _ _ => (dg_name 2 sc_gates_on.nd)) (fun _ _ _ _ _ => (dts_one (dt_val (de_ix (de_ix (de_ix (de_var 0) de_int) (de_var 2)) de_int)))) (fun _ _ _ _ _ => (de_var 2)))))
theorem c_apart_ways (T : Txt w K mg base) : ∀ n, Callee false P w K mg base (1 + n) "apart_ways" ["net", "ways", "many"] (m_apart_ways n)
  | 0 => callee_zero T.d_apart_ways
  | n + 1 => callee_ok (gd := false) (k := 1 + n) T.d_apart_ways sc_apart_ways fun _ _ _ _ _ _ _ hr hgf hcf =>
  (dss_cons (ds_if (dt_cmp (or_eq (ru64 hr)) od_eq (de_var 2) de_int) (dss_one (ds_ret (de_tup da_nil))) dss_nil)
    (dss_cons (ds_for (passes_of rfl) rfl (di_enum (by rfl) T.b_enumerate (da_cons (de_var 1) da_nil)) (dg_tupC (K := K) (by rfl) (dgs_cons (dg_name 3 sc_apart_ways.nd) (dgs_cons (dg_name 4 sc_apart_ways.nd) dgs_nil)) (gl_cons (gl_cons gl_nil))) (dss_cons (ds_asg 5 (de_c (c_gates_on T) hr (by omega) (takes_of rfl rfl rfl rfl) (by rfl) (da_cons (de_var 0) (da_cons (de_var 4) da_nil))) sc_apart_ways.nd)
    (dss_cons (ds_asgLc 6 (own := [("other", 8)]) rfl sc_apart_ways.nd (di_seq (de_sl (de_var 1) (do_some (de_op or_add od_add (de_var 3) de_int)) do_none)) (blkOk_by (N := ["net", "ways", "many", "at", "way", "gates", "left", "rest", "other", "one"]) (sc := defScope s_apart_ways) (by decide +kernel)) (by decide) (fun _ _ _ _ _ => (dg_name 8 sc_apart_ways.nd)) (fun _ _ _ _ _ => (dts_one (dt_cmp (or_eq (ru64 hr)) od_eq (de_lc (own := [("one", 9)]) rfl sc_apart_ways.nd (di_seq (de_c (c_gates_on T) hr (by omega) takesF (by rfl) (da_cons (de_var 0) (da_cons (de_var 8) da_nil)))) (blkOk_by (by first | kernel_rfl | rfl)) (by decide) (fun _ _ _ _ _ => (dg_name 9 sc_apart_ways.nd)) (fun _ _ _ _ _ => (dts_one (dt_cmp (or_in (ru128 hr)) od_in (de_var 9) (de_var 5)))) (fun _ _ _ _ _ => (de_var 9))) (de_lst da_nil)))) (fun _ _ _ _ _ => (de_var 8)) (sw_true rfl rfl rfl (by decide +kernel)))
    (dss_cons (ds_asg 7 (de_c (c_apart_ways T n) hr (by omega) (takes_of rfl rfl rfl rfl) (by rfl) (da_cons (de_var 0) (da_cons (de_var 6) (da_cons (de_op op_sub od_sub (de_var 2) de_int) da_nil)))) sc_apart_ways.nd)
    (dss_one (ds_if (dt_cmp op_notN od_isnt (de_var 7) de_non) (dss_one (ds_ret (de_op or_add od_add (de_tup (da_cons (de_var 4) da_nil)) (de_var 7)))) dss_nil))))))
    (dss_one (ds_ret de_non))))
theorem c_need_place (T : Txt w K mg base) : Callee false P w K mg base 4 "need_place" ["net", "place"] m_need_place := callee_ok (gd := false) T.d_need_place sc_need_place fun _ _ _ _ _ _ _ hr hgf hcf =>
  (dss_one (ds_if (dt_not (dt_val (de_c (c_is_place T) hr (by decide) (takes_of rfl rfl rfl rfl) (by rfl) (da_cons (de_var 0) (da_cons (de_var 1) da_nil))))) (dss_one (ds_raiseC T.x_NoPlace rfl (takes_of rfl rfl rfl rfl) (by rfl))) dss_nil))
theorem c_need_cut (T : Txt w K mg base) : Callee false P w K mg base 7 "need_cut" ["net", "place", "shut"] m_need_cut := callee_ok (gd := false) T.d_need_cut sc_need_cut fun _ _ _ _ _ _ _ hr hgf hcf =>
  (dss_cons (ds_expr (de_c (c_need_net T) hr (by decide) (takes_of rfl rfl rfl rfl) (by rfl) (da_cons (de_var 0) da_nil)))
    (dss_cons (ds_expr (de_c (c_need_place T) hr (by decide) (takes_of rfl rfl rfl rfl) (by rfl) (da_cons (de_var 0) (da_cons (de_var 1) da_nil))))
    (dss_one (ds_if (dt_not (dt_val (de_c (c_are_shut T) hr (by decide) (takes_of rfl rfl rfl rfl) (by rfl) (da_cons (de_var 0) (da_cons (de_var 2) da_nil))))) (dss_one (ds_raiseC T.x_NoShut rfl (takes_of rfl rfl rfl rfl) (by rfl))) dss_nil))))
theorem c_cut_by (T : Txt w K mg base) : Callee false P w K mg base 14 "cut_by" ["net", "place", "shut"] m_cut_by := callee_ok (gd := false) T.d_cut_by sc_cut_by fun _ _ _ _ _ _ _ hr hgf hcf =>
  (dss_cons (ds_asg 3 (de_c (c_fewest_gates T) hr (by decide) (takes_of rfl rfl rfl rfl) (by rfl) (da_cons (de_var 0) (da_cons (de_var 1) (da_cons (de_var 2) da_nil)))) sc_cut_by.nd)
    (dss_one (ds_ret (de_if (dt_cmp op_isN od_is (de_var 3) de_non) de_non (de_tup (da_cons (de_var 3) (da_cons (de_c (c_apart_ways T 12) hr (by decide) (takes_of rfl rfl rfl rfl) (by rfl) (da_cons (de_var 0) (da_cons (de_c (c_ways_to T) hr (by decide) (takes_of rfl rfl rfl rfl) (by rfl) (da_cons (de_var 0) (da_cons (de_var 2) (da_cons (de_var 1) da_nil)))) (da_cons (de_cb call_len_seq cd_len (by rfl) T.b_len bt_len (da_cons (de_var 3) da_nil)) da_nil)))) da_nil)))))))
theorem c_cut_of (T : Txt w K mg base) : CalleeK false P w K mg base 15 "cut_of" ["net", "place", "shut"] ["shut"] m_cut_of := calleeK_ok (gd := false) T.d_cut_of sc_cut_of fun _ _ _ _ _ _ _ hr hgf hcf =>
  (dss_cons (ds_expr (de_c (c_need_cut T) hr (by decide) (takes_of rfl rfl rfl rfl) (by rfl) (da_cons (de_var 0) (da_cons (de_var 1) (da_cons (de_var 2) da_nil)))))
    (dss_one (ds_ret (de_c (c_cut_by T) hr (by decide) (takes_of rfl rfl rfl rfl) (by rfl) (da_cons (de_var 0) (da_cons (de_var 1) (da_cons (de_var 2) da_nil)))))))
theorem c_are_gates (T : Txt w K mg base) : Callee false P w K mg base 3 "are_gates" ["net", "shut", "thing"] m_are_gates := callee_ok (gd := false) T.d_are_gates sc_are_gates fun _ _ _ _ _ _ _ hr hgf hcf =>
  (dss_cons (ds_asg 3 (de_c (c_gates_in T) hr (by decide) (takes_of rfl rfl rfl rfl) (by rfl) (da_cons (de_var 0) (da_cons (de_var 1) da_nil))) sc_are_gates.nd)
    (dss_cons (ds_if (dt_w (dw_or (dt_not (dt_val (de_isi .tuple (by rfl) T.b_isinstance (by rfl) T.b_tuple bt_tuple (de_var 2)))) (dw_or1 (dt_not (dt_val (de_cb (cr_all rfl) cd_all (by rfl) T.b_all bt_all (da_cons (de_lc (own := [("one", 4)]) rfl sc_are_gates.nd (di_seq (de_var 2)) (blkOk_by (N := ["net", "shut", "thing", "gates", "one"]) (sc := defScope s_are_gates) (by decide +kernel)) (by decide) (fun _ _ _ _ _ => (dg_name 4 sc_are_gates.nd)) (fun _ _ _ _ _ => dts_nil) (fun _ _ _ _ _ => (de_c (c_is_number T) hr (by decide) takesF (by rfl) (da_cons (de_var 4) (da_cons de_int (da_cons (de_op op_sub od_sub (de_cb call_len_seq cd_len (by rfl) T.b_len bt_len (da_cons (de_ix (de_var 0) de_int) da_nil)) de_int) da_nil)))))) da_nil))))))) (dss_one (ds_ret de_bl)) dss_nil)
    (dss_one (ds_ret (de_and (de_cb (cr_all rfl) cd_all (by rfl) T.b_all bt_all (da_cons (de_lc (own := [("one", 4)]) rfl sc_are_gates.nd (di_seq (de_var 2)) (blkOk_by (N := ["net", "shut", "thing", "gates", "one"]) (sc := defScope s_are_gates) (by decide +kernel)) (by decide) (fun _ _ _ _ _ => (dg_name 4 sc_are_gates.nd)) (fun _ _ _ _ _ => dts_nil) (fun _ _ _ _ _ => (de_cmp (or_in (ru128 hr)) od_in (de_var 4) (de_var 3)))) da_nil)) (de_one (de_c (c_are_rising T) hr (by decide) (takes_of rfl rfl rfl rfl) (by rfl) (da_cons (de_var 2) da_nil))))))))
theorem c_led_along (T : Txt w K mg base) : Callee false P w K mg base 2 "led_along" ["net", "joint", "way"] m_led_along := callee_ok (gd := false) T.d_led_along sc_led_along fun _ _ _ _ _ _ _ hr hgf hcf =>
  (dss_cons (ds_for (passes_of rfl) rfl (di_seq (de_var 2)) (dg_name 3 sc_led_along.nd) (dss_one (ds_asg 1 (de_if (dt_cmp op_isN od_is (de_var 1) de_non) de_non (de_c (c_end_from T) hr (by decide) (takes_of rfl rfl rfl rfl) (by rfl) (da_cons (de_ix (de_ix (de_var 0) de_int) (de_var 3)) (da_cons (de_var 1) da_nil)))) sc_led_along.nd)))
    (dss_one (ds_ret (de_var 1))))
theorem c_is_way (T : Txt w K mg base) : Callee false P w K mg base 5 "is_way" ["net", "place", "shut", "thing"] m_is_way := callee_ok (gd := false) T.d_is_way sc_is_way fun _ _ _ _ _ _ _ hr hgf hcf =>
  (dss_cons (ds_if (dt_w (dw_or (dt_not (dt_val (de_isi .tuple (by rfl) T.b_isinstance (by rfl) T.b_tuple bt_tuple (de_var 3)))) (dw_or (dt_cmp (or_eq (ru64 hr)) od_eq (de_var 3) (de_tup da_nil)) (dw_or1 (dt_not (dt_val (de_cb (cr_all rfl) cd_all (by rfl) T.b_all bt_all (da_cons (de_lc (own := [("one", 4)]) rfl sc_is_way.nd (di_seq (de_var 3)) (blkOk_by (N := ["net", "place", "shut", "thing", "one", "number", "joint"]) (sc := defScope s_is_way) (by decide +kernel)) (by decide) (fun _ _ _ _ _ => (dg_name 4 sc_is_way.nd)) (fun _ _ _ _ _ => dts_nil) (fun _ _ _ _ _ => (de_c (c_is_number T) hr (by decide) takesF (by rfl) (da_cons (de_var 4) (da_cons de_int (da_cons (de_op op_sub od_sub (de_cb call_len_seq cd_len (by rfl) T.b_len bt_len (da_cons (de_ix (de_var 0) de_int) da_nil)) de_int) da_nil)))))) da_nil)))))))) (dss_one (ds_ret de_bl)) dss_nil)
    (dss_cons (ds_if (dt_val (de_cb (cr_any rfl) cd_any (by rfl) T.b_any bt_any (da_cons (de_lc (own := [("number", 5)]) rfl sc_is_way.nd (di_seq (de_var 3)) (blkOk_by (N := ["net", "place", "shut", "thing", "one", "number", "joint"]) (sc := defScope s_is_way) (by decide +kernel)) (by decide) (fun _ _ _ _ _ => (dg_name 5 sc_is_way.nd)) (fun _ _ _ _ _ => dts_nil) (fun _ _ _ _ _ => (de_cmp (or_in (ru128 hr)) od_in (de_var 5) (de_var 2)))) da_nil))) (dss_one (ds_ret de_bl)) dss_nil)
    (dss_one (ds_ret (de_cb (cr_any rfl) cd_any (by rfl) T.b_any bt_any (da_cons (de_lc (own := [("joint", 6)]) rfl sc_is_way.nd (di_seq (de_c (c_begins T) hr (by decide) (takes_of rfl rfl rfl rfl) (by rfl) (da_cons (de_var 0) da_nil))) (blkOk_by (N := ["net", "place", "shut", "thing", "one", "number", "joint"]) (sc := defScope s_is_way) (by decide +kernel)) (by decide) (fun _ _ _ _ _ => (dg_name 6 sc_is_way.nd)) (fun _ _ _ _ _ => dts_nil) (fun _ _ _ _ _ => (de_cmp (or_eq (ru64 hr)) od_eq (de_c (c_led_along T) hr (by decide) takesF (by rfl) (da_cons (de_var 0) (da_cons (de_var 6) (da_cons (de_var 3) da_nil)))) (de_var 1)))) da_nil))))))
theorem c_is_cut (T : Txt w K mg base) : CalleeK false P w K mg base 8 "is_cut" ["net", "place", "thing", "shut"] ["shut"] m_is_cut := calleeK_ok (gd := false) T.d_is_cut sc_is_cut fun _ _ _ _ _ _ _ hr hgf hcf =>
  (dss_cons (ds_expr (de_c (c_need_cut T) hr (by decide) (takes_of rfl rfl rfl rfl) (by rfl) (da_cons (de_var 0) (da_cons (de_var 1) (da_cons (de_var 3) da_nil)))))
    (dss_cons (ds_if (dt_w (dw_or (dt_not (dt_val (de_isi .tuple (by rfl) T.b_isinstance (by rfl) T.b_tuple bt_tuple (de_var 2)))) (dw_or (dt_cmp (or_ne (ru64 hr)) od_ne (de_cb call_len_seq cd_len (by rfl) T.b_len bt_len (da_cons (de_var 2) da_nil)) de_int) (dw_or1 (dt_not (dt_val (de_isi .tuple (by rfl) T.b_isinstance (by rfl) T.b_tuple bt_tuple (de_ix (de_var 2) de_int)))))))) (dss_one (ds_ret de_bl)) dss_nil)
    (dss_cons (ds_asgG (de_var 2) (dg_tupC (K := K) (by rfl) (dgs_cons (dg_name 4 sc_is_cut.nd) (dgs_cons (dg_name 5 sc_is_cut.nd) dgs_nil)) (gl_cons (gl_cons gl_nil))))
    (dss_cons (ds_if (dt_w (dw_or (dt_not (dt_val (de_c (c_are_gates T) hr (by decide) (takes_of rfl rfl rfl rfl) (by rfl) (da_cons (de_var 0) (da_cons (de_var 3) (da_cons (de_var 4) da_nil)))))) (dw_or (dt_cmp (or_ne (ru64 hr)) od_ne (de_cb call_len_seq cd_len (by rfl) T.b_len bt_len (da_cons (de_var 4) da_nil)) (de_cb call_len_seq cd_len (by rfl) T.b_len bt_len (da_cons (de_var 5) da_nil))) (dw_or1 (dt_cmp (or_in (ru128 hr)) od_in (de_var 1) (de_c (c_fed_by T) hr (by decide) (takes_of rfl rfl rfl rfl) (by rfl) (da_cons (de_var 0) (da_cons (de_op or_add od_add (de_var 3) (de_var 4)) da_nil)))))))) (dss_one (ds_ret de_bl)) dss_nil)
    (dss_cons (ds_if (dt_not (dt_val (de_cb (cr_all rfl) cd_all (by rfl) T.b_all bt_all (da_cons (de_lc (own := [("way", 7)]) rfl sc_is_cut.nd (di_seq (de_var 5)) (blkOk_by (N := ["net", "place", "thing", "shut", "gates", "ways", "passed", "way", "number"]) (sc := defScope s_is_cut) (by decide +kernel)) (by decide) (fun _ _ _ _ _ => (dg_name 7 sc_is_cut.nd)) (fun _ _ _ _ _ => dts_nil) (fun _ _ _ _ _ => (de_c (c_is_way T) hr (by decide) takesF (by rfl) (da_cons (de_var 0) (da_cons (de_var 1) (da_cons (de_var 3) (da_cons (de_var 7) da_nil))))))) da_nil)))) (dss_one (ds_ret de_bl)) dss_nil)
    (dss_cons (ds_asgLc2 6 (own := [("way", 7), ("number", 8)]) (vs1 := [8]) rfl sc_is_cut.nd (di_seq (de_var 5)) (blkOk_by (N := ["net", "place", "thing", "shut", "gates", "ways", "passed", "way", "number"]) (sc := defScope s_is_cut) (by decide +kernel)) (by decide) (by decide) (by decide) (fun _ _ _ _ _ => (dg_name 7 sc_is_cut.nd)) (fun _ _ _ _ _ => dts_nil) (fun _ _ _ _ _ => (di_seq (de_c (c_gates_on T) hr (by decide) takesF (by rfl) (da_cons (de_var 0) (da_cons (de_var 7) da_nil))))) (fun _ _ _ _ _ => (dg_name 8 sc_is_cut.nd)) (fun _ _ _ _ _ => dts_nil) (fun _ _ _ _ _ => (de_var 8)) (sw_true rfl rfl rfl (by decide +kernel)))
    (dss_one (ds_ret (de_cmp (or_eq (ru64 hr)) od_eq (de_cb call_len_seq cd_len (by rfl) T.b_len bt_len (da_cons (de_var 6) da_nil)) (de_lenSet rfl (de_var 6) (by rfl) T.b_len (by rfl) T.b_set))))))))))
theorem c__law_cell_at (T : Txt w K mg base) : Callee false P w K mg base 1 "_law_cell_at" ["_law_script", "_law_k"] m__law_cell_at := callee_ok (gd := false) T.d__law_cell_at sc__law_cell_at fun _ _ _ _ _ _ _ hr hgf hcf =>
  (dss_cons (ds_if (dt_cmp op_lt od_ord (de_var 1) (de_cb call_len_seq cd_len (by rfl) T.b_len bt_len (da_cons (de_var 0) da_nil))) (dss_one (ds_ret (de_ix (de_var 0) (de_var 1)))) dss_nil)
    (dss_one (ds_ret de_int)))
theorem c__law_next (T : Txt w K mg base) : Callee false P w K mg base 1 "_law_next" ["_law_root"] m__law_next := callee_ok (gd := false) T.d__law_next sc__law_next fun _ _ _ _ _ _ _ hr hgf hcf =>
  (dss_cons (ds_asg 0 (de_op op_modN od_mod (de_op or_add od_add (de_var 0) de_int) de_int) sc__law_next.nd)
    (dss_one (ds_ret (de_op op_modN od_mod (de_op or_add od_add (de_op or_add od_add (de_op or_mul od_mul (de_var 0) (de_var 0)) (de_op or_mul od_mul de_int (de_var 0))) de_int) de_int))))
theorem c__law_pen_of (T : Txt w K mg base) : Callee false P w K mg base 1 "_law_pen_of" ["_law_cell"] m__law_pen_of := callee_ok (gd := false) T.d__law_pen_of sc__law_pen_of fun _ _ _ _ _ _ _ hr hgf hcf =>
  (dss_cons (ds_asg 1 (de_cb (call_max2 rfl) cd_max (by rfl) T.b_max bt_max (da_cons (de_var 0) (da_cons (de_op op_sub od_sub de_int (de_var 0)) da_nil))) sc__law_pen_of.nd)
    (dss_one (ds_ret (de_lst (da_cons (de_var 1) (da_cons (de_ct call_int1 cd_int (by rfl) T.b_int bt_int (da_cons (de_cmp op_ge od_ord (de_var 1) (de_op op_pow od_pow de_int de_int)) da_nil)) (da_cons (de_op op_modN od_mod (de_var 1) de_int) da_nil)))))))
theorem c__law_draw (T : Txt w K mg base) : Callee false P w K mg base 2 "_law_draw" ["_law_pen", "_law_many"] m__law_draw := callee_ok (gd := false) T.d__law_draw sc__law_draw fun _ _ _ _ _ _ _ hr hgf hcf =>
  (dss_cons (ds_if (dt_w (dw_and (dt_cmp (or_eq (ru64 hr)) od_eq (de_ix (de_var 0) de_int) de_int) (dw_and1 (dt_cmp op_gt od_ord (de_ix (de_var 0) de_int) de_int)))) (dss_cons (ds_asg 2 (de_op op_modN od_mod (de_ix (de_var 0) de_int) (de_var 1)) sc__law_draw.nd)
    (dss_cons (ds_asgG (de_op od_div.1 od_div.2 (de_ix (de_var 0) de_int) (de_var 1)) (dg_sub (W := WF) 0 de_int))
    (dss_one (ds_ret (de_var 2))))) dss_nil)
    (dss_cons (ds_asgG (de_c (c__law_next T) hr (by decide) (takes_of rfl rfl rfl rfl) (by rfl) (da_cons (de_op or_add od_add (de_c (c__law_next T) hr (by decide) (takes_of rfl rfl rfl rfl) (by rfl) (da_cons (de_ix (de_var 0) de_int) da_nil)) de_int) da_nil)) (dg_sub (W := WF) 0 de_int))
    (dss_one (ds_ret (de_op op_modN od_mod (de_op od_div.1 od_div.2 (de_ix (de_var 0) de_int) de_int) (de_var 1))))))
theorem c__law_joint (T : Txt w K mg base) : Callee false P w K mg base 3 "_law_joint" ["_law_pen"] m__law_joint__3 := callee_ok (gd := false) T.d__law_joint sc__law_joint fun _ _ _ _ _ _ _ hr hgf hcf =>
  (dss_cons (ds_par 1 2 rfl sc__law_joint.nd (de_cP (c__law_draw T) hr (by decide) (takes_of rfl rfl rfl rfl) (by rfl) (da_cons (de_var 0) (da_cons de_int da_nil))) (de_cP (c__law_draw T) hr (by decide) (takes_of rfl rfl rfl rfl) (by rfl) (da_cons (de_var 0) (da_cons de_int da_nil))))
    (dss_cons (ds_if (dt_cmp op_lt od_ord (de_var 1) de_int) (dss_one (ds_ret (de_tup (da_cons de_str (da_cons (de_cP (c__law_draw T) hr (by decide) (takes_of rfl rfl rfl rfl) (by rfl) (da_cons (de_var 0) (da_cons de_int da_nil))) (da_cons (de_var 2) (da_cons (de_op or_add od_add (de_var 2) (de_cP (c__law_draw T) hr (by decide) (takes_of rfl rfl rfl rfl) (by rfl) (da_cons (de_var 0) (da_cons de_int da_nil)))) da_nil))))))) dss_nil)
    (dss_one (ds_ret (de_ix (de_lst (da_cons (de_tup (da_cons de_str (da_cons (de_op or_add od_add de_int (de_cP (c__law_draw T) hr (by decide) (takes_of rfl rfl rfl rfl) (by rfl) (da_cons (de_var 0) (da_cons de_int da_nil)))) da_nil))) (da_cons (de_tup (da_cons de_str (da_cons (de_op or_add od_add de_int (de_cP (c__law_draw T) hr (by decide) (takes_of rfl rfl rfl rfl) (by rfl) (da_cons (de_var 0) (da_cons de_int da_nil)))) (da_cons (de_op or_add od_add de_int (de_cP (c__law_draw T) hr (by decide) (takes_of rfl rfl rfl rfl) (by rfl) (da_cons (de_var 0) (da_cons de_int da_nil)))) (da_cons de_int da_nil))))) da_nil))) (de_op op_sub od_sub (de_var 1) de_int))))))
theorem c__law_pipe (T : Txt w K mg base) : Callee false P w K mg base 3 "_law_pipe" ["_law_pen", "_law_many", "_law_ahead"] m__law_pipe__3 := callee_ok (gd := false) T.d__law_pipe sc__law_pipe fun _ _ _ _ _ _ _ hr hgf hcf =>
  (dss_cons (ds_asg 3 (de_cP (c__law_draw T) hr (by decide) (takes_of rfl rfl rfl rfl) (by rfl) (da_cons (de_var 0) (da_cons (de_var 1) da_nil))) sc__law_pipe.nd)
    (dss_cons (ds_asg 4 (de_op op_modN od_mod (de_op or_add od_add (de_op or_add od_add (de_var 3) de_int) (de_cP (c__law_draw T) hr (by decide) (takes_of rfl rfl rfl rfl) (by rfl) (da_cons (de_var 0) (da_cons (de_op op_sub od_sub (de_var 1) de_int) da_nil)))) (de_var 1)) sc__law_pipe.nd)
    (dss_cons (ds_asg 5 (de_and (de_cmp (or_eq (ru64 hr)) od_eq (de_cP (c__law_draw T) hr (by decide) (takes_of rfl rfl rfl rfl) (by rfl) (da_cons (de_var 0) (da_cons de_int da_nil))) de_int) (de_one (de_cmp op_lt od_ord (de_cb call_len_seq cd_len (by rfl) T.b_len bt_len (da_cons (de_lc (own := [("_law_pipe_here", 9)]) rfl sc__law_pipe.nd (di_seq (de_var 2)) (blkOk_by (N := ["_law_pen", "_law_many", "_law_ahead", "_law_one", "_law_other", "_law_on", "_law_lift", "_law_way", "_law_gate", "_law_pipe_here"]) (sc := defScope s__law_pipe) (by decide +kernel)) (by decide) (fun _ _ _ _ _ => (dg_name 9 sc__law_pipe.nd)) (fun _ _ _ _ _ => (dts_one (dt_cmp (or_eq (ru64 hr)) od_eq (de_ix (de_var 9) de_int) de_str))) (fun _ _ _ _ _ => (de_var 9))) da_nil)) de_int))) sc__law_pipe.nd)
    (dss_cons (ds_asg 6 (de_if (dt_val (de_var 5)) (de_ix (de_lst (da_cons de_int (da_cons (de_op or_add od_add de_int (de_cP (c__law_draw T) hr (by decide) (takes_of rfl rfl rfl rfl) (by rfl) (da_cons (de_var 0) (da_cons de_int da_nil)))) da_nil))) (de_cP (c__law_draw T) hr (by decide) (takes_of rfl rfl rfl rfl) (by rfl) (da_cons (de_var 0) (da_cons de_int da_nil)))) de_int) sc__law_pipe.nd)
    (dss_cons (ds_par 7 8 rfl sc__law_pipe.nd (de_ix (de_lst (da_cons de_str (da_cons de_str da_nil))) (de_ct call_int1 cd_int (by rfl) T.b_int bt_int (da_cons (de_var 5) da_nil))) (de_cmp op_gt od_ord (de_cP (c__law_draw T) hr (by decide) (takes_of rfl rfl rfl rfl) (by rfl) (da_cons (de_var 0) (da_cons de_int da_nil))) de_int))
    (dss_one (ds_ret (de_tup (da_cons (de_var 3) (da_cons (de_var 4) (da_cons (de_op or_add od_add de_int (de_cP (c__law_draw T) hr (by decide) (takes_of rfl rfl rfl rfl) (by rfl) (da_cons (de_var 0) (da_cons de_int da_nil)))) (da_cons (de_var 7) (da_cons (de_var 6) (da_cons (de_var 8) (da_cons (de_cP (c__law_draw T) hr (by decide) (takes_of rfl rfl rfl rfl) (by rfl) (da_cons (de_var 0) (da_cons de_int da_nil))) da_nil)))))))))))))))
theorem c__law_net (T : Txt w K mg base) : Callee false P w K mg base 4 "_law_net" ["_law_pen", "_law_most"] m__law_net__3 := callee_ok (gd := false) T.d__law_net sc__law_net fun _ _ _ _ _ _ _ hr hgf hcf =>
  (dss_cons (ds_asg 2 (de_op or_add od_add de_int (de_cP (c__law_draw T) hr (by decide) (takes_of rfl rfl rfl rfl) (by rfl) (da_cons (de_var 0) (da_cons (de_op op_sub od_sub (de_var 1) de_int) da_nil)))) sc__law_net.nd)
    (dss_cons (ds_par 3 4 rfl sc__law_net.nd (de_lst (da_cons (de_tup (da_cons de_str (da_cons (de_op or_add od_add de_int (de_cP (c__law_draw T) hr (by decide) (takes_of rfl rfl rfl rfl) (by rfl) (da_cons (de_var 0) (da_cons de_int da_nil)))) da_nil))) (da_cons (de_tup (da_cons de_str (da_cons (de_cP (c__law_draw T) hr (by decide) (takes_of rfl rfl rfl rfl) (by rfl) (da_cons (de_var 0) (da_cons de_int da_nil))) (da_cons de_int (da_cons de_int da_nil))))) da_nil))) (de_lst da_nil))
    (dss_cons (ds_asg 3 (de_op or_add od_add (de_var 3) (de_lc (own := [("_law_joint_here", 5)]) rfl sc__law_net.nd (di_range1 (by rfl) T.b_range (da_cons (de_op op_sub od_sub (de_var 2) de_int) da_nil)) (blkOk_by (N := ["_law_pen", "_law_most", "_law_many", "_law_joints", "_law_pipes", "_law_joint_here", "_law_pipe_here", "_law_turn"]) (sc := defScope s__law_net) (by decide +kernel)) (by decide) (fun _ _ _ _ _ => (dg_name 5 sc__law_net.nd)) (fun _ _ _ _ _ => dts_nil) (fun _ _ _ _ _ => (de_cP (c__law_joint T) hr (by decide) takesF (by rfl) (da_cons (de_var 0) da_nil))))) sc__law_net.nd)
    (dss_cons (ds_for (passes_of rfl) rfl (di_range2 (by rfl) T.b_range (da_cons de_int (da_cons (de_var 2) da_nil))) (dg_name 5 sc__law_net.nd) (dss_cons (ds_asg 6 (de_cPL 4 (c__law_pipe T) hr (by decide) (takes_of rfl rfl rfl rfl) (by rfl) (da_cons (de_var 0) (da_cons (de_var 2) (da_cons (de_var 4) da_nil)))) sc__law_net.nd)
    (dss_one (ds_expr (de_app 4 (de_op or_add od_add (de_tup (da_cons (de_cP (c__law_draw T) hr (by decide) (takes_of rfl rfl rfl rfl) (by rfl) (da_cons (de_var 0) (da_cons (de_var 5) da_nil))) (da_cons (de_var 5) da_nil))) (de_sl (de_var 6) (do_some de_int) do_none)))))))
    (dss_cons (ds_for (passes_of rfl) rfl (di_range1 (by rfl) T.b_range (da_cons (de_cP (c__law_draw T) hr (by decide) (takes_of rfl rfl rfl rfl) (by rfl) (da_cons (de_var 0) (da_cons (de_op op_sub od_sub de_int (de_var 2)) da_nil))) da_nil)) (dg_name 7 sc__law_net.nd) (dss_one (ds_expr (de_app 4 (de_cPL 4 (c__law_pipe T) hr (by decide) (takes_of rfl rfl rfl rfl) (by rfl) (da_cons (de_var 0) (da_cons (de_var 2) (da_cons (de_var 4) da_nil))))))))
    (dss_one (ds_ret (de_tup (da_cons (de_ct call_tuple_of cd_tuple (by rfl) T.b_tuple bt_tuple (da_cons (de_var 3) da_nil)) (da_cons (de_ct call_tuple_of cd_tuple (by rfl) T.b_tuple bt_tuple (da_cons (de_var 4) da_nil)) da_nil))))))))))
theorem c__law_shut (T : Txt w K mg base) : Callee false P w K mg base 3 "_law_shut" ["_law_pen", "_law_net_here"] m__law_shut := callee_ok (gd := false) T.d__law_shut sc__law_shut fun _ _ _ _ _ _ _ hr hgf hcf =>
  (dss_cons (ds_asgLc 2 (own := [("_law_number", 3), ("_law_pipe_here", 4)]) rfl sc__law_shut.nd (di_enum (by rfl) T.b_enumerate (da_cons (de_ix (de_var 1) de_int) da_nil)) (blkOk_by (N := ["_law_pen", "_law_net_here", "_law_some", "_law_number", "_law_pipe_here"]) (sc := defScope s__law_shut) (by decide +kernel)) (by decide) (fun _ _ _ _ _ => (dg_tupC (K := K) (by rfl) (dgs_cons (dg_name 3 sc__law_shut.nd) (dgs_cons (dg_name 4 sc__law_shut.nd) dgs_nil)) (gl_cons (gl_cons gl_nil)))) (fun _ _ _ _ _ => (dts_one (dt_w (dw_or (dt_val (de_ix (de_var 4) de_int)) (dw_or1 (dt_cmp op_gt od_ord (de_ix (de_var 4) de_int) de_int)))))) (fun _ _ _ _ _ => (de_var 3)) (sw_true rfl rfl rfl (by decide +kernel)))
    (dss_one (ds_ret (de_ct call_tuple_of cd_tuple (by rfl) T.b_tuple bt_tuple (da_cons (de_lc (own := [("_law_number", 3)]) rfl sc__law_shut.nd (di_seq (de_var 2)) (blkOk_by (N := ["_law_pen", "_law_net_here", "_law_some", "_law_number", "_law_pipe_here"]) (sc := defScope s__law_shut) (by decide +kernel)) (by decide) (fun _ _ _ _ _ => (dg_name 3 sc__law_shut.nd)) (fun _ _ _ _ _ => (dts_one (dt_cmp (or_eq (ru64 hr)) od_eq (de_cP (c__law_draw T) hr (by decide) takesF (by rfl) (da_cons (de_var 0) (da_cons de_int da_nil))) de_int))) (fun _ _ _ _ _ => (de_var 3))) da_nil)))))
theorem c__law_places (T : Txt w K mg base) : Callee false P w K mg base 1 "_law_places" ["_law_net_here"] m__law_places := callee_ok (gd := false) T.d__law_places sc__law_places fun _ _ _ _ _ _ _ hr hgf hcf =>
  (dss_one (ds_ret (de_lc (own := [("_law_joint_here", 1)]) rfl sc__law_places.nd (di_range1 (by rfl) T.b_range (da_cons (de_cb call_len_seq cd_len (by rfl) T.b_len bt_len (da_cons (de_ix (de_var 0) de_int) da_nil)) da_nil)) (blkOk_by (N := ["_law_net_here", "_law_joint_here"]) (sc := defScope s__law_places) (by decide +kernel)) (by decide) (fun _ _ _ _ _ => (dg_name 1 sc__law_places.nd)) (fun _ _ _ _ _ => (dts_one (dt_cmp (or_eq (ru64 hr)) od_eq (de_ix (de_ix (de_ix (de_var 0) de_int) (de_var 1)) de_int) de_str))) (fun _ _ _ _ _ => (de_var 1)))))
theorem c__law_to (T : Txt w K mg base) : Callee false P w K mg base 1 "_law_to" ["_law_pipe_here", "_law_joint_here"] m__law_to := callee_ok (gd := false) T.d__law_to sc__law_to fun _ _ _ _ _ _ _ hr hgf hcf =>
  (dss_cons (ds_if (dt_cmp (or_eq (ru64 hr)) od_eq (de_ix (de_var 0) de_int) (de_var 1)) (dss_one (ds_ret (de_ix (de_var 0) de_int))) dss_nil)
    (dss_one (ds_ret (de_if (dt_w (dw_and (dt_cmp (or_eq (ru64 hr)) od_eq (de_ix (de_var 0) de_int) (de_var 1)) (dw_and1 (dt_cmp (or_eq (ru64 hr)) od_eq (de_ix (de_var 0) de_int) de_str)))) (de_ix (de_var 0) de_int) de_non))))
theorem c__law_fed (T : Txt w K mg base) : Callee false P w K mg base 2 "_law_fed" ["_law_net_here", "_law_closed"] m__law_fed__2 := callee_ok (gd := false) T.d__law_fed sc__law_fed fun _ _ _ _ _ _ _ hr hgf hcf =>
  (dss_cons (ds_asg 2 (de_lc (own := [("_law_joint_here", 6)]) rfl sc__law_fed.nd (di_range1 (by rfl) T.b_range (da_cons (de_cb call_len_seq cd_len (by rfl) T.b_len bt_len (da_cons (de_ix (de_var 0) de_int) da_nil)) da_nil)) (blkOk_by (N := ["_law_net_here", "_law_closed", "_law_found", "_law_turn", "_law_number", "_law_pipe_here", "_law_joint_here", "_law_to_here", "_law_one"]) (sc := defScope s__law_fed) (by decide +kernel)) (by decide) (fun _ _ _ _ _ => (dg_name 6 sc__law_fed.nd)) (fun _ _ _ _ _ => (dts_one (dt_cmp (or_ne (ru64 hr)) od_ne (de_ix (de_ix (de_ix (de_var 0) de_int) (de_var 6)) de_int) de_str))) (fun _ _ _ _ _ => (de_var 6))) sc__law_fed.nd)
    (dss_cons (ds_for (passes_of rfl) rfl (di_range1 (by rfl) T.b_range (da_cons de_int da_nil)) (dg_name 3 sc__law_fed.nd) (dss_one (ds_for (passes_of rfl) rfl (di_enum (by rfl) T.b_enumerate (da_cons (de_ix (de_var 0) de_int) da_nil)) (dg_tupC (K := K) (by rfl) (dgs_cons (dg_name 4 sc__law_fed.nd) (dgs_cons (dg_name 5 sc__law_fed.nd) dgs_nil)) (gl_cons (gl_cons gl_nil))) (dss_one (ds_for (passes_of rfl) rfl (di_seq (de_lc (own := [("_law_one", 8)]) rfl sc__law_fed.nd (di_seq (de_sl (de_var 5) do_none (do_some de_int))) (blkOk_by (N := ["_law_net_here", "_law_closed", "_law_found", "_law_turn", "_law_number", "_law_pipe_here", "_law_joint_here", "_law_to_here", "_law_one"]) (sc := defScope s__law_fed) (by decide +kernel)) (by decide) (fun _ _ _ _ _ => (dg_name 8 sc__law_fed.nd)) (fun _ _ _ _ _ => (dts_one (dt_w (dw_and (dt_cmp (or_in (ru128 hr)) od_in (de_var 8) (de_var 2)) (dw_and1 (dt_cmp (or_nin (ru128 hr)) od_nin (de_var 4) (de_var 1))))))) (fun _ _ _ _ _ => (de_var 8)))) (dg_name 6 sc__law_fed.nd) (dss_cons (ds_asg 7 (de_c (c__law_to T) hr (by decide) (takes_of rfl rfl rfl rfl) (by rfl) (da_cons (de_var 5) (da_cons (de_var 6) da_nil))) sc__law_fed.nd)
    (dss_one (ds_if (dt_w (dw_and (dt_cmp op_notN od_isnt (de_var 7) de_non) (dw_and1 (dt_cmp (or_nin (ru128 hr)) od_nin (de_var 7) (de_var 2))))) (dss_one (ds_expr (de_app 2 (de_var 7)))) dss_nil))))))))
    (dss_one (ds_ret (de_var 2)))))
theorem c__law_whole (T : Txt w K mg base) : Callee false P w K mg base 1 "_law_whole" ["_law_thing"] m__law_whole := callee_ok (gd := false) T.d__law_whole sc__law_whole fun _ _ _ _ _ _ _ hr hgf hcf =>
  (dss_one (ds_ret (de_and (de_isi .int (by rfl) T.b_isinstance (by rfl) T.b_int bt_int (de_var 0)) (de_one (de_not (de_isi .bool (by rfl) T.b_isinstance (by rfl) T.b_bool bt_bool (de_var 0)))))))
theorem c__law_are_numbers (T : Txt w K mg base) : Callee false P w K mg base 2 "_law_are_numbers" ["_law_thing", "_law_many"] m__law_are_numbers := callee_ok (gd := false) T.d__law_are_numbers sc__law_are_numbers fun _ _ _ _ _ _ _ hr hgf hcf =>
  (dss_cons (ds_if (dt_not (dt_val (de_isi .tuple (by rfl) T.b_isinstance (by rfl) T.b_tuple bt_tuple (de_var 0)))) (dss_one (ds_ret de_bl)) dss_nil)
    (dss_one (ds_ret (de_cb (cr_all rfl) cd_all (by rfl) T.b_all bt_all (da_cons (de_lc (own := [("_law_one", 2)]) rfl sc__law_are_numbers.nd (di_seq (de_var 0)) (blkOk_by (N := ["_law_thing", "_law_many", "_law_one"]) (sc := defScope s__law_are_numbers) (by decide +kernel)) (by decide) (fun _ _ _ _ _ => (dg_name 2 sc__law_are_numbers.nd)) (fun _ _ _ _ _ => dts_nil) (fun _ _ _ _ _ => (de_and (de_c (c__law_whole T) hr (by decide) takesF (by rfl) (da_cons (de_var 2) da_nil)) (de_one (de_chain op_le od_ord op_lt od_ord de_int (de_var 2) (de_var 1)))))) da_nil)))))
theorem c__law_leads (T : Txt w K mg base) : Callee false P w K mg base 3 "_law_leads" ["_law_net_here", "_law_place", "_law_closed", "_law_way"] m__law_leads := callee_ok (gd := false) T.d__law_leads sc__law_leads fun _ _ _ _ _ _ _ hr hgf hcf =>
  (dss_cons (ds_if (dt_w (dw_or (dt_not (dt_val (de_c (c__law_are_numbers T) hr (by decide) (takes_of rfl rfl rfl rfl) (by rfl) (da_cons (de_var 3) (da_cons (de_cb call_len_seq cd_len (by rfl) T.b_len bt_len (da_cons (de_ix (de_var 0) de_int) da_nil)) da_nil))))) (dw_or (dt_cmp (or_eq (ru64 hr)) od_eq (de_var 3) (de_tup da_nil)) (dw_or1 (dt_cmp (or_ne (ru64 hr)) od_ne (de_lc (own := [("_law_one", 7)]) rfl sc__law_leads.nd (di_seq (de_var 3)) (blkOk_by (N := ["_law_net_here", "_law_place", "_law_closed", "_law_way", "_law_begin", "_law_here", "_law_number", "_law_one", "_law_joint_here"]) (sc := defScope s__law_leads) (by decide +kernel)) (by decide) (fun _ _ _ _ _ => (dg_name 7 sc__law_leads.nd)) (fun _ _ _ _ _ => (dts_one (dt_cmp (or_in (ru128 hr)) od_in (de_var 7) (de_var 2)))) (fun _ _ _ _ _ => (de_var 7))) (de_lst da_nil)))))) (dss_one (ds_ret de_bl)) dss_nil)
    (dss_cons (ds_for (passes_of rfl) rfl (di_seq (de_lc (own := [("_law_joint_here", 8)]) rfl sc__law_leads.nd (di_range1 (by rfl) T.b_range (da_cons (de_cb call_len_seq cd_len (by rfl) T.b_len bt_len (da_cons (de_ix (de_var 0) de_int) da_nil)) da_nil)) (blkOk_by (N := ["_law_net_here", "_law_place", "_law_closed", "_law_way", "_law_begin", "_law_here", "_law_number", "_law_one", "_law_joint_here"]) (sc := defScope s__law_leads) (by decide +kernel)) (by decide) (fun _ _ _ _ _ => (dg_name 8 sc__law_leads.nd)) (fun _ _ _ _ _ => (dts_one (dt_cmp (or_ne (ru64 hr)) od_ne (de_ix (de_ix (de_ix (de_var 0) de_int) (de_var 8)) de_int) de_str))) (fun _ _ _ _ _ => (de_var 8)))) (dg_name 4 sc__law_leads.nd) (dss_cons (ds_asg 5 (de_var 4) sc__law_leads.nd)
    (dss_cons (ds_for (passes_of rfl) rfl (di_seq (de_var 3)) (dg_name 6 sc__law_leads.nd) (dss_one (ds_asg 5 (de_if (dt_cmp op_isN od_is (de_var 5) de_non) de_non (de_c (c__law_to T) hr (by decide) (takes_of rfl rfl rfl rfl) (by rfl) (da_cons (de_ix (de_ix (de_var 0) de_int) (de_var 6)) (da_cons (de_var 5) da_nil)))) sc__law_leads.nd)))
    (dss_one (ds_if (dt_cmp (or_eq (ru64 hr)) od_eq (de_var 5) (de_var 1)) (dss_one (ds_ret de_bl)) dss_nil)))))
    (dss_one (ds_ret de_bl))))
theorem c__law_apart (T : Txt w K mg base) : Callee false P w K mg base 1 "_law_apart" ["_law_net_here", "_law_ways"] m__law_apart := callee_ok (gd := false) T.d__law_apart sc__law_apart fun _ _ _ _ _ _ _ hr hgf hcf =>
  (dss_cons (ds_asg 2 (de_lst da_nil) sc__law_apart.nd)
    (dss_cons (ds_for (passes_of rfl) rfl (di_seq (de_var 1)) (dg_name 3 sc__law_apart.nd) (dss_cons (ds_asgLc 4 (own := [("_law_number", 5)]) rfl sc__law_apart.nd (di_seq (de_var 3)) (blkOk_by (N := ["_law_net_here", "_law_ways", "_law_seen", "_law_way", "_law_gates", "_law_number"]) (sc := defScope s__law_apart) (by decide +kernel)) (by decide) (fun _ _ _ _ _ => (dg_name 5 sc__law_apart.nd)) (fun _ _ _ _ _ => (dts_one (dt_val (de_ix (de_ix (de_ix (de_var 0) de_int) (de_var 5)) de_int)))) (fun _ _ _ _ _ => (de_var 5)) (sw_true rfl rfl rfl (by decide +kernel)))
    (dss_cons (ds_if (dt_w (dw_or (dt_cmp (or_ne (ru64 hr)) od_ne (de_lenSet rfl (de_var 4) (by rfl) T.b_len (by rfl) T.b_set) (de_cb call_len_seq cd_len (by rfl) T.b_len bt_len (da_cons (de_var 4) da_nil))) (dw_or1 (dt_cmp (or_ne (ru64 hr)) od_ne (de_lc (own := [("_law_number", 5)]) rfl sc__law_apart.nd (di_seq (de_var 4)) (blkOk_by (N := ["_law_net_here", "_law_ways", "_law_seen", "_law_way", "_law_gates", "_law_number"]) (sc := defScope s__law_apart) (by decide +kernel)) (by decide) (fun _ _ _ _ _ => (dg_name 5 sc__law_apart.nd)) (fun _ _ _ _ _ => (dts_one (dt_cmp (or_in (ru128 hr)) od_in (de_var 5) (de_var 2)))) (fun _ _ _ _ _ => (de_var 5))) (de_lst da_nil))))) (dss_one (ds_ret de_bl)) dss_nil)
    (dss_one (ds_asg 2 (de_op or_add od_add (de_var 2) (de_var 4)) sc__law_apart.nd)))))
    (dss_one (ds_ret de_bl))))
theorem c__law_is_cut (T : Txt w K mg base) : Callee false P w K mg base 4 "_law_is_cut" ["_law_net_here", "_law_place", "_law_closed", "_law_thing"] m__law_is_cut := callee_ok (gd := false) T.d__law_is_cut sc__law_is_cut fun _ _ _ _ _ _ _ hr hgf hcf =>
  (dss_cons (ds_if (dt_w (dw_or (dt_not (dt_val (de_isi .tuple (by rfl) T.b_isinstance (by rfl) T.b_tuple bt_tuple (de_var 3)))) (dw_or (dt_cmp (or_ne (ru64 hr)) od_ne (de_cb call_len_seq cd_len (by rfl) T.b_len bt_len (da_cons (de_var 3) da_nil)) de_int) (dw_or1 (dt_not (dt_val (de_isi .tuple (by rfl) T.b_isinstance (by rfl) T.b_tuple bt_tuple (de_ix (de_var 3) de_int)))))))) (dss_one (ds_ret de_bl)) dss_nil)
    (dss_cons (ds_asgG (de_var 3) (dg_tupC (K := K) (by rfl) (dgs_cons (dg_name 4 sc__law_is_cut.nd) (dgs_cons (dg_name 5 sc__law_is_cut.nd) dgs_nil)) (gl_cons (gl_cons gl_nil))))
    (dss_cons (ds_if (dt_w (dw_or (dt_not (dt_val (de_c (c__law_are_numbers T) hr (by decide) (takes_of rfl rfl rfl rfl) (by rfl) (da_cons (de_var 4) (da_cons (de_cb call_len_seq cd_len (by rfl) T.b_len bt_len (da_cons (de_ix (de_var 0) de_int) da_nil)) da_nil))))) (dw_or1 (dt_cmp (or_ne (ru64 hr)) od_ne (de_ct call_list_of cd_list (by rfl) T.b_list bt_list (da_cons (de_var 4) da_nil)) (de_sortSet rfl (de_var 4) (by rfl) T.b_sorted (by rfl) T.b_set))))) (dss_one (ds_ret de_bl)) dss_nil)
    (dss_cons (ds_if (dt_w (dw_or (dt_cmp (or_ne (ru64 hr)) od_ne (de_lc (own := [("_law_one", 6)]) rfl sc__law_is_cut.nd (di_seq (de_var 4)) (blkOk_by (N := ["_law_net_here", "_law_place", "_law_closed", "_law_thing", "_law_gates", "_law_ways", "_law_one", "_law_way"]) (sc := defScope s__law_is_cut) (by decide +kernel)) (by decide) (fun _ _ _ _ _ => (dg_name 6 sc__law_is_cut.nd)) (fun _ _ _ _ _ => (dts_one (dt_w (dw_or (dt_not (dt_val (de_ix (de_ix (de_ix (de_var 0) de_int) (de_var 6)) de_int))) (dw_or1 (dt_cmp (or_in (ru128 hr)) od_in (de_var 6) (de_var 2))))))) (fun _ _ _ _ _ => (de_var 6))) (de_lst da_nil)) (dw_or1 (dt_cmp (or_ne (ru64 hr)) od_ne (de_cb call_len_seq cd_len (by rfl) T.b_len bt_len (da_cons (de_var 4) da_nil)) (de_cb call_len_seq cd_len (by rfl) T.b_len bt_len (da_cons (de_var 5) da_nil)))))) (dss_one (ds_ret de_bl)) dss_nil)
    (dss_cons (ds_if (dt_w (dw_or (dt_not (dt_val (de_cb (cr_all rfl) cd_all (by rfl) T.b_all bt_all (da_cons (de_lc (own := [("_law_way", 7)]) rfl sc__law_is_cut.nd (di_seq (de_var 5)) (blkOk_by (N := ["_law_net_here", "_law_place", "_law_closed", "_law_thing", "_law_gates", "_law_ways", "_law_one", "_law_way"]) (sc := defScope s__law_is_cut) (by decide +kernel)) (by decide) (fun _ _ _ _ _ => (dg_name 7 sc__law_is_cut.nd)) (fun _ _ _ _ _ => dts_nil) (fun _ _ _ _ _ => (de_c (c__law_leads T) hr (by decide) takesF (by rfl) (da_cons (de_var 0) (da_cons (de_var 1) (da_cons (de_var 2) (da_cons (de_var 7) da_nil))))))) da_nil)))) (dw_or1 (dt_not (dt_val (de_c (c__law_apart T) hr (by decide) (takes_of rfl rfl rfl rfl) (by rfl) (da_cons (de_var 0) (da_cons (de_var 5) da_nil)))))))) (dss_one (ds_ret de_bl)) dss_nil)
    (dss_one (ds_ret (de_cmp (or_nin (ru128 hr)) od_nin (de_var 1) (de_c (c__law_fed T) hr (by decide) (takes_of rfl rfl rfl rfl) (by rfl) (da_cons (de_var 0) (da_cons (de_op or_add od_add (de_var 2) (de_var 4)) da_nil)))))))))))
theorem c__law_odd (T : Txt w K mg base) : Callee false P w K mg base 3 "_law_odd" ["_law_pen"] m__law_odd__3 := callee_ok (gd := false) T.d__law_odd sc__law_odd fun _ _ _ _ _ _ _ hr hgf hcf =>
  (dss_cons (ds_asg 1 (de_lst (da_cons de_non (da_cons de_bl (da_cons de_bl (da_cons (de_neg de_int) (da_cons de_int (da_cons (de_op op_pow od_pow de_int de_int) (da_cons de_str (da_cons de_str (da_cons (de_tup da_nil) (da_cons (de_lst da_nil) (da_cons de_dnew (da_cons (de_tup (da_cons de_int da_nil)) (da_cons (de_lst (da_cons de_int da_nil)) (da_cons (de_tup (da_cons (de_tup da_nil) da_nil)) (da_cons (de_tup (da_cons (de_tup da_nil) (da_cons (de_tup da_nil) da_nil))) (da_cons (de_tup (da_cons de_bl da_nil)) da_nil))))))))))))))))) sc__law_odd.nd)
    (dss_one (ds_ret (de_ix (de_var 1) (de_cP (c__law_draw T) hr (by decide) (takes_of rfl rfl rfl rfl) (by rfl) (da_cons (de_var 0) (da_cons de_int da_nil)))))))
theorem c__law_row (T : Txt w K mg base) : Callee false P w K mg base 3 "_law_row" ["_law_pen", "_law_row_here", "_law_many"] m__law_row := callee_ok (gd := false) T.d__law_row sc__law_row fun _ _ _ _ _ _ _ hr hgf hcf =>
  (dss_cons (ds_asg 3 (de_cP (c__law_draw T) hr (by decide) (takes_of rfl rfl rfl rfl) (by rfl) (da_cons (de_var 0) (da_cons (de_op or_add od_add (de_cb call_len_seq cd_len (by rfl) T.b_len bt_len (da_cons (de_var 1) da_nil)) de_int) da_nil))) sc__law_row.nd)
    (dss_cons (ds_asg 4 (de_ix (de_lst (da_cons (de_cP (c__law_draw T) hr (by decide) (takes_of rfl rfl rfl rfl) (by rfl) (da_cons (de_var 0) (da_cons (de_var 2) da_nil))) (da_cons (de_var 2) (da_cons (de_neg de_int) (da_cons de_bl (da_cons de_non (da_cons de_str (da_cons (de_tup (da_cons de_int da_nil)) da_nil)))))))) (de_cP (c__law_draw T) hr (by decide) (takes_of rfl rfl rfl rfl) (by rfl) (da_cons (de_var 0) (da_cons de_int da_nil)))) sc__law_row.nd)
    (dss_cons (ds_asg 5 (de_lst (da_cons (de_op or_add od_add (de_op or_add od_add (de_sl (de_var 1) do_none (do_some (de_var 3))) (de_tup (da_cons (de_var 4) da_nil))) (de_sl (de_var 1) (do_some (de_op or_add od_add (de_var 3) de_int)) do_none)) (da_cons (de_op or_add od_add (de_op or_add od_add (de_sl (de_var 1) do_none (do_some (de_var 3))) (de_tup (da_cons (de_var 4) da_nil))) (de_sl (de_var 1) (do_some (de_var 3)) do_none)) (da_cons (de_op or_add od_add (de_sl (de_var 1) do_none (do_some (de_var 3))) (de_sl (de_var 1) (do_some (de_op or_add od_add (de_var 3) de_int)) do_none)) (da_cons (de_revT (de_var 1)) da_nil))))) sc__law_row.nd)
    (dss_one (ds_ret (de_ix (de_op or_add od_add (de_var 5) (de_lst (da_cons (de_ct call_list_of cd_list (by rfl) T.b_list bt_list (da_cons (de_var 1) da_nil)) (da_cons (de_op or_add od_add (de_var 1) (de_sl (de_var 1) (do_some (de_neg de_int)) do_none)) (da_cons (de_ct call_tuple_of cd_tuple (by rfl) T.b_tuple bt_tuple (da_cons (de_lc (own := [("_law_one", 6)]) rfl sc__law_row.nd (di_seq (de_var 1)) (blkOk_by (N := ["_law_pen", "_law_row_here", "_law_many", "_law_at", "_law_number", "_law_some", "_law_one"]) (sc := defScope s__law_row) (by decide +kernel)) (by decide) (fun _ _ _ _ _ => (dg_name 6 sc__law_row.nd)) (fun _ _ _ _ _ => dts_nil) (fun _ _ _ _ _ => (de_cmp (or_eq (ru64 hr)) od_eq (de_var 6) de_int))) da_nil)) da_nil))))) (de_cP (c__law_draw T) hr (by decide) (takes_of rfl rfl rfl rfl) (by rfl) (da_cons (de_var 0) (da_cons de_int da_nil)))))))))
theorem c__law_bent (T : Txt w K mg base) : Callee false P w K mg base 4 "_law_bent" ["_law_pen", "_law_net_here", "_law_cut"] m__law_bent__3 := callee_ok (gd := false) T.d__law_bent sc__law_bent fun _ _ _ _ _ _ _ hr hgf hcf =>
  (dss_cons (ds_asgG (de_var 2) (dg_tupC (K := K) (by rfl) (dgs_cons (dg_name 3 sc__law_bent.nd) (dgs_cons (dg_name 4 sc__law_bent.nd) dgs_nil)) (gl_cons (gl_cons gl_nil))))
    (dss_cons (ds_par 5 6 rfl sc__law_bent.nd (de_cb call_len_seq cd_len (by rfl) T.b_len bt_len (da_cons (de_ix (de_var 1) de_int) da_nil)) (de_cP (c__law_draw T) hr (by decide) (takes_of rfl rfl rfl rfl) (by rfl) (da_cons (de_var 0) (da_cons (de_cb (call_max2 rfl) cd_max (by rfl) T.b_max bt_max (da_cons de_int (da_cons (de_cb call_len_seq cd_len (by rfl) T.b_len bt_len (da_cons (de_var 4) da_nil)) da_nil))) da_nil))))
    (dss_cons (ds_asg 7 (de_cP (c__law_draw T) hr (by decide) (takes_of rfl rfl rfl rfl) (by rfl) (da_cons (de_var 0) (da_cons (de_var 5) da_nil))) sc__law_bent.nd)
    (dss_cons (ds_asg 8 (de_lst (da_cons (de_tup (da_cons (de_cP (c__law_row T) hr (by decide) (takes_of rfl rfl rfl rfl) (by rfl) (da_cons (de_var 0) (da_cons (de_var 3) (da_cons (de_var 5) da_nil)))) (da_cons (de_var 4) da_nil))) (da_cons (de_tup (da_cons (de_op or_add od_add (de_var 3) (de_tup (da_cons (de_var 7) da_nil))) (da_cons (de_var 4) da_nil))) (da_cons (de_tup (da_cons (de_ct call_tuple_of cd_tuple (by rfl) T.b_tuple bt_tuple (da_cons (de_cb cr_sortedA cd_sorted (by rfl) T.b_sorted bt_sorted (da_cons (de_op or_add od_add (de_var 3) (de_tup (da_cons (de_var 7) da_nil))) da_nil)) da_nil)) (da_cons (de_var 4) da_nil))) da_nil)))) sc__law_bent.nd)
    (dss_cons (ds_asg 8 (de_op or_add od_add (de_var 8) (de_lst (da_cons (de_tup (da_cons (de_var 3) (da_cons (de_op or_add od_add (de_sl (de_var 4) do_none (do_some (de_var 6))) (de_sl (de_var 4) (do_some (de_op or_add od_add (de_var 6) de_int)) do_none)) da_nil))) (da_cons (de_tup (da_cons (de_var 3) (da_cons (de_op or_add od_add (de_var 4) (de_sl (de_var 4) do_none (do_some de_int))) da_nil))) (da_cons (de_tup (da_cons (de_var 3) (da_cons (de_revT (de_var 4)) da_nil))) da_nil))))) sc__law_bent.nd)
    (dss_cons (ds_asg 8 (de_op or_add od_add (de_var 8) (de_lst (da_cons (de_tup (da_cons (de_var 3) (da_cons (de_ct call_list_of cd_list (by rfl) T.b_list bt_list (da_cons (de_var 4) da_nil)) da_nil))) (da_cons (de_tup (da_cons (de_var 4) (da_cons (de_var 3) da_nil))) (da_cons (de_lst (da_cons (de_var 3) (da_cons (de_var 4) da_nil))) (da_cons (de_tup (da_cons (de_var 3) da_nil)) (da_cons (de_tup (da_cons (de_var 3) (da_cons (de_var 4) (da_cons (de_tup da_nil) da_nil)))) da_nil))))))) sc__law_bent.nd)
    (dss_cons (ds_expr (de_app 8 (de_tup (da_cons (de_var 3) (da_cons (de_op or_add od_add (de_op or_add od_add (de_sl (de_var 4) do_none (do_some (de_var 6))) (de_tup (da_cons (de_tup (da_cons (de_var 7) da_nil)) da_nil))) (de_sl (de_var 4) (do_some (de_op or_add od_add (de_var 6) de_int)) do_none)) da_nil)))))
    (dss_cons (ds_for (passes_of rfl) rfl (di_seq (de_sl (de_var 4) (do_some (de_var 6)) (do_some (de_op or_add od_add (de_var 6) de_int)))) (dg_name 9 sc__law_bent.nd) (dss_cons (ds_asg 10 (de_cP (c__law_row T) hr (by decide) (takes_of rfl rfl rfl rfl) (by rfl) (da_cons (de_var 0) (da_cons (de_var 9) (da_cons (de_var 5) da_nil)))) sc__law_bent.nd)
    (dss_cons (ds_expr (de_app 8 (de_tup (da_cons (de_var 3) (da_cons (de_op or_add od_add (de_op or_add od_add (de_sl (de_var 4) do_none (do_some (de_var 6))) (de_tup (da_cons (de_var 10) da_nil))) (de_sl (de_var 4) (do_some (de_op or_add od_add (de_var 6) de_int)) do_none)) da_nil)))))
    (dss_one (ds_expr (de_app 8 (de_tup (da_cons (de_var 3) (da_cons (de_op or_add od_add (de_op or_add od_add (de_sl (de_var 4) do_none (do_some (de_var 6))) (de_tup (da_cons (de_op or_add od_add (de_var 9) (de_op or_mulG od_mulG (de_sl (de_var 9) (do_some (de_neg de_int)) do_none) de_int)) da_nil))) (de_sl (de_var 4) (do_some (de_op or_add od_add (de_var 6) de_int)) do_none)) da_nil)))))))))
    (dss_one (ds_ret (de_ix (de_var 8) (de_cP (c__law_draw T) hr (by decide) (takes_of rfl rfl rfl rfl) (by rfl) (da_cons (de_var 0) (da_cons (de_cb call_len_seq cd_len (by rfl) T.b_len bt_len (da_cons (de_var 8) da_nil)) da_nil))))))))))))))
theorem c_law (T : Txt w K mg base) : Callee true P w K mg base 16 "law" ["_law_script"] m_law__11 := callee_ok (gd := true) T.d_law sc_law fun _ _ _ _ _ _ _ hr hgf hcf =>
  (dss_cons (ds_for (passes_of rfl) rfl (di_seq (de_op or_add od_add (de_lst (da_cons (de_c (c__law_cell_at T) hr (by decide) (takes_of rfl rfl rfl rfl) (by rfl) (da_cons (de_var 0) (da_cons de_int da_nil))) da_nil)) (de_sl (de_var 0) (do_some de_int) (do_some de_int)))) (dg_name 1 sc_law.nd) (dss_cons (ds_asg 2 (de_c (c__law_pen_of T) hr (by decide) (takes_of rfl rfl rfl rfl) (by rfl) (da_cons (de_var 1) da_nil)) sc_law.nd)
    (dss_cons (ds_asg 3 (de_cP (c__law_net T) hr (by decide) (takes_of rfl rfl rfl rfl) (by rfl) (da_cons (de_var 2) (da_cons (de_ix (de_lst (da_cons de_int (da_cons de_int da_nil))) (de_cP (c__law_draw T) hr (by decide) (takes_of rfl rfl rfl rfl) (by rfl) (da_cons (de_var 2) (da_cons de_int da_nil)))) da_nil))) sc_law.nd)
    (dss_cons (ds_asg 4 (de_cP (c__law_shut T) hr (by decide) (takes_of rfl rfl rfl rfl) (by rfl) (da_cons (de_var 2) (da_cons (de_var 3) da_nil))) sc_law.nd)
    (dss_one (ds_for (passes_of rfl) rfl (di_seq (de_sl (de_c (c__law_places T) hr (by decide) (takes_of rfl rfl rfl rfl) (by rfl) (da_cons (de_var 3) da_nil)) do_none (do_some de_int))) (dg_name 5 sc_law.nd) (dss_cons (ds_par 6 7 rfl sc_law.nd (de_callK (c_cut_of T) hr (by decide) (takes_of rfl rfl rfl rfl) (by rfl) (da_cons (de_var 3) (da_cons (de_var 5) da_nil)) (dk_one (de_var 4))) (de_ct call_tuple_of cd_tuple (by rfl) T.b_tuple bt_tuple (da_cons (de_lc (own := [("_law_at", 15), ("_law_pipe_here", 16)]) rfl sc_law.nd (di_enum (by rfl) T.b_enumerate (da_cons (de_ix (de_var 3) de_int) da_nil)) (blkOk_by (N := ["_law_script", "_law_cell", "_law_pen", "_law_net_here", "_law_closed", "_law_place", "_law_found", "_law_gates", "_law_cut", "_law_things", "_law_lap", "_law_thing", "_law_stays", "_law_due", "_law_told", "_law_at", "_law_pipe_here"]) (sc := defScope s_law) (by decide +kernel)) (by decide) (fun _ _ _ _ _ => (dg_tupC (K := K) (by rfl) (dgs_cons (dg_name 15 sc_law.nd) (dgs_cons (dg_name 16 sc_law.nd) dgs_nil)) (gl_cons (gl_cons gl_nil)))) (fun _ _ _ _ _ => (dts_one (dt_val (de_ix (de_var 16) de_int)))) (fun _ _ _ _ _ => (de_var 15))) da_nil)))
    (dss_cons (ds_asg 8 (de_if (dt_cmp op_isN od_is (de_var 6) de_non) (de_tup (da_cons (de_tup da_nil) (da_cons (de_tup da_nil) da_nil))) (de_var 6)) sc_law.nd)
    (dss_cons (ds_asg 9 (de_lst (da_cons (de_var 6) (da_cons (de_var 8) (da_cons (de_tup (da_cons (de_var 7) (da_cons (de_ct call_tuple_of cd_tuple (by rfl) T.b_tuple bt_tuple (da_cons (de_lc (own := [("_law_at", 15)]) rfl sc_law.nd (di_seq (de_var 7)) (blkOk_by (N := ["_law_script", "_law_cell", "_law_pen", "_law_net_here", "_law_closed", "_law_place", "_law_found", "_law_gates", "_law_cut", "_law_things", "_law_lap", "_law_thing", "_law_stays", "_law_due", "_law_told", "_law_at", "_law_pipe_here"]) (sc := defScope s_law) (by decide +kernel)) (by decide) (fun _ _ _ _ _ => (dg_name 15 sc_law.nd)) (fun _ _ _ _ _ => dts_nil) (fun _ _ _ _ _ => (de_tup (da_cons (de_var 15) da_nil)))) da_nil)) da_nil))) (da_cons (de_tup (da_cons (de_sl (de_var 7) do_none (do_some de_int)) (da_cons (de_tup (da_cons (de_tup (da_cons de_int da_nil)) da_nil)) da_nil))) (da_cons (de_cP (c__law_odd T) hr (by decide) (takes_of rfl rfl rfl rfl) (by rfl) (da_cons (de_var 2) da_nil)) da_nil)))))) sc_law.nd)
    (dss_cons (ds_asg 9 (de_op or_add od_add (de_var 9) (de_lst (da_cons (de_tup (da_cons (de_revT (de_ix (de_var 8) de_int)) (da_cons (de_ix (de_var 8) de_int) da_nil))) (da_cons (de_tup (da_cons (de_ix (de_var 8) de_int) (da_cons (de_op or_mulG od_mulG (de_sl (de_ix (de_var 8) de_int) do_none (do_some de_int)) (de_cb call_len_seq cd_len (by rfl) T.b_len bt_len (da_cons (de_ix (de_var 8) de_int) da_nil))) da_nil))) (da_cons (de_tup (da_cons (de_sl (de_ix (de_var 8) de_int) (do_some de_int) do_none) (da_cons (de_sl (de_ix (de_var 8) de_int) (do_some de_int) do_none) da_nil))) da_nil))))) sc_law.nd)
    (dss_cons (ds_for (passes_of rfl) rfl (di_range1 (by rfl) T.b_range (da_cons de_int da_nil)) (dg_name 10 sc_law.nd) (dss_one (ds_expr (de_app 9 (de_cP (c__law_bent T) hr (by decide) (takes_of rfl rfl rfl rfl) (by rfl) (da_cons (de_var 2) (da_cons (de_var 3) (da_cons (de_var 8) da_nil))))))))
    (dss_one (ds_for (passes_of rfl) rfl (di_seq (de_var 9)) (dg_name 11 sc_law.nd) (dss_cons (ds_par 12 13 rfl sc_law.nd (de_cb (call_reprG (hr.gd rfl) (ru128 hr)) cd_reprG (by rfl) T.b_repr bt_repr (da_cons (de_var 11) da_nil)) (de_c (c__law_is_cut T) hr (by decide) (takes_of rfl rfl rfl rfl) (by rfl) (da_cons (de_var 3) (da_cons (de_var 5) (da_cons (de_var 4) (da_cons (de_var 11) da_nil))))))
    (dss_cons (ds_asgLc 14 (own := [("_law_lap", 10)]) rfl sc_law.nd (di_range1 (by rfl) T.b_range (da_cons de_int da_nil)) (blkOk_by (N := ["_law_script", "_law_cell", "_law_pen", "_law_net_here", "_law_closed", "_law_place", "_law_found", "_law_gates", "_law_cut", "_law_things", "_law_lap", "_law_thing", "_law_stays", "_law_due", "_law_told", "_law_at", "_law_pipe_here"]) (sc := defScope s_law) (by decide +kernel)) (by decide) (fun _ _ _ _ _ => (dg_name 10 sc_law.nd)) (fun _ _ _ _ _ => dts_nil) (fun _ _ _ _ _ => (de_callK (c_is_cut T) hr (by decide) takesF (by rfl) (da_cons (de_var 3) (da_cons (de_var 5) (da_cons (de_var 11) da_nil))) (dk_one (de_var 4)))) (sw_true rfl rfl rfl (by decide +kernel)))
    (dss_one (ds_if (dt_w (dw_or (dt_cmp (or_ne (ru64 hr)) od_ne (de_cb (call_reprG (hr.gd rfl) (ru128 hr)) cd_reprG (by rfl) T.b_repr bt_repr (da_cons (de_var 14) da_nil)) (de_cb (call_reprG (hr.gd rfl) (ru128 hr)) cd_reprG (by rfl) T.b_repr bt_repr (da_cons (de_lst (da_cons (de_var 13) (da_cons (de_var 13) da_nil))) da_nil))) (dw_or1 (dt_cmp (or_ne (ru64 hr)) od_ne (de_cb (call_reprG (hr.gd rfl) (ru128 hr)) cd_reprG (by rfl) T.b_repr bt_repr (da_cons (de_var 11) da_nil)) (de_var 12))))) (dss_one (ds_ret de_bl)) dss_nil)))))))))))))))))
    (dss_one (ds_ret de_bl)))
end
theorem exq0 {K : PySem.W.Frag} (h : ex K = true) : (noLst K) = true := by
  unfold ex at h
  simp only [Bool.and_eq_true] at h
  exact h.1
theorem exq1 {K : PySem.W.Frag} (h : ex K = true) : (glB K "BOTH" (.str (Str.ofString "both"))) = true := by
  unfold ex at h
  simp only [Bool.and_eq_true] at h
  exact h.2.1
theorem exq2 {K : PySem.W.Frag} (h : ex K = true) : (glB K "MOST_JOINTS" (.int 7)) = true := by
  unfold ex at h
  simp only [Bool.and_eq_true] at h
  exact h.2.2.1
theorem exq3 {K : PySem.W.Frag} (h : ex K = true) : (glB K "MOST_ON" (.int 4)) = true := by
  unfold ex at h
  simp only [Bool.and_eq_true] at h
  exact h.2.2.2.1
theorem exq4 {K : PySem.W.Frag} (h : ex K = true) : (glB K "MOST_PIPES" (.int 9)) = true := by
  unfold ex at h
  simp only [Bool.and_eq_true] at h
  exact h.2.2.2.2.1
theorem exq5 {K : PySem.W.Frag} (h : ex K = true) : (glB K "ON" (.str (Str.ofString "on"))) = true := by
  unfold ex at h
  simp only [Bool.and_eq_true] at h
  exact h.2.2.2.2.2.1
theorem exq6 {K : PySem.W.Frag} (h : ex K = true) : (glB K "PLACE" (.str (Str.ofString "place"))) = true := by
  unfold ex at h
  simp only [Bool.and_eq_true] at h
  exact h.2.2.2.2.2.2.1
theorem exq7 {K : PySem.W.Frag} (h : ex K = true) : (dicB K "BOUNDS" dic_BOUNDS) = true := by
  unfold ex at h
  simp only [Bool.and_eq_true] at h
  exact h.2.2.2.2.2.2.2.1
theorem exq8 {K : PySem.W.Frag} (h : ex K = true) : (tabB K ["law"]) = true := by
  unfold ex at h
  simp only [Bool.and_eq_true] at h
  exact h.2.2.2.2.2.2.2.2.1
theorem txt_of {w : World} {h base : Heap} {K : PySem.W.Frag} {mg : Str → Option Value} (X : K.In h) (G : h.Ns mainGlobals mg) (c : SaysX fa fn tabs tf ex w h K) (TB : ∀ p ∈ tf.map (cT K), LamX.TabB base mg p.1 p.2) : Txt w K mg base where
  d_is_whole := has_of X G c.t.d 0 0 rfl rfl fun _ _ _ _ _ _ us hl => match us, hl with | [_], _ => rfl
  d_is_number := has_of X G c.t.d 1 1 rfl rfl fun _ _ _ _ _ _ us hl => match us, hl with | [_, _, _], _ => rfl
  d_is_place_joint := has_of X G c.t.d 2 2 rfl rfl fun _ _ _ _ _ _ us hl => match us, hl with | [_], _ => rfl
  d_is_joint := has_of X G c.t.d 3 3 rfl rfl fun _ _ _ _ _ _ us hl => match us, hl with | [_], _ => rfl
  d_is_pipe := has_of X G c.t.d 4 4 rfl rfl fun _ _ _ _ _ _ us hl => match us, hl with | [_, _], _ => rfl
  d_is_net := has_of X G c.t.d 5 5 rfl rfl fun _ _ _ _ _ _ us hl => match us, hl with | [_], _ => rfl
  d_need_net := has_of X G c.t.d 6 6 rfl rfl fun _ _ _ _ _ _ us hl => match us, hl with | [_], _ => rfl
  d_is_place := has_of X G c.t.d 7 7 rfl rfl fun _ _ _ _ _ _ us hl => match us, hl with | [_, _], _ => rfl
  d_is_pump := has_of X G c.t.d 8 8 rfl rfl fun _ _ _ _ _ _ us hl => match us, hl with | [_, _], _ => rfl
  d_can_shut := has_of X G c.t.d 9 9 rfl rfl fun _ _ _ _ _ _ us hl => match us, hl with | [_, _], _ => rfl
  d_are_rising := has_of X G c.t.d 10 10 rfl rfl fun _ _ _ _ _ _ us hl => match us, hl with | [_], _ => rfl
  d_are_shut := has_of X G c.t.d 11 11 rfl rfl fun _ _ _ _ _ _ us hl => match us, hl with | [_, _], _ => rfl
  d_end_from := has_of X G c.t.d 12 12 rfl rfl fun _ _ _ _ _ _ us hl => match us, hl with | [_, _], _ => rfl
  d_begins := has_of X G c.t.d 13 13 rfl rfl fun _ _ _ _ _ _ us hl => match us, hl with | [_], _ => rfl
  d_fed_by := has_of X G c.t.d 14 14 rfl rfl fun _ _ _ _ _ _ us hl => match us, hl with | [_, _], _ => rfl
  d_gates_in := has_of X G c.t.d 15 15 rfl rfl fun _ _ _ _ _ _ us hl => match us, hl with | [_, _], _ => rfl
  d_lots_of := has_of X G c.t.d 16 16 rfl rfl fun _ _ _ _ _ _ us hl => match us, hl with | [_, _], _ => rfl
  d_fewest_gates := has_of X G c.t.d 17 17 rfl rfl fun _ _ _ _ _ _ us hl => match us, hl with | [_, _, _], _ => rfl
  d_ways_from := has_of X G c.t.d 18 18 rfl rfl fun _ _ _ _ _ _ us hl => match us, hl with | [_, _, _, _, _], _ => rfl
  d_ways_to := has_of X G c.t.d 19 19 rfl rfl fun _ _ _ _ _ _ us hl => match us, hl with | [_, _, _], _ => rfl
  d_gates_on := has_of X G c.t.d 20 20 rfl rfl fun _ _ _ _ _ _ us hl => match us, hl with | [_, _], _ => rfl
  d_apart_ways := has_of X G c.t.d 21 21 rfl rfl fun _ _ _ _ _ _ us hl => match us, hl with | [_, _, _], _ => rfl
  d_need_place := has_of X G c.t.d 22 22 rfl rfl fun _ _ _ _ _ _ us hl => match us, hl with | [_, _], _ => rfl
  d_need_cut := has_of X G c.t.d 23 23 rfl rfl fun _ _ _ _ _ _ us hl => match us, hl with | [_, _, _], _ => rfl
  d_cut_by := has_of X G c.t.d 24 24 rfl rfl fun _ _ _ _ _ _ us hl => match us, hl with | [_, _, _], _ => rfl
  d_cut_of := hasK_of X G c.t.d 25 25 2 rfl rfl rfl (by decide) fun _ _ _ _ _ _ us ws hl hw => match us, hl, ws, hw with | [_, _], _, [_], _ => rfl
  d_are_gates := has_of X G c.t.d 26 26 rfl rfl fun _ _ _ _ _ _ us hl => match us, hl with | [_, _, _], _ => rfl
  d_led_along := has_of X G c.t.d 27 27 rfl rfl fun _ _ _ _ _ _ us hl => match us, hl with | [_, _, _], _ => rfl
  d_is_way := has_of X G c.t.d 28 28 rfl rfl fun _ _ _ _ _ _ us hl => match us, hl with | [_, _, _, _], _ => rfl
  d_is_cut := hasK_of X G c.t.d 29 29 3 rfl rfl rfl (by decide) fun _ _ _ _ _ _ us ws hl hw => match us, hl, ws, hw with | [_, _, _], _, [_], _ => rfl
  d__law_cell_at := has_of X G c.t.d 30 30 rfl rfl fun _ _ _ _ _ _ us hl => match us, hl with | [_, _], _ => rfl
  d__law_next := has_of X G c.t.d 31 31 rfl rfl fun _ _ _ _ _ _ us hl => match us, hl with | [_], _ => rfl
  d__law_pen_of := has_of X G c.t.d 32 32 rfl rfl fun _ _ _ _ _ _ us hl => match us, hl with | [_], _ => rfl
  d__law_draw := has_of X G c.t.d 33 33 rfl rfl fun _ _ _ _ _ _ us hl => match us, hl with | [_, _], _ => rfl
  d__law_joint := has_of X G c.t.d 34 34 rfl rfl fun _ _ _ _ _ _ us hl => match us, hl with | [_], _ => rfl
  d__law_pipe := has_of X G c.t.d 35 35 rfl rfl fun _ _ _ _ _ _ us hl => match us, hl with | [_, _, _], _ => rfl
  d__law_net := has_of X G c.t.d 36 36 rfl rfl fun _ _ _ _ _ _ us hl => match us, hl with | [_, _], _ => rfl
  d__law_shut := has_of X G c.t.d 37 37 rfl rfl fun _ _ _ _ _ _ us hl => match us, hl with | [_, _], _ => rfl
  d__law_places := has_of X G c.t.d 38 38 rfl rfl fun _ _ _ _ _ _ us hl => match us, hl with | [_], _ => rfl
  d__law_to := has_of X G c.t.d 39 39 rfl rfl fun _ _ _ _ _ _ us hl => match us, hl with | [_, _], _ => rfl
  d__law_fed := has_of X G c.t.d 40 40 rfl rfl fun _ _ _ _ _ _ us hl => match us, hl with | [_, _], _ => rfl
  d__law_whole := has_of X G c.t.d 41 41 rfl rfl fun _ _ _ _ _ _ us hl => match us, hl with | [_], _ => rfl
  d__law_are_numbers := has_of X G c.t.d 42 42 rfl rfl fun _ _ _ _ _ _ us hl => match us, hl with | [_, _], _ => rfl
  d__law_leads := has_of X G c.t.d 43 43 rfl rfl fun _ _ _ _ _ _ us hl => match us, hl with | [_, _, _, _], _ => rfl
  d__law_apart := has_of X G c.t.d 44 44 rfl rfl fun _ _ _ _ _ _ us hl => match us, hl with | [_, _], _ => rfl
  d__law_is_cut := has_of X G c.t.d 45 45 rfl rfl fun _ _ _ _ _ _ us hl => match us, hl with | [_, _, _, _], _ => rfl
  d__law_odd := has_of X G c.t.d 46 46 rfl rfl fun _ _ _ _ _ _ us hl => match us, hl with | [_], _ => rfl
  d__law_row := has_of X G c.t.d 47 47 rfl rfl fun _ _ _ _ _ _ us hl => match us, hl with | [_, _, _], _ => rfl
  d__law_bent := has_of X G c.t.d 48 48 rfl rfl fun _ _ _ _ _ _ us hl => match us, hl with | [_, _, _], _ => rfl
  d_law := has_of X G c.t.d 49 49 rfl rfl fun _ _ _ _ _ _ us hl => match us, hl with | [_], _ => rfl
  b_all := free_ok X G (c.t.d.fact 57 (f := .free "all") rfl)
  b_any := free_ok X G (c.t.d.fact 58 (f := .free "any") rfl)
  b_bool := free_ok X G (c.t.d.fact 59 (f := .free "bool") rfl)
  b_enumerate := free_ok X G (c.t.d.fact 60 (f := .free "enumerate") rfl)
  b_int := free_ok X G (c.t.d.fact 61 (f := .free "int") rfl)
  b_isinstance := free_ok X G (c.t.d.fact 62 (f := .free "isinstance") rfl)
  b_len := free_ok X G (c.t.d.fact 63 (f := .free "len") rfl)
  b_list := free_ok X G (c.t.d.fact 64 (f := .free "list") rfl)
  b_max := free_ok X G (c.t.d.fact 65 (f := .free "max") rfl)
  b_range := free_ok X G (c.t.d.fact 66 (f := .free "range") rfl)
  b_repr := free_ok X G (c.t.d.fact 67 (f := .free "repr") rfl)
  b_set := free_ok X G (c.t.d.fact 68 (f := .free "set") rfl)
  b_sorted := free_ok X G (c.t.d.fact 69 (f := .free "sorted") rfl)
  b_str := free_ok X G (c.t.d.fact 70 (f := .free "str") rfl)
  b_tuple := free_ok X G (c.t.d.fact 71 (f := .free "tuple") rfl)
  b_zip := free_ok X G (c.t.d.fact 72 (f := .free "zip") rfl)
  x_NoNet := clsX_ok X G (c.t.d.fact 50 (f := .glo "NoNet") rfl) (c.t.d.fact 53 (f := .exc "NoNet") rfl)
  x_NoPlace := clsX_ok X G (c.t.d.fact 51 (f := .glo "NoPlace") rfl) (c.t.d.fact 54 (f := .exc "NoPlace") rfl)
  x_NoShut := clsX_ok X G (c.t.d.fact 52 (f := .glo "NoShut") rfl) (c.t.d.fact 55 (f := .exc "NoShut") rfl)
  g_BOTH := glB_ok X G (exq1 c.more)
  g_MOST_JOINTS := glB_ok X G (exq2 c.more)
  g_MOST_ON := glB_ok X G (exq3 c.more)
  g_MOST_PIPES := glB_ok X G (exq4 c.more)
  g_ON := glB_ok X G (exq5 c.more)
  g_PLACE := glB_ok X G (exq6 c.more)
  k_BOUNDS := dicB_ok X G (c.t.d.fact 56 (f := .glo "BOUNDS") rfl) (c.t.tab 0) (exq7 c.more)
end K32
set_option Elab.async false
set_option linter.all false
set_option maxRecDepth 100000
set_option maxHeartbeats 4000000
namespace WH
open PySem PySem.Spec PyProof.Rows L2 DL He
structure Pen where
  a : Int
  b : Bool
  c : Int
def b2 (b : Bool) : Int := if b then 1 else 0
def penO (p : Pen) : Own := .lst [.int p.a, .int (b2 p.b), .int p.c]
def nx (i : Int) : Int := ((i + 7919).fmod 2147483647 * (i + 7919).fmod 2147483647 + 48271 * (i + 7919).fmod 2147483647 + 12345).fmod 2147483629
theorem next_eq (i : Int) : m__law_next [.val (.int i)] = M.ok (.val (.int (nx i)), [some (.val (.int i))]) := by
  have h0 : 0 ≤ (i + 7919).fmod 2147483647 := Int.fmod_nonneg_of_pos _ (by decide)
  have h1 : (i + 7919).fmod 2147483647 < 2147483647 := Int.fmod_lt_of_pos _ (by decide)
  have h2 := log_small h0 (by omega)
  have h3 : Nat.log2 48271 = 15 := by decide
  have h4 : ((i + 7919).fmod 2147483647).natAbs.log2 + ((i + 7919).fmod 2147483647).natAbs.log2 < 1000000 := by omega
  have h5 : 15 + ((i + 7919).fmod 2147483647).natAbs.log2 < 1000000 := by omega
  simp [m__law_next, f__law_next, h3, h4, h5, nx]
def drawR (p : Pen) (n : Int) : Int := if p.b = true ∧ 0 < p.a then p.a.fmod n else ((nx (nx p.c + 7)).fdiv 64).fmod n
def drawP (p : Pen) (n : Int) : Pen := if p.b = true ∧ 0 < p.a then ⟨p.a.fdiv n, p.b, p.c⟩ else ⟨p.a, p.b, nx (nx p.c + 7)⟩
theorem draw_eq (p : Pen) (n : Int) (h1 : 0 < n) (h2 : n < 18446744073709551616) : m__law_draw [.pen (penO p), .val (.int n)] = M.ok (.val (.int (drawR p n)), [some (.pen (penO (drawP p n))), some (.val (.int n))]) := by
  have h3 := log_small (by omega) h2
  have h4 : n.natAbs.log2 < 9000 := by omega
  have h5 : ¬ n = 0 := by omega
  have h6 : Nat.log2 64 = 6 := by decide
  obtain ⟨a, b, c⟩ := p
  cases b with
  | false => simp [m__law_draw, f__law_draw, penO, b2, drawR, drawP, next_eq, h3, h4, h5, h6, atI, ixN]
  | true =>
    by_cases ha : 0 < a
    · simp [m__law_draw, f__law_draw, penO, b2, drawR, drawP, next_eq, h3, h4, h5, h6, atI, ixN, ha]
    · simp [m__law_draw, f__law_draw, penO, b2, drawR, drawP, next_eq, h3, h4, h5, h6, atI, ixN, ha]
theorem drawR_lo (p : Pen) {n : Int} (h : 0 < n) : 0 ≤ drawR p n := by
  unfold drawR
  split <;> exact Int.fmod_nonneg_of_pos _ h
theorem drawR_hi (p : Pen) {n : Int} (h : 0 < n) : drawR p n < n := by
  unfold drawR
  split <;> exact Int.fmod_lt_of_pos _ h
/-- what is drawn for a joint -/
inductive JointP : PyData → Prop
  | source (h : Int) (h0 : 0 ≤ h) (h1 : h ≤ 200) : JointP (.tuple [.str "source", .int h])
  | tank (h a t : Int) (h0 : 0 ≤ h) (h1 : h ≤ 150) (h2 : 1 ≤ a) (h3 : a ≤ 50) (h4 : 1 ≤ t) (h5 : t ≤ 50) : JointP (.tuple [.str "tank", .int h, .int a, .int t])
  | place (h a t : Int) (h0 : 0 ≤ h) (h1 : h ≤ 100) (h2 : 0 ≤ a) (h3 : a ≤ t) (h4 : t ≤ 200) : JointP (.tuple [.str "place", .int h, .int a, .int t])
/-- what is drawn for a pipe of n joints -/
structure PipeP (n : Nat) (d : PyData) : Prop where
  ex : ∃ (a b f l v : Int) (on g : Bool), d = .tuple [.int a, .int b, .int f, .str (if on then "on" else "both"), .int l, .bool g, .int v] ∧ 0 ≤ a ∧ a < n ∧ 0 ≤ b ∧ b < n ∧ a ≠ b ∧ 1 ≤ f ∧ f ≤ 20 ∧ 0 ≤ l ∧ l ≤ 50 ∧ (on = false → l = 0) ∧ 0 ≤ v ∧ v ≤ 20
def isOn (d : PyData) : Bool := match d with
  | .tuple [_, _, _, .str w, _, _, _] => w == "on"
  | _ => false
structure NetP (js ps : List PyData) : Prop where
  j : ∀ d ∈ js, JointP d
  j0 : 2 ≤ js.length
  j1 : js.length ≤ 7
  p : ∀ d ∈ ps, PipeP js.length d
  p0 : 1 ≤ ps.length
  p1 : ps.length ≤ 9
  on : ps.countP isOn ≤ 4
theorem rngL_mem {n : Nat} {lo : Int} {d : PyData} (h : d ∈ rngL lo n) : ∃ i, d = .int i := by
  induction n generalizing lo with
  | zero => cases h
  | succ n ih =>
    rcases List.mem_cons.mp h with rfl | h
    · exact ⟨_, rfl⟩
    · exact ih h
theorem fmod_small {a n : Int} (h0 : 0 ≤ a) (h1 : a < n) : a.fmod n = a := by
  rw [Int.fmod_eq_emod_of_nonneg _ (by omega)]
  exact Int.emod_eq_of_lt h0 h1
theorem fmod_step {a s n : Int} (h0 : 0 ≤ a) (h1 : a < n) (h2 : 1 ≤ s) (h3 : s < n) : 0 ≤ (a + s).fmod n ∧ (a + s).fmod n < n ∧ (a + s).fmod n ≠ a := by
  by_cases h : a + s < n
  · rw [fmod_small (by omega) h]; omega
  · have e : (a + s).fmod n = a + s - n := by
      rw [Int.fmod_eq_emod_of_nonneg _ (by omega), show a + s = (a + s - n) + n from by omega, Int.add_emod_right, Int.emod_eq_of_lt (by omega) (by omega)]
      omega
    rw [e]; omega
theorem two (p : Pen) : drawR p 2 = 0 ∨ drawR p 2 = 1 := by
  have := drawR_lo p (n := 2) (by decide)
  have := drawR_hi p (n := 2) (by decide)
  omega
def isI (d : PyData) : Bool := match d with
  | .int _ => true
  | _ => false
theorem is_whole_eq (d : PyData) : m_is_whole [.val d] = M.ok (.val (.bool (isI d)), [some (.val d)]) := by
  cases d <;> simp [m_is_whole, f_is_whole, isiB, isI]
def numB (d : PyData) (lo hi : Int) : Bool := match d with
  | .int i => decide (lo ≤ i) && decide (i ≤ hi)
  | _ => false
theorem is_number_eq (d : PyData) (lo hi : Int) : m_is_number [.val d, .val (.int lo), .val (.int hi)] = M.ok (.val (.bool (numB d lo hi)), [some (.val d), some (.val (.int lo)), some (.val (.int hi))]) := by
  cases d with
  | int i =>
    by_cases h1 : lo ≤ i <;> by_cases h2 : i ≤ hi <;> simp [m_is_number, f_is_number, is_whole_eq, isI, numB, h1, h2]
  | _ => simp [m_is_number, f_is_number, is_whole_eq, isI, numB]
theorem is_place_eq (h a t : Int) (w : Str) : m_is_place_joint [.val (.tuple [.str w, .int h, .int a, .int t])] = M.ok (.val (.bool (numB (.int h) 0 100 && (numB (.int t) 0 200 && numB (.int a) 0 t))), [some (.val (.tuple [.str w, .int h, .int a, .int t]))]) := by
  by_cases h1 : numB (.int h) 0 100 = true <;> by_cases h2 : numB (.int t) 0 200 = true <;> simp [m_is_place_joint, f_is_place_joint, is_number_eq, h1, h2]
theorem strOk_source : PyData.canLay0 (.str (Str.ofString "source")) = true := by decide +kernel
theorem strOk_tank : PyData.canLay0 (.str (Str.ofString "tank")) = true := by decide +kernel
theorem strOk_place : PyData.canLay0 (.str (Str.ofString "place")) = true := by decide +kernel
theorem eqT {a b : PyData} (ha : SeqAt.shaped a = true) (hb : SeqAt.shaped b = true) : eqD a b = some (.val (.bool (PyData.eqv a b))) := by
  unfold eqD
  rw [if_pos (.inl ⟨ha, hb⟩)] <;> rfl
theorem neT {a b : PyData} (ha : SeqAt.shaped a = true) (hb : SeqAt.shaped b = true) : neD a b = some (.val (.bool (!PyData.eqv a b))) := by
  unfold neD
  rw [if_pos (.inl ⟨ha, hb⟩)] <;> rfl
theorem joint_sh {d : PyData} (h : JointP d) : SeqAt.shaped d = true := by
  cases h <;> simp [SeqAt.shaped, PyData.canLay0, PyData.canLayAll0, PyData.depth, PyData.depthAll] <;> decide +kernel
theorem nil_sh : SeqAt.shaped (.tuple []) = true := by decide
theorem joint_is (d : PyData) (h : JointP d) : m_is_joint [.val d] = M.ok (.val (.bool true), [some (.val d)]) := by
  have sh := joint_sh h
  have n1 : (Str.ofString "source" == Str.ofString "place") = false := by decide
  have n2 : (Str.ofString "tank" == Str.ofString "place") = false := by decide
  have k1 : lookS (Str.ofString "source") dic_BOUNDS = some (.tuple [.tuple [.int 0, .int 200]]) := by simp [lookS, dic_BOUNDS]
  have k2 : lookS (Str.ofString "tank") dic_BOUNDS = some (.tuple [.tuple [.int 0, .int 150], .tuple [.int 1, .int 50], .tuple [.int 1, .int 50]]) := by
    have z : ¬ Str.ofString "source" = Str.ofString "tank" := by decide
    simp [lookS, dic_BOUNDS, z]
  cases h with
  | source h h0 h1 =>
    simp [m_is_joint, f_is_joint, isiB, atI, ixN, eqT sh nil_sh, PyData.eqv, PyData.eqvAll, n1, eKGet, kgetD, k1, DL.isNon, DL.cutD, HT.sIx, pairL, lcL_step, is_number_eq, numB, boolsOf, asBool, *]
  | tank h a t h0 h1 h2 h3 h4 h5 =>
    simp [m_is_joint, f_is_joint, isiB, atI, ixN, eqT sh nil_sh, PyData.eqv, PyData.eqvAll, n2, eKGet, kgetD, k2, DL.isNon, DL.cutD, HT.sIx, pairL, lcL_step, is_number_eq, numB, boolsOf, asBool, *]
  | place h a t h0 h1 h2 h3 h4 =>
    simp [m_is_joint, f_is_joint, isiB, atI, ixN, eqT sh nil_sh, PyData.eqv, PyData.eqvAll, is_place_eq, numB]
    omega
theorem on_sh : SeqAt.shaped (.str (Str.ofString "on")) = true := by decide +kernel
theorem both_sh : SeqAt.shaped (.str (Str.ofString "both")) = true := by decide +kernel
theorem both_on_sh : SeqAt.shaped (.list [.str (Str.ofString "both"), .str (Str.ofString "on")]) = true := by decide +kernel
theorem nin_on : ninD (.str (Str.ofString "on")) (.tuple [.str (Str.ofString "both"), .str (Str.ofString "on")]) = some (.val (.bool false)) := by
  unfold ninD
  simp only [s_so2]
  rw [if_pos ⟨on_sh, both_on_sh⟩]
  simp [PyData.eqv]
theorem nin_both : ninD (.str (Str.ofString "both")) (.tuple [.str (Str.ofString "both"), .str (Str.ofString "on")]) = some (.val (.bool false)) := by
  unfold ninD
  simp only [s_so2]
  rw [if_pos ⟨both_sh, both_on_sh⟩]
  simp [PyData.eqv]
theorem pipe_is (n : Nat) (d : PyData) (h : PipeP n d) : m_is_pipe [.val (.int n), .val d] = M.ok (.val (.bool true), [some (.val (.int n)), some (.val d)]) := by
  obtain ⟨a, b, f, l, v, on, g, rfl, ha, hb, ha', hb', hne, hf, hf', hl, hl', hon, hv, hv'⟩ := h.ex
  have n1 : (Str.ofString "both" == Str.ofString "on") = false := by decide
  have n2 : ¬ Str.ofString "both" = Str.ofString "on" := by decide
  have q1 : a ≤ (n : Int) - 1 := by omega
  have q2 : b ≤ (n : Int) - 1 := by omega
  cases on with
  | true => simp [m_is_pipe, f_is_pipe, isiB, is_number_eq, numB, ha, ha', q1, q2, beqF hne, hf, hf', hl, hl', hv, hv', nin_on]
  | false =>
    have := hon rfl
    subst this
    simp [m_is_pipe, f_is_pipe, isiB, is_number_eq, numB, ha, ha', q1, q2, beqF hne, hf, hf', hv, hv', nin_both, n1, n2]
def netD (js ps : List PyData) : PyData := .tuple [.tuple js, .tuple ps]
theorem net_is (js ps : List PyData) (h : NetP js ps) : m_is_net [.val (netD js ps)] = M.ok (.val (.bool true), [some (.val (netD js ps))]) := by
  obtain ⟨hj, j0, j1, hp, p0, p1, hon⟩ := h
  have i0 : (2 : Int) ≤ js.length := by omega
  have i1 : (js.length : Int) ≤ 7 := by omega
  have i2 : (1 : Int) ≤ ps.length := by omega
  have i3 : (ps.length : Int) ≤ 9 := by omega
  have x1 : lcL (gtName 4) yesF (callV m_is_joint [] (aCons (eVar 4) aNil)) [4] js [] [some (.val (netD js ps)), some (.val (.tuple js)), some (.val (.tuple ps)), none, none, none] = some (.ok (js.map fun _ => .bool true, [some (.val (netD js ps)), some (.val (.tuple js)), some (.val (.tuple ps)), none, none, none])) :=
    lcL_map (fun d hd => by simp [joint_is d (hj d hd)]) (by simp; omega)
  have x2 : lcL (gtName 5) yesF (callV m_is_pipe [] (aCons (eCB lenD (aCons (eVar 1) aNil)) (aCons (eVar 5) aNil))) [5] ps [] [some (.val (netD js ps)), some (.val (.tuple js)), some (.val (.tuple ps)), none, none, none] = some (.ok (ps.map fun _ => .bool true, [some (.val (netD js ps)), some (.val (.tuple js)), some (.val (.tuple ps)), none, none, none])) :=
    lcL_map (fun d hd => by simp [pipe_is js.length d (hp d hd)]) (by simp; omega)
  have n1 : (Str.ofString "both" == Str.ofString "on") = false := by decide
  have x3 : lcL (gtName 5) (eT (e2 eqD (e2 ixD (eVar 5) (eC (.int 3))) (eC (.str (Str.ofString "on"))))) (eVar 5) [5] ps [] [some (.val (netD js ps)), some (.val (.tuple js)), some (.val (.tuple ps)), none, none, none] = some (.ok (ps.filter isOn, [some (.val (netD js ps)), some (.val (.tuple js)), some (.val (.tuple ps)), none, none, none])) :=
    lcL_filt (fun d hd => by
      obtain ⟨a, b, f, l, v, on, g, rfl, _⟩ := (hp d hd).ex
      cases on <;> simp [atI, ixN, isOn, n1]) (by simp; omega)
  have hl : ((ps.filter isOn).length : Int) ≤ 4 := by rw [← List.countP_eq_length_filter]; omega
  have b1 : ∀ l : List PyData, boolsOf (l.map fun _ => PyData.bool true) = some (l.map fun _ => true) := fun l => boolsOf_map
  unfold netD at *
  simp [m_is_net, f_is_net, isiB, lcL_step, boolsOf, asBool, x1, x2, x3, i0, i1, i2, i3, hl, b1]
theorem pairL_mem {d : PyData} : ∀ {as bs : List PyData}, d ∈ pairL as bs → ∃ (i : Nat) (a b : PyData), as[i]? = some a ∧ bs[i]? = some b ∧ d = .tuple [a, b]
  | [], _, h => by unfold pairL at h; cases h
  | a :: as, [], h => by unfold pairL at h; cases h
  | a :: as, b :: bs, h => by
    unfold pairL at h
    rcases List.mem_cons.mp h with rfl | h
    · exact ⟨0, a, b, rfl, rfl, rfl⟩
    · obtain ⟨i, x, y, e1, e2, e3⟩ := pairL_mem h
      exact ⟨i + 1, x, y, by simpa using e1, by simpa using e2, e3⟩
theorem pairL_len : ∀ (as bs : List PyData), (pairL as bs).length ≤ as.length
  | [], _ => by unfold pairL; simp
  | a :: as, [] => by unfold pairL; simp
  | a :: as, b :: bs => by unfold pairL; simp [pairL_len as bs]
theorem JointP.tup {d : PyData} (h : JointP d) : ∃ w r, d = .tuple (.str w :: r) := by
  cases h <;> exact ⟨_, _, rfl⟩
theorem rngL_eq : ∀ (n : Nat) (lo : Int), rngL lo n = (List.range n).map fun i => PyData.int (lo + (i : Nat))
  | 0, lo => rfl
  | n + 1, lo => by
    unfold rngL
    rw [List.range_succ_eq_map, rngL_eq n (lo + 1)]
    simp [List.map_map, Function.comp_def, Int.add_assoc, Int.add_comm, Int.add_left_comm]
def canS (d : PyData) : Bool := match d with
  | .tuple [_, _, _, _, .int l, .bool g, _] => g || decide (0 < l)
  | _ => false
structure ShutP (ps ss : List PyData) : Prop where
  ex : ∃ ks : List Nat, ss = ks.map (fun k => PyData.int (k : Nat)) ∧ ks.Pairwise (· < ·) ∧ ks.length ≤ ps.length ∧ ∀ k ∈ ks, k < ps.length ∧ canS (ps.getD k .none) = true
theorem can_is (js ps : List PyData) (n : Nat) (hp : ∀ d ∈ ps, PipeP n d) (k : Nat) (hk : k < ps.length) (hc : canS (ps.getD k .none) = true) :
    m_can_shut [.val (netD js ps), .val (.int k)] = M.ok (.val (.bool true), [some (.val (netD js ps)), some (.val (.int k))]) := by
  have ga : atI ps (k : Int) = some ps[k] := by rw [atI_nat hk, List.getElem?_eq_getElem hk]
  have gd : ps.getD k .none = ps[k] := by rw [List.getD_eq_getElem?_getD, List.getElem?_eq_getElem hk]; rfl
  rw [gd] at hc
  obtain ⟨a, b, f, l, v, on, g, e, _⟩ := (hp ps[k] (List.getElem_mem hk)).ex
  rw [e] at ga hc
  have hk' : (k : Int) ≤ (ps.length : Int) - 1 := by omega
  cases g with
  | true => simp [m_can_shut, f_can_shut, netD, is_number_eq, numB, hk', ga]
  | false =>
    have hl : 0 < l := by simpa [canS] using hc
    simp [m_can_shut, f_can_shut, m_is_pump, f_is_pump, netD, is_number_eq, numB, hk', ga, hl]
theorem rising_is (ks : List Nat) (h : ks.Pairwise (· < ·)) (hl : ks.length ≤ 1000) : m_are_rising [.val (.tuple (ks.map fun k => PyData.int (k : Nat)))] = M.ok (.val (.bool true), [some (.val (.tuple (ks.map fun k => PyData.int (k : Nat))))]) := by
  have c1 : DL.cutD (ks.map fun k => PyData.int (k : Nat)) none (some (-1)) = (ks.map fun k => PyData.int (k : Nat)).take (ks.length - 1) := by
    unfold DL.cutD
    have : HT.sIx (ks.map fun k => PyData.int (k : Nat)).length (ks.map fun k => PyData.int (k : Nat)).length (some (-1)) = ks.length - 1 := by
      unfold HT.sIx
      simp
      omega
    rw [this]
    simp [HT.sIx]
  have c2 : DL.cutD (ks.map fun k => PyData.int (k : Nat)) (some 1) none = (ks.map fun k => PyData.int (k : Nat)).drop 1 := by
    unfold DL.cutD
    have : HT.sIx (ks.map fun k => PyData.int (k : Nat)).length 0 (some 1) = min 1 ks.length := by
      unfold HT.sIx
      simp
    rw [this]
    simp only [HT.sIx]
    rw [List.take_of_length_le (by simp)]
    cases ks <;> simp
  have x1 : lcL (gtTup (gtCons (gtName 1) (gtCons (gtName 2) gtNil))) yesF (e2 ltD (eVar 1) (eVar 2)) [1, 2] (pairL ((ks.map fun k => PyData.int (k : Nat)).take (ks.length - 1)) ((ks.map fun k => PyData.int (k : Nat)).drop 1)) [] [some (.val (.tuple (ks.map fun k => PyData.int (k : Nat)))), none, none] =
      some (.ok ((pairL ((ks.map fun k => PyData.int (k : Nat)).take (ks.length - 1)) ((ks.map fun k => PyData.int (k : Nat)).drop 1)).map fun _ => .bool true, [some (.val (.tuple (ks.map fun k => PyData.int (k : Nat)))), none, none])) :=
    lcL_map (fun d hd => by
      obtain ⟨i, a, b, e1, e2, rfl⟩ := pairL_mem hd
      rw [List.getElem?_drop, List.getElem?_map] at e2
      rw [List.getElem?_take] at e1
      have e1 : (ks.map fun k => PyData.int (k : Nat))[i]? = some a := by
        split at e1
        · exact e1
        · cases e1
      rw [List.getElem?_map] at e1
      cases q1 : ks[i]? with
      | none => rw [q1] at e1; cases e1
      | some x =>
        cases q2 : ks[1 + i]? with
        | none => rw [q2] at e2; cases e2
        | some y =>
          rw [q1] at e1; rw [q2] at e2
          cases e1; cases e2
          obtain ⟨h1, h2⟩ := List.getElem?_eq_some_iff.mp q1
          obtain ⟨h3, h4⟩ := List.getElem?_eq_some_iff.mp q2
          have := List.pairwise_iff_getElem.mp h i (1 + i) h1 h3 (by omega)
          rw [h2, h4] at this
          simp [this]) (by have := pairL_len ((ks.map fun k => PyData.int (k : Nat)).take (ks.length - 1)) ((ks.map fun k => PyData.int (k : Nat)).drop 1); simp at this ⊢; omega)
  have b1 : ∀ l : List PyData, boolsOf (l.map fun _ => PyData.bool true) = some (l.map fun _ => true) := fun l => boolsOf_map
  simp [m_are_rising, f_are_rising, c1, c2, x1, b1, -List.drop_one]
theorem shut_is (js ps ss : List PyData) (n : Nat) (hp : ∀ d ∈ ps, PipeP n d) (hl : ps.length ≤ 9) (h : ShutP ps ss) :
    m_are_shut [.val (netD js ps), .val (.tuple ss)] = M.ok (.val (.bool true), [some (.val (netD js ps)), some (.val (.tuple ss))]) := by
  obtain ⟨ks, rfl, hpw, hlen', hks⟩ := h.ex
  have hlen : ks.length ≤ 9 := by omega
  have x1 : lcL (gtName 2) yesF (callV m_can_shut [] (aCons (eVar 0) (aCons (eVar 2) aNil))) [2] (ks.map fun k => PyData.int (k : Nat)) [] [some (.val (netD js ps)), some (.val (.tuple (ks.map fun k => PyData.int (k : Nat)))), none] =
      some (.ok ((ks.map fun k => PyData.int (k : Nat)).map fun _ => .bool true, [some (.val (netD js ps)), some (.val (.tuple (ks.map fun k => PyData.int (k : Nat)))), none])) :=
    lcL_map (fun d hd => by
      obtain ⟨k, hk, rfl⟩ := List.mem_map.mp hd
      simp [can_is js ps n hp k (hks k hk).1 (hks k hk).2]) (by simp; omega)
  have b1 : ∀ l : List PyData, boolsOf (l.map fun _ => PyData.bool true) = some (l.map fun _ => true) := fun l => boolsOf_map
  have rs := rising_is ks hpw (by omega)
  unfold netD at *
  simp [m_are_shut, f_are_shut, isiB, x1, rs, b1, -List.map_map]
end WH
set_option Elab.async false
set_option linter.all false
set_option maxRecDepth 100000
set_option maxHeartbeats 4000000
namespace WH
open PySem PySem.Spec PyProof.Rows L2 DL He
/-! ### nets, typed -/
structure Pipe where
  a : Nat
  b : Nat
  fac : Nat
  on : Bool
  lift : Nat
  gate : Bool
  vol : Nat
inductive Joint where
  | place (h lo hi : Nat)
  | source (h : Nat)
  | tank (h ar top : Nat)
structure Net where
  js : List Joint
  ps : List Pipe
def Pipe.D (p : Pipe) : PyData := .tuple [.int p.a, .int p.b, .int p.fac, .str (if p.on then "on" else "both"), .int p.lift, .bool p.gate, .int p.vol]
def Joint.D : Joint → PyData
  | .place h lo hi => .tuple [.str "place", .int h, .int lo, .int hi]
  | .source h => .tuple [.str "source", .int h]
  | .tank h ar top => .tuple [.str "tank", .int h, .int ar, .int top]
def Joint.isPlace : Joint → Bool
  | .place _ _ _ => true
  | _ => false
def Net.D (n : Net) : PyData := netD (n.js.map Joint.D) (n.ps.map Pipe.D)
structure Pipe.Ok (k : Nat) (p : Pipe) : Prop where
  a : p.a < k
  b : p.b < k
  ne : p.a ≠ p.b
  f1 : 1 ≤ p.fac
  f2 : p.fac ≤ 20
  l : p.lift ≤ 50
  l0 : p.on = false → p.lift = 0
  v : p.vol ≤ 20
inductive Joint.Ok : Joint → Prop
  | place {h lo hi : Nat} : h ≤ 100 → lo ≤ hi → hi ≤ 200 → Joint.Ok (.place h lo hi)
  | source {h : Nat} : h ≤ 200 → Joint.Ok (.source h)
  | tank {h ar top : Nat} : h ≤ 150 → 1 ≤ ar → ar ≤ 50 → 1 ≤ top → top ≤ 50 → Joint.Ok (.tank h ar top)
structure Net.Ok (n : Net) : Prop where
  j : ∀ d ∈ n.js, d.Ok
  j0 : 2 ≤ n.js.length
  j1 : n.js.length ≤ 7
  p : ∀ d ∈ n.ps, d.Ok n.js.length
  p0 : 1 ≤ n.ps.length
  p1 : n.ps.length ≤ 9
  on : n.ps.countP (·.on) ≤ 4
theorem Joint.Ok.P {j : Joint} (h : j.Ok) : JointP j.D := by
  cases h with
  | place h1 h2 h3 => exact .place _ _ _ (by omega) (by omega) (by omega) (by omega) (by omega)
  | source h1 => exact .source _ (by omega) (by omega)
  | tank h1 h2 h3 h4 h5 => exact .tank _ _ _ (by omega) (by omega) (by omega) (by omega) (by omega) (by omega)
theorem Pipe.Ok.P {k : Nat} {p : Pipe} (h : p.Ok k) : PipeP k p.D := by
  obtain ⟨h1, h2, h3, h4, h5, h6, h7, h8⟩ := h
  exact ⟨p.a, p.b, p.fac, p.lift, p.vol, p.on, p.gate, rfl, by omega, by omega, by omega, by omega, by omega, by omega, by omega, by omega, by omega, fun e => by have := h7 e; omega, by omega, by omega⟩
theorem isOn_D (p : Pipe) : isOn p.D = p.on := by
  have n1 : (Str.ofString "both" == Str.ofString "on") = false := by decide
  unfold Pipe.D isOn
  cases p.on <;> simp [n1]
theorem Net.Ok.P {n : Net} (h : n.Ok) : NetP (n.js.map Joint.D) (n.ps.map Pipe.D) := by
  obtain ⟨h1, h2, h3, h4, h5, h6, h7⟩ := h
  refine ⟨fun d hd => ?_, by simpa using h2, by simpa using h3, fun d hd => ?_, by simpa using h5, by simpa using h6, ?_⟩
  · obtain ⟨j, hj, rfl⟩ := List.mem_map.mp hd
    exact (h1 j hj).P
  · obtain ⟨p, hp, rfl⟩ := List.mem_map.mp hd
    have := (h4 p hp).P
    simpa using this
  · rw [List.countP_map]
    have : (isOn ∘ Pipe.D) = fun p => p.on := funext fun p => isOn_D p
    rw [this]
    exact h7
def iD (k : Nat) : PyData := .int (k : Int)
def nD (ks : List Nat) : List PyData := ks.map iD
def oD : Option Nat → PyData
  | none => .none
  | some k => iD k
@[simp] theorem nD_len (ks : List Nat) : (nD ks).length = ks.length := by simp [nD]
@[simp] theorem nD_nil : nD [] = [] := rfl
theorem nD_one (k : Nat) : nD [k] = [.int (k : Int)] := rfl
theorem nD_cons (k : Nat) (ks : List Nat) : nD (k :: ks) = iD k :: nD ks := rfl
theorem nD_app (ks ls : List Nat) : nD (ks ++ ls) = nD ks ++ nD ls := by simp [nD]
theorem isNon_oD (o : Option Nat) : isNon (oD o) = o.isNone := by cases o <;> rfl
def Net.place (n : Net) (j : Nat) : Bool := match n.js[j]? with
  | some x => x.isPlace
  | none => false
theorem pick_j (n : Net) {j : Nat} (h : j < n.js.length) : atI (n.js.map Joint.D) (j : Int) = some (n.js[j]).D := by
  rw [atI_nat (by simpa using h), List.getElem?_map, List.getElem?_eq_getElem h]; rfl
theorem pick_p (n : Net) {k : Nat} (h : k < n.ps.length) : atI (n.ps.map Pipe.D) (k : Int) = some (n.ps[k]).D := by
  rw [atI_nat (by simpa using h), List.getElem?_map, List.getElem?_eq_getElem h]; rfl
theorem n_sp : (Str.ofString "source" == Str.ofString "place") = false := by decide
theorem n_tp : (Str.ofString "tank" == Str.ofString "place") = false := by decide
theorem n_bo : (Str.ofString "both" == Str.ofString "on") = false := by decide
theorem n_ob : (Str.ofString "on" == Str.ofString "both") = false := by decide
theorem place_eq (n : Net) (j : Nat) : m_is_place [.val n.D, .val (.int (j : Int))] = M.ok (.val (.bool (n.place j)), [some (.val n.D), some (.val (.int (j : Int)))]) := by
  by_cases h : j < n.js.length
  · have e := pick_j n h
    have h2 : (j : Int) ≤ (n.js.length : Int) - 1 := by omega
    have e2 : n.place j = n.js[j].isPlace := by
      unfold Net.place
      rw [List.getElem?_eq_getElem h]
    rw [e2]
    cases q : n.js[j] with
    | place a b c => rw [q] at e; simp [m_is_place, f_is_place, Net.D, netD, is_number_eq, numB, h2, e, Joint.D, Joint.isPlace]
    | source a => rw [q] at e; simp [m_is_place, f_is_place, Net.D, netD, is_number_eq, numB, h2, e, Joint.D, Joint.isPlace, n_sp]
    | tank a b c => rw [q] at e; simp [m_is_place, f_is_place, Net.D, netD, is_number_eq, numB, h2, e, Joint.D, Joint.isPlace, n_tp]
  · have h2 : ¬ (j : Int) ≤ (n.js.length : Int) - 1 := by omega
    have e2 : n.place j = false := by
      unfold Net.place
      rw [List.getElem?_eq_none (by omega)]
    simp [m_is_place, f_is_place, Net.D, netD, is_number_eq, numB, h2, e2]
def endFrom (p : Pipe) (j : Nat) : Option Nat := if p.a = j then some p.b else if p.b = j ∧ p.on = false then some p.a else none
theorem end_eq (p : Pipe) (j : Nat) : m_end_from [.val p.D, .val (.int (j : Int))] = M.ok (.val (oD (endFrom p j)), [some (.val p.D), some (.val (.int (j : Int)))]) := by
  unfold endFrom
  by_cases h1 : p.a = j
  · simp [m_end_from, f_end_from, Pipe.D, h1, oD, iD]
  · have h1' : ¬ (p.a : Int) = j := by omega
    by_cases h2 : p.b = j
    · cases h3 : p.on <;> simp [m_end_from, f_end_from, Pipe.D, h1, beqF h1', h2, h3, oD, iD, n_ob]
    · have h2' : ¬ (p.b : Int) = j := by omega
      simp [m_end_from, f_end_from, Pipe.D, h1, beqF h1', h2, beqF h2', oD, iD]
def begins (n : Net) : List Nat := (List.range n.js.length).filter fun j => !n.place j
theorem begins_eq (n : Net) (h : n.Ok) : m_begins [.val n.D] = M.ok (.own (.lst (nD (begins n))), [some (.val n.D)]) := by
  have x1 : lcL (gtName 1) (tNotF (eT (callV m_is_place [] (aCons (eVar 0) (aCons (eVar 1) aNil))))) (eVar 1) [1] (nD (List.range n.js.length)) [] [some (.val n.D), none] =
      some (.ok (nD (begins n), [some (.val n.D), none])) := by
    have key := lcL_pure (gt := gtName 1) (ft := tNotF (eT (callV m_is_place [] (aCons (eVar 0) (aCons (eVar 1) aNil))))) (fe := eVar 1) (vs := [1]) (env := [some (.val n.D), none]) (h := fun d => match d with
      | .int i => if n.place i.toNat then none else some (.int i)
      | _ => none) (ds := nD (List.range n.js.length)) (acc := []) (fun d hd => by
        obtain ⟨j, hj, rfl⟩ := List.mem_map.mp hd
        simp only [iD]
        cases q : n.place j <;> simp [place_eq, q]) (by have := h.j1; simp; omega)
    rw [key]
    congr 3
    unfold begins nD
    rw [List.nil_append, List.filterMap_map]
    induction List.range n.js.length with
    | nil => rfl
    | cons a l ih =>
      rw [List.filterMap_cons, List.filter_cons]
      cases q : n.place a <;> simp [iD, q, ih] <;> exact ih
  have e : rngL 0 (n.js.map Joint.D).length = nD (List.range n.js.length) := by
    rw [rngL_eq]
    simp [nD, iD, Function.comp_def]
  have s1 : smallI ((n.js.map Joint.D).length : Int) = true := smallI_ok (by omega) (by have := h.j1; simp; omega)
  have e' : rngL 0 n.js.length = nD (List.range n.js.length) := by simpa using e
  have s1' : smallI (n.js.length : Int) = true := by simpa using s1
  have y1 : n.D = .tuple [.tuple (n.js.map Joint.D), .tuple (n.ps.map Pipe.D)] := rfl
  rw [y1] at x1 ⊢
  simp [m_begins, f_begins, s1', e', x1]
end WH
set_option Elab.async false
set_option linter.all false
set_option maxRecDepth 100000
set_option maxHeartbeats 4000000
namespace WH
open PySem PySem.Spec PyProof.Rows L2 DL He
@[simp] theorem non_0 : DL.isNon .none = true := rfl
@[simp] theorem non_i {i : Int} : DL.isNon (.int i) = false := rfl
@[simp] theorem non_b {b : Bool} : DL.isNon (.bool b) = false := rfl
@[simp] theorem non_s {x : Str} : DL.isNon (.str x) = false := rfl
@[simp] theorem non_t {x : List PyData} : DL.isNon (.tuple x) = false := rfl
@[simp] theorem non_l {x : List PyData} : DL.isNon (.list x) = false := rfl
@[simp] theorem non_d {x : List (PyData × PyData)} : DL.isNon (.dict x) = false := rfl
/-! ### lists of numbers -/
theorem lay_n : ∀ L : List Nat, PyData.canLayAll0 (nD L) = true
  | [] => rfl
  | k :: L => by rw [nD_cons]; simp [PyData.canLayAll0, iD, PyData.canLay0, lay_n L]
theorem dep_n : ∀ L : List Nat, PyData.depthAll (nD L) ≤ 1
  | [] => by simp [PyData.depthAll]
  | k :: L => by rw [nD_cons]; have := dep_n L; simp [PyData.depthAll, iD, PyData.depth]; omega
theorem sh_i (i : Int) : SeqAt.shaped (.int i) = true := by simp [SeqAt.shaped, PyData.canLay0, PyData.depth]
theorem sh_l (L : List Nat) : SeqAt.shaped (.list (nD L)) = true := by
  have := dep_n L
  simp [SeqAt.shaped, PyData.canLay0, lay_n, PyData.depth]; omega
theorem sh_t (L : List Nat) : SeqAt.shaped (.tuple (nD L)) = true := by
  have := dep_n L
  simp [SeqAt.shaped, PyData.canLay0, lay_n, PyData.depth]; omega
theorem sh_0 : SeqAt.shaped (.list []) = true := by decide
theorem any_n (k : Nat) : ∀ L : List Nat, ((nD L).any fun z => PyData.eqv z (.int (k : Int))) = decide (k ∈ L)
  | [] => by simp
  | a :: L => by
    rw [nD_cons, List.any_cons, any_n k L]
    by_cases h : a = k
    · subst h; simp [iD, PyData.eqv]
    · have h1 : ¬ k = a := fun e => h e.symm
      have h2 : ¬ (a : Int) = k := by omega
      simp [iD, PyData.eqv, h2, h1]
@[simp] theorem inD_l (k : Nat) (L : List Nat) : inD (.int (k : Int)) (.list (nD L)) = some (.val (.bool (decide (k ∈ L)))) := by
  unfold inD
  simp only [s_so1]
  rw [if_pos ⟨sh_i _, sh_l L⟩, any_n]
  rfl
@[simp] theorem inD_t (k : Nat) (L : List Nat) : inD (.int (k : Int)) (.tuple (nD L)) = some (.val (.bool (decide (k ∈ L)))) := by
  unfold inD
  simp only [s_so2]
  rw [if_pos ⟨sh_i _, sh_l L⟩, any_n]
  rfl
@[simp] theorem ninD_l (k : Nat) (L : List Nat) : ninD (.int (k : Int)) (.list (nD L)) = some (.val (.bool (!decide (k ∈ L)))) := by
  unfold ninD
  simp only [s_so1]
  rw [if_pos ⟨sh_i _, sh_l L⟩, any_n]
  rfl
@[simp] theorem ninD_t (k : Nat) (L : List Nat) : ninD (.int (k : Int)) (.tuple (nD L)) = some (.val (.bool (!decide (k ∈ L)))) := by
  unfold ninD
  simp only [s_so2]
  rw [if_pos ⟨sh_i _, sh_l L⟩, any_n]
  rfl
@[simp] theorem neD_l0 (L : List Nat) : neD (.list (nD L)) (.list []) = some (.val (.bool (decide (L ≠ [])))) := by
  rw [neT (sh_l L) sh_0]
  cases L with
  | nil => simp [PyData.eqv, PyData.eqvAll]
  | cons a L => simp [nD_cons, PyData.eqv, PyData.eqvAll]
@[simp] theorem eqD_l0 (L : List Nat) : eqD (.list (nD L)) (.list []) = some (.val (.bool (decide (L = [])))) := by
  rw [eqT (sh_l L) sh_0]
  cases L with
  | nil => simp [PyData.eqv, PyData.eqvAll]
  | cons a L => simp [nD_cons, PyData.eqv, PyData.eqvAll]
@[simp] theorem neD_00 : neD (.list []) (.list []) = some (.val (.bool false)) := neD_l0 []
@[simp] theorem eqD_00 : eqD (.list []) (.list []) = some (.val (.bool true)) := eqD_l0 []
section
variable {env : EnvD} {i : Nat} {fa fe : FE} {fi fi1 : FI} {gt gt1 : GT} {ft ft1 : FT} {vs vs1 : List Nat} {fA : FA} {o : Own}
@[simp] theorem s_eExt : eExt i fa env = match lstO i env with
  | some _ => M.bind (fa env) fun p => match p.1 with
    | .own (.lst zs) => match lstO i p.2 with
      | some r => if r.2.length + zs.length ≤ bigL then M.ok (.val .none, p.2.set i (some (reO r.1 (.lst (r.2 ++ zs))))) else none
      | none => none
    | _ => none
  | none => none := rfl
@[simp] theorem s_ePop : ePop i env = match lstO i env with
  | some r => match r.2[r.2.length - 1]? with
    | some d => M.ok (.val d, env.set i (some (reO r.1 (.lst r.2.dropLast))))
    | none => none
  | none => none := rfl
@[simp] theorem s_lc2F : lc2F fi gt ft fi1 gt1 ft1 fe vs vs1 env = M.bind (fi env) fun p => M.bind (lc2L gt ft fi1 gt1 ft1 fe vs vs1 p.1 [] (wipeD p.2 vs)) fun q => M.ok (.own (.lst q.1), q.2) := rfl
@[simp] theorem s_callPL {m : MF} {j : Nat} : callPL j m fA env = M.bind (fA env) fun p => callPLr j m p.1 p.2 := rfl
@[simp] theorem s_revT {xs : List PyData} : revD (.tuple xs) = some (.val (.tuple xs.reverse)) := rfl
end
theorem numL_at {d : PyData} : ∀ {xs : List PyData} {m k : Nat}, (numL m xs)[k]? = some d → ∃ x, xs[k]? = some x ∧ d = .tuple [.int ((m + k : Nat) : Int), x]
  | [], m, k, h => by simp [numL] at h
  | x :: xs, m, 0, h => by simp [numL] at h; exact ⟨x, rfl, h.symm⟩
  | x :: xs, m, k + 1, h => by
    simp only [numL, List.getElem?_cons_succ] at h
    obtain ⟨y, h1, h2⟩ := numL_at (xs := xs) h
    exact ⟨y, by simpa using h1, by rw [h2, show m + 1 + k = m + (k + 1) from by omega]⟩
theorem numL_len : ∀ (ps : List PyData) (k : Nat), (numL k ps).length = ps.length
  | [], _ => rfl
  | p :: ps, k => by simp [numL, numL_len ps]
theorem rng1_n {k : Nat} (h : k ≤ 1000) : rng1I [.int (k : Int)] = some ((List.range k).map iD) := by
  have s1 : smallI (k : Int) = true := smallI_ok (by omega) (by omega)
  unfold rng1I
  simp only
  rw [if_pos s1, Int.toNat_natCast, rngL_eq]
  simp [iD]
theorem rng1_S {k : Nat} (h : k < 1000) : rng1I [.int ((k : Int) + 1)] = some ((List.range (k + 1)).map iD) := rng1_n (k := k + 1) (by omega)
/-! ### what is fed -/
/-- the pipe k leads from x to y -/
def Leads (n : Net) (S : List Nat) (k x y : Nat) : Prop := ∃ p, n.ps[k]? = some p ∧ k ∉ S ∧ endFrom p x = some y
inductive Reach (n : Net) (S : List Nat) : Nat → Prop
  | base {x : Nat} : x ∈ begins n → Reach n S x
  | step {k x y : Nat} : Reach n S x → Leads n S k x y → Reach n S y
theorem begins_lt {n : Net} {x : Nat} (h : x ∈ begins n) : x < n.js.length := by
  unfold begins at h
  simp at h
  exact h.1
theorem end_lt {n : Net} (ok : n.Ok) {k x y : Nat} {p : Pipe} (hp : n.ps[k]? = some p) (h : endFrom p x = some y) : y < n.js.length := by
  have q := ok.p p (List.mem_of_getElem? hp)
  unfold endFrom at h
  split at h
  · cases h; exact q.b
  · split at h
    · cases h; exact q.a
    · cases h
theorem Reach.lt {n : Net} {S : List Nat} (ok : n.Ok) {x : Nat} (h : Reach n S x) : x < n.js.length := by
  cases h with
  | base h => exact begins_lt h
  | step h l => obtain ⟨p, h1, _, h3⟩ := l; exact end_lt ok h1 h3
def addP (S : List Nat) (j k : Nat) (p : Pipe) (FL : List Nat × List Nat) : List Nat × List Nat := match endFrom p j with
  | some t => if k ∉ S ∧ t ∉ FL.1 then (FL.1 ++ [t], FL.2 ++ [t]) else FL
  | none => FL
def addAll (S : List Nat) (j : Nat) : Nat → List Pipe → List Nat × List Nat → List Nat × List Nat
  | _, [], FL => FL
  | k, p :: ps, FL => addAll S j (k + 1) ps (addP S j k p FL)
/-- what one walk over the pipes leaves -/
theorem addP_ok (S : List Nat) (j k : Nat) (p : Pipe) (FL : List Nat × List Nat) : ∃ new, addP S j k p FL = (FL.1 ++ new, FL.2 ++ new) ∧ new.length ≤ 1 ∧ (∀ t ∈ new, endFrom p j = some t ∧ k ∉ S ∧ t ∉ FL.1) ∧ ∀ t, endFrom p j = some t → k ∉ S → t ∈ FL.1 ++ new := by
  unfold addP
  cases q : endFrom p j with
  | none => exact ⟨[], by simp, by simp, by simp, fun t h => by simp at h⟩
  | some t =>
    dsimp only
    split
    · rename_i h
      exact ⟨[t], rfl, by simp, fun t' h' => by simp at h'; subst h'; exact ⟨rfl, h⟩, fun t' h' _ => by simp at h'; subst h'; simp⟩
    · rename_i h
      refine ⟨[], by simp, by simp, by simp, fun t' h' hk => ?_⟩
      simp at h'
      subst h'
      simp only [List.append_nil]
      exact Classical.byContradiction fun z => h ⟨hk, z⟩
theorem addAll_ok (S : List Nat) (j : Nat) : ∀ (ps : List Pipe) (k : Nat) (FL : List Nat × List Nat), ∃ new, addAll S j k ps FL = (FL.1 ++ new, FL.2 ++ new) ∧ (FL.1.Nodup → (FL.1 ++ new).Nodup) ∧
    (∀ t ∈ new, ∃ i p, ps[i]? = some p ∧ endFrom p j = some t ∧ k + i ∉ S) ∧ ∀ i p t, ps[i]? = some p → endFrom p j = some t → k + i ∉ S → t ∈ FL.1 ++ new
  | [], k, FL => ⟨[], by simp [addAll], by simp, by simp, fun i p t h => by simp at h⟩
  | p :: ps, k, FL => by
    obtain ⟨n1, e1, l1, h1, g1⟩ := addP_ok S j k p FL
    obtain ⟨n2, e2, d2, h2, g2⟩ := addAll_ok S j ps (k + 1) (FL.1 ++ n1, FL.2 ++ n1)
    refine ⟨n1 ++ n2, ?_, fun hd => ?_, fun t ht => ?_, fun i p' t hp he hk => ?_⟩
    · simp only [addAll, e1, e2, List.append_assoc]
    · have : (FL.1 ++ n1).Nodup := by
        cases n1 with
        | nil => simpa using hd
        | cons a r =>
          have hr : r = [] := by
            cases r with
            | nil => rfl
            | cons _ _ => simp at l1
          subst hr
          rw [List.nodup_append]
          refine ⟨hd, by simp, fun x hx y hy => ?_⟩
          simp at hy
          subst hy
          intro e
          subst e
          exact (h1 x (by simp)).2.2 hx
      have := d2 this
      simpa [List.append_assoc] using this
    · rcases List.mem_append.mp ht with h | h
      · exact ⟨0, p, rfl, (h1 t h).1, by simpa using (h1 t h).2.1⟩
      · obtain ⟨i, p', a, b, c⟩ := h2 t h
        exact ⟨i + 1, p', by simpa using a, b, by rw [show k + (i + 1) = k + 1 + i from by omega]; exact c⟩
    · cases i with
      | zero =>
        simp at hp
        subst hp
        have := g1 t he (by simpa using hk)
        rw [← List.append_assoc]
        exact List.mem_append_left _ this
      | succ i =>
        have := g2 i p' t (by simpa using hp) he (by rw [show k + 1 + i = k + (i + 1) from by omega]; exact hk)
        simpa [List.append_assoc] using this
end WH
set_option Elab.async false
set_option linter.all false
set_option maxRecDepth 100000
set_option maxHeartbeats 4000000
namespace WH
open PySem PySem.Spec PyProof.Rows L2 DL He
def fedU : FS := (seqF (asgF 7 (callV m_end_from [] (aCons (eVar 6) (aCons (eVar 4) aNil))))
    (ifF (tAndF (eT (e2 ninD (eVar 5) (eVar 1))) (tAndF (eT (e2 isntD (eVar 7) (eC .none))) (eT (e2 ninD (eVar 7) (eVar 2))))) (seqF (dropF (eApp 2 (eVar 7)))
    (dropF (eApp 3 (eVar 7)))) nilF))
def fedE (n : Net) (S F L : List Nat) (t : EnvD) : EnvD := some (.val n.D) :: some (.val (.tuple (nD S))) :: some (.own (.lst (nD F))) :: some (.own (.lst (nD L))) :: t
def T3 (j : Nat) (t : EnvD) : Prop := t = [some (.val (iD j)), none, none, none] ∨ ∃ a b c, t = [some (.val (iD j)), some (.val a), some (.val b), some (.val c)]
def T4 (t : EnvD) : Prop := t = [none, none, none, none] ∨ ∃ j, T3 j t
theorem fed_turn (n : Net) (S F L : List Nat) (j k : Nat) (p : Pipe) (t : EnvD) (ht : T3 j t) (hF : F.length ≤ 1000) (hL : L.length ≤ 1000) :
    ∃ t', forStep (gtTup (gtCons (gtName 5) (gtCons (gtName 6) gtNil))) fedU (.tuple [.int (k : Int), p.D]) (fedE n S F L t) = M.ok (.nx (fedE n S (addP S j k p (F, L)).1 (addP S j k p (F, L)).2 t')) ∧ T3 j t' := by
  have hF' : F.length < 100000 := by omega
  have hL' : L.length < 100000 := by omega
  refine ⟨[some (.val (iD j)), some (.val (.int (k : Int))), some (.val p.D), some (.val (oD (endFrom p j)))], ?_, .inr ⟨_, _, _, rfl⟩⟩
  have e := end_eq p j
  cases q : endFrom p j with
  | none =>
    rw [q] at e
    have : addP S j k p (F, L) = (F, L) := by unfold addP; rw [q]
    rw [this]
    by_cases hk : k ∈ S
    · rcases ht with rfl | ⟨a, b, c, rfl⟩ <;> simp [fedU, fedE, e, iD, oD, hk]
    · rcases ht with rfl | ⟨a, b, c, rfl⟩ <;> simp [fedU, fedE, e, iD, oD, hk]
  | some t =>
    rw [q] at e
    by_cases hk : k ∈ S
    · have : addP S j k p (F, L) = (F, L) := by unfold addP; rw [q]; simp [hk]
      rw [this]
      rcases ht with rfl | ⟨a, b, c, rfl⟩ <;> simp [fedU, fedE, e, iD, oD, hk]
    · by_cases hf : t ∈ F
      · have : addP S j k p (F, L) = (F, L) := by unfold addP; rw [q]; simp [hk, hf]
        rw [this]
        rcases ht with rfl | ⟨a, b, c, rfl⟩ <;> simp [fedU, fedE, e, iD, oD, hk, hf]
      · have : addP S j k p (F, L) = (F ++ [t], L ++ [t]) := by unfold addP; rw [q]; simp [hk, hf]
        rw [this]
        rcases ht with rfl | ⟨a, b, c, rfl⟩ <;> simp [fedU, fedE, e, iD, oD, hk, hf, hF', hL', nD_app, nD_one]
theorem fed_walk (n : Net) (S : List Nat) (j : Nat) : ∀ (ps : List Pipe) (k : Nat) (F L : List Nat) (t : EnvD), T3 j t → F.length + ps.length ≤ 1000 → L.length + ps.length ≤ 1000 →
    ∃ t', forL (gtTup (gtCons (gtName 5) (gtCons (gtName 6) gtNil))) fedU (numL k (ps.map Pipe.D)) (fedE n S F L t) = M.ok (.nx (fedE n S (addAll S j k ps (F, L)).1 (addAll S j k ps (F, L)).2 t')) ∧ T3 j t'
  | [], k, F, L, t, ht, _, _ => ⟨t, by simp [numL, addAll], ht⟩
  | p :: ps, k, F, L, t, ht, hF, hL => by
    simp only [List.length_cons] at hF hL
    obtain ⟨t1, e1, h1⟩ := fed_turn n S F L j k p t ht (by omega) (by omega)
    obtain ⟨new, e2, l2, _⟩ := addP_ok S j k p (F, L)
    obtain ⟨t2, e3, h3⟩ := fed_walk n S j ps (k + 1) (addP S j k p (F, L)).1 (addP S j k p (F, L)).2 t1 h1 (by rw [e2]; simp only [List.length_append]; omega) (by rw [e2]; simp only [List.length_append]; omega)
    refine ⟨t2, ?_, h3⟩
    simp only [List.map_cons, numL, forL_step, e1, addAll]
    exact e3
/-- what holds between two turns -/
structure FedI (n : Net) (S F L : List Nat) : Prop where
  nd : F.Nodup
  lt : ∀ x ∈ F, x < n.js.length
  sub : ∀ x ∈ L, x ∈ F
  rch : ∀ x ∈ F, Reach n S x
  beg : ∀ x ∈ begins n, x ∈ F
  cl : ∀ x ∈ F, x ∉ L → ∀ k y, Leads n S k x y → y ∈ F
theorem nodup_len : ∀ {m : Nat} {l : List Nat}, l.Nodup → (∀ x ∈ l, x < m) → l.length ≤ m
  | 0, l, _, b => by
    cases l with
    | nil => simp
    | cons a r => exact absurd (b a (by simp)) (by omega)
  | m + 1, l, h, b => by
    have h1 := nodup_len (m := m) (h.erase m) fun x hx => by
      have h2 := b x (List.mem_of_mem_erase hx)
      have h3 : x ≠ m := fun e => by subst e; exact (List.Nodup.not_mem_erase h) hx
      omega
    by_cases hm : m ∈ l
    · rw [List.length_erase_of_mem hm] at h1
      omega
    · rw [List.erase_of_not_mem hm] at h1
      omega
theorem drop_last {L : List Nat} (h : L ≠ []) : ∃ M j, L = M ++ [j] := ⟨L.dropLast, L.getLast h, (List.dropLast_concat_getLast h).symm⟩
theorem fed_keep {n : Net} (ok : n.Ok) {S F M : List Nat} {j : Nat} (h : FedI n S F (M ++ [j])) : ∃ new, addAll S j 0 n.ps (F, M) = (F ++ new, M ++ new) ∧ FedI n S (F ++ new) (M ++ new) := by
  obtain ⟨new, e, nd, h1, h2⟩ := addAll_ok S j n.ps 0 (F, M)
  have jF : j ∈ F := h.sub j (by simp)
  have rn : ∀ t ∈ new, Reach n S t := fun t ht => by
    obtain ⟨i, p, hp, he, hk⟩ := h1 t ht
    exact .step (h.rch j jF) ⟨p, hp, by simpa using hk, he⟩
  refine ⟨new, e, nd h.nd, fun x hx => ?_, fun x hx => ?_, fun x hx => ?_, fun x hx => List.mem_append_left _ (h.beg x hx), fun x hx hn k y l => ?_⟩
  · rcases List.mem_append.mp hx with g | g
    · exact h.lt x g
    · exact (rn x g).lt ok
  · rcases List.mem_append.mp hx with g | g
    · exact List.mem_append_left _ (h.sub x (by simp [g]))
    · exact List.mem_append_right _ g
  · rcases List.mem_append.mp hx with g | g
    · exact h.rch x g
    · exact rn x g
  · have hx' : x ∈ F := by
      rcases List.mem_append.mp hx with g | g
      · exact g
      · exact absurd (List.mem_append_right _ g) hn
    by_cases hj : x = j
    · subst hj
      obtain ⟨p, hp, hk, he⟩ := l
      exact h2 k p y hp he (by simpa using hk)
    · refine List.mem_append_left _ (h.cl x hx' (fun z => ?_) k y l)
      simp only [List.mem_append, List.mem_singleton] at z
      rcases z with z | z
      · exact hn (List.mem_append_left _ z)
      · exact hj z
theorem fed_loop {n : Net} (ok : n.Ok) (S : List Nat) : ∀ (m : Nat) (F L : List Nat) (t : EnvD), T4 t → FedI n S F L → 2 * (n.js.length - F.length) + L.length < m → m ≤ 60 →
    ∃ F' t', whileN (eT (e2 neD (eVar 3) (eLst aNil))) (seqF (asgF 4 (ePop 3)) (forF (argI enumI (aCons (e2 ixD (eVar 0) (eC (.int 1))) aNil)) (gtTup (gtCons (gtName 5) (gtCons (gtName 6) gtNil))) fedU)) m (fedE n S F L t) = M.ok (.nx (fedE n S F' [] t')) ∧ FedI n S F' []
  | 0, F, L, t, ht, hi, hm, _ => by omega
  | m + 1, F, L, t, ht, hi, hm, h60 => by
    unfold whileN
    by_cases hL : L = []
    · subst hL
      exact ⟨F, t, by simp [fedE], hi⟩
    · obtain ⟨R, j, rfl⟩ := drop_last hL
      have n0 := ok.j1
      have fl := nodup_len hi.nd hi.lt
      have f9 := ok.p1
      obtain ⟨new, q1, hi2⟩ := fed_keep ok hi
      have fl2 := nodup_len hi2.nd hi2.lt
      simp only [List.length_append, List.length_singleton] at hm fl2
      have ht' : ∃ r, T3 j (some (.val (iD j)) :: r) ∧ (t.set 0 (some (.val (iD j)))) = some (.val (iD j)) :: r ∧ (∃ a, t = a :: r ∧ (a = none ∨ ∃ d, a = some (.val d))) := by
        rcases ht with rfl | ⟨i, rfl | ⟨a, b, c, rfl⟩⟩
        · exact ⟨[none, none, none], .inl rfl, rfl, _, rfl, .inl rfl⟩
        · exact ⟨[none, none, none], .inl rfl, rfl, _, rfl, .inr ⟨_, rfl⟩⟩
        · exact ⟨_, .inr ⟨a, b, c, rfl⟩, rfl, _, rfl, .inr ⟨_, rfl⟩⟩
      obtain ⟨r, h3, _, a, rfl, ha⟩ := ht'
      obtain ⟨t2, q2, h4⟩ := fed_walk n S j n.ps 0 F R (some (.val (iD j)) :: r) h3 (by omega) (by omega)
      obtain ⟨F', t', q3, h5⟩ := fed_loop ok S m (F ++ new) (R ++ new) t2 (.inr ⟨j, h4⟩) hi2 (by simp only [List.length_append]; omega) (by omega)
      refine ⟨F', t', ?_, h5⟩
      rw [q1] at q2
      dsimp only at q2
      have c1 : eT (e2 neD (eVar 3) (eLst aNil)) (fedE n S F (R ++ [j]) (a :: r)) = M.ok (true, fedE n S F (R ++ [j]) (a :: r)) := by simp [fedE]
      have c2 : asgF 4 (ePop 3) (fedE n S F (R ++ [j]) (a :: r)) = M.ok (.nx (fedE n S F R (some (.val (iD j)) :: r))) := by
        have g1 : (nD (R ++ [j]))[(nD (R ++ [j])).length - 1]? = some (iD j) := by simp [nD]
        have g2 : (nD (R ++ [j])).dropLast = nD R := by simp [nD]
        rcases ha with rfl | ⟨d, rfl⟩ <;> simp [fedE, g1, g2, -nD_len]
      have c3 : forF (argI enumI (aCons (e2 ixD (eVar 0) (eC (.int 1))) aNil)) (gtTup (gtCons (gtName 5) (gtCons (gtName 6) gtNil))) fedU (fedE n S F R (some (.val (iD j)) :: r)) = M.ok (.nx (fedE n S (F ++ new) (R ++ new) t2)) := by
        rw [← q2]
        simp [fedE, Net.D, netD]
      rw [c1]
      simp only [s_bok]
      rw [s_seqF, c2]
      simp only [s_bok]
      rw [c3]
      exact q3
theorem fed_eq {n : Net} (ok : n.Ok) (S : List Nat) : ∃ F, m_fed_by__2 [.val n.D, .val (.tuple (nD S))] = M.ok (.own (.lst (nD F)), [some (.val n.D), some (.val (.tuple (nD S)))]) ∧ ∀ x, x ∈ F ↔ Reach n S x := by
  have i0 : FedI n S (begins n) (begins n) := by
    refine ⟨?_, fun x hx => begins_lt hx, fun x hx => hx, fun x hx => .base hx, fun x hx => hx, fun x hx hn => absurd hx hn⟩
    unfold begins
    exact List.filter_sublist.nodup List.nodup_range
  have b1 := nodup_len i0.nd i0.lt
  have n0 := ok.j1
  obtain ⟨F, t, e, hi⟩ := fed_loop ok S 60 (begins n) (begins n) [none, none, none, none] (.inl rfl) i0 (by omega) (by omega)
  refine ⟨F, ?_, fun x => ⟨hi.rch x, fun h => ?_⟩⟩
  · have e' : whileF (fun _ => 60) (eT (e2 neD (eVar 3) (eLst aNil))) (seqF (asgF 4 (ePop 3)) (forF (argI enumI (aCons (e2 ixD (eVar 0) (eC (.int 1))) aNil)) (gtTup (gtCons (gtName 5) (gtCons (gtName 6) gtNil))) fedU)) (fedE n S (begins n) (begins n) [none, none, none, none]) = M.ok (.nx (fedE n S F [] t)) := e
    unfold fedE fedU at e'
    simp [m_fed_by__2, f_fed_by__2, begins_eq n ok, e']
  · induction h with
    | base h => exact hi.beg _ h
    | step h l ih => exact hi.cl _ ih (by simp) _ _ l
end WH
set_option Elab.async false
set_option linter.all false
set_option maxRecDepth 100000
set_option maxHeartbeats 4000000
namespace WH
open PySem PySem.Spec PyProof.Rows L2 DL He
/-! ### loops that look for something -/
theorem seq_nx {u v : FS} {env env1 : EnvD} (h : u env = M.ok (.nx env1)) : seqF u v env = v env1 := by
  rw [s_seqF, h]; rfl
theorem seq_rt {u v : FS} {env env1 : EnvD} {s : Sl} (h : u env = M.ok (.rt s env1)) : seqF u v env = M.ok (.rt s env1) := by
  rw [s_seqF, h]; rfl
theorem for_run {fi : FI} {gt : GT} {u : FS} {env env1 : EnvD} {ds : List PyData} (h : fi env = M.ok (ds, env1)) : forF fi gt u env = forL gt u ds env1 := by
  rw [s_forF, h]; rfl
theorem argI_run {g : List PyData → Option (List PyData)} {fA : FA} {env env1 : EnvD} {ds r : List PyData} (h : fzA fA env = M.ok (ds, env1)) (h2 : g ds = some r) : argI g fA env = M.ok (r, env1) := by
  rw [s_argI, h]
  show (match g ds with | some ds => M.ok (ds, env1) | none => none) = _
  rw [h2]
theorem body_rt {n l : Nat} {f : FS} {args : List Sl} {env : EnvD} {s : Sl} (hl : args.length = n) (h : f (args.map some ++ List.replicate (l - n) none) = M.ok (.rt s env)) : bodyF n l f args = fin (resOut s env) (outsA args env) := by
  rw [s_bodyF, if_pos hl, h]; rfl
def srch {β : Type} (res : β → Sl) (env : EnvD) : Option β → Flo
  | some b => .rt (res b) env
  | none => .nx env
@[simp] theorem srch_1 {β : Type} {res : β → Sl} {env : EnvD} {b : β} : srch res env (some b) = .rt (res b) env := rfl
@[simp] theorem srch_0 {β : Type} {res : β → Sl} {env : EnvD} : srch res env none = .nx env := rfl
theorem forL_search {α β : Type} {gt : GT} {u : FS} {enc : α → PyData} {f : α → Option β} {res : β → Sl} {Inv : EnvD → Prop} : ∀ (l : List α),
    (∀ a ∈ l, ∀ env, Inv env → ∃ env', Inv env' ∧ forStep gt u (enc a) env = M.ok (srch res env' (f a))) → ∀ env, Inv env → ∃ env', Inv env' ∧ forL gt u (l.map enc) env = M.ok (srch res env' (l.findSome? f))
  | [], _, env, hi => ⟨env, hi, by simp⟩
  | a :: l, h, env, hi => by
    obtain ⟨env1, h1, x1⟩ := h a List.mem_cons_self env hi
    rw [List.map_cons, forL_step, x1]
    cases q : f a with
    | some b => exact ⟨env1, h1, by simp [q]⟩
    | none =>
      obtain ⟨env2, h2, x2⟩ := forL_search l (fun a ha => h a (List.mem_cons_of_mem _ ha)) env1 h1
      exact ⟨env2, h2, by rw [List.findSome?_cons, q]; exact x2⟩
/-- comprehensions over typed lists -/
theorem lcL_typ {α : Type} {gt : GT} {ft : FT} {fe : FE} {vs : List Nat} {env : EnvD} {enc : α → PyData} {h : α → Option PyData} : ∀ {l : List α} {acc : List PyData}, (∀ a ∈ l, lcStep gt ft fe vs (enc a) env = some (h a, env)) → acc.length + l.length ≤ bigL → lcL gt ft fe vs (l.map enc) acc env = M.ok (acc ++ l.filterMap h, env)
  | [], acc, _, _ => by simp
  | a :: l, acc, hs, hl => by
    have h1 := hs a List.mem_cons_self
    simp only [List.length_cons] at hl
    rw [List.map_cons, lcL_step, h1, List.filterMap_cons]
    cases q : h a with
    | none =>
      dsimp only
      exact lcL_typ (fun a ha => hs a (List.mem_cons_of_mem _ ha)) (by omega)
    | some z =>
      dsimp only
      rw [if_pos (by omega), lcL_typ (fun a ha => hs a (List.mem_cons_of_mem _ ha)) (by simp only [List.length_append, List.length_singleton]; omega)]
      simp
theorem lcL_typF {α : Type} {gt : GT} {ft : FT} {fe : FE} {vs : List Nat} {env : EnvD} {enc : α → PyData} {q : α → Bool} {l : List α} (hs : ∀ a ∈ l, lcStep gt ft fe vs (enc a) env = some (if q a = true then some (enc a) else none, env)) (hl : l.length ≤ bigL) : lcL gt ft fe vs (l.map enc) [] env = some (.ok ((l.filter q).map enc, env)) := by
  rw [lcL_typ (h := fun a => if q a = true then some (enc a) else none) hs (by simpa using hl), List.nil_append]
  congr 2
  clear hs hl
  induction l with
  | nil => rfl
  | cons a l ih =>
    rw [List.filterMap_cons, List.filter_cons]
    cases q a <;> simp [ih]
theorem lcL_typM {α : Type} {gt : GT} {ft : FT} {fe : FE} {vs : List Nat} {env : EnvD} {enc : α → PyData} {h : α → PyData} {l : List α} (hs : ∀ a ∈ l, lcStep gt ft fe vs (enc a) env = some (some (h a), env)) (hl : l.length ≤ bigL) : lcL gt ft fe vs (l.map enc) [] env = some (.ok (l.map h, env)) := by
  rw [lcL_typ (h := fun a => some (h a)) hs (by simpa using hl)]
  simp
/-- x[i:] -/
theorem cut_from (ds : List PyData) (i : Nat) : DL.cutD ds (some (i : Int)) none = ds.drop i := by
  unfold DL.cutD
  have e : HT.sIx ds.length 0 (some (i : Int)) = min i ds.length := by
    unfold HT.sIx
    simp
    omega
  rw [e]
  simp only [HT.sIx]
  rw [List.take_of_length_le (by simp)]
  rcases Nat.le_total i ds.length with h | h
  · rw [Nat.min_eq_left h]
  · rw [Nat.min_eq_right h, List.drop_eq_nil_of_le (Nat.le_refl _), List.drop_eq_nil_of_le h]
/-! ### gates -/
def gatesF (S : List Nat) : Nat → List Pipe → List Nat
  | _, [] => []
  | k, p :: ps => (if p.gate = true ∧ k ∉ S then [k] else []) ++ gatesF S (k + 1) ps
def gates (n : Net) (S : List Nat) : List Nat := gatesF S 0 n.ps
theorem gatesF_mem (S : List Nat) {x : Nat} : ∀ {ps : List Pipe} {k : Nat}, x ∈ gatesF S k ps ↔ ∃ i p, ps[i]? = some p ∧ x = k + i ∧ p.gate = true ∧ x ∉ S
  | [], k => by simp [gatesF]
  | p :: ps, k => by
    simp only [gatesF, List.mem_append, gatesF_mem S (ps := ps)]
    constructor
    · rintro (h | ⟨i, p', h1, h2, h3⟩)
      · split at h
        · rename_i hc
          simp at h
          subst h
          exact ⟨0, p, rfl, rfl, hc⟩
        · simp at h
      · exact ⟨i + 1, p', by simpa using h1, by omega, h3⟩
    · rintro ⟨i, p', h1, h2, h3, h4⟩
      cases i with
      | zero =>
        simp at h1 h2
        subst h1 h2
        left
        rw [if_pos ⟨h3, h4⟩]
        simp
      | succ i => exact .inr ⟨i, p', by simpa using h1, by omega, h3, h4⟩
theorem gatesF_ge (S : List Nat) {x : Nat} {ps : List Pipe} {k : Nat} (h : x ∈ gatesF S k ps) : k ≤ x := by
  obtain ⟨i, p, _, e, _⟩ := (gatesF_mem S).mp h
  omega
theorem gatesF_sorted (S : List Nat) : ∀ (ps : List Pipe) (k : Nat), (gatesF S k ps).Pairwise (· < ·)
  | [], k => by simp [gatesF]
  | p :: ps, k => by
    simp only [gatesF]
    rw [List.pairwise_append]
    refine ⟨by split <;> simp, gatesF_sorted S ps (k + 1), fun a ha b hb => ?_⟩
    have := gatesF_ge S hb
    split at ha
    · simp at ha; omega
    · simp at ha
theorem gatesF_len (S : List Nat) : ∀ (ps : List Pipe) (k : Nat), (gatesF S k ps).length ≤ ps.length
  | [], k => by simp [gatesF]
  | p :: ps, k => by
    have := gatesF_len S ps (k + 1)
    simp only [gatesF, List.length_append, List.length_cons]
    split <;> simp <;> omega
theorem gates_mem {n : Net} {S : List Nat} {k : Nat} : k ∈ gates n S ↔ ∃ p, n.ps[k]? = some p ∧ p.gate = true ∧ k ∉ S := by
  unfold gates
  rw [gatesF_mem]
  constructor
  · rintro ⟨i, p, h1, h2, h3⟩
    simp at h2
    subst h2
    exact ⟨p, h1, h3⟩
  · rintro ⟨p, h1, h3⟩
    exact ⟨k, p, h1, by omega, h3⟩
theorem gates_step (n : Net) (S : List Nat) : ∀ (ps : List Pipe) (k : Nat), (numL k (ps.map Pipe.D)).filterMap (fun d => match d with
    | .tuple [.int i, .tuple [_, _, _, _, _, .bool g, _]] => if g = true ∧ i.toNat ∉ S then some (.int i) else none
    | _ => none) = nD (gatesF S k ps)
  | [], k => rfl
  | p :: ps, k => by
    have ih := gates_step n S ps (k + 1)
    simp only [List.map_cons, numL, List.filterMap_cons, gatesF, nD_app, ih]
    cases q : p.gate <;> by_cases h : k ∈ S <;> simp [Pipe.D, q, h, nD, iD]
theorem gates_eq {n : Net} (ok : n.Ok) (S : List Nat) : m_gates_in [.val n.D, .val (.tuple (nD S))] = M.ok (.own (.lst (nD (gates n S))), [some (.val n.D), some (.val (.tuple (nD S)))]) := by
  have f9 := ok.p1
  have x1 : lcL (gtTup (gtCons (gtName 2) (gtCons (gtName 3) gtNil))) (tAndF (eT (e2 ixD (eVar 3) (eC (.int 5)))) (eT (e2 ninD (eVar 2) (eVar 1)))) (eVar 2) [2, 3] (numL 0 (n.ps.map Pipe.D)) [] [some (.val n.D), some (.val (.tuple (nD S))), none, none] =
      some (.ok (nD (gates n S), [some (.val n.D), some (.val (.tuple (nD S))), none, none])) := by
    have key := lcL_pure (gt := gtTup (gtCons (gtName 2) (gtCons (gtName 3) gtNil))) (ft := tAndF (eT (e2 ixD (eVar 3) (eC (.int 5)))) (eT (e2 ninD (eVar 2) (eVar 1)))) (fe := eVar 2) (vs := [2, 3]) (env := [some (.val n.D), some (.val (.tuple (nD S))), none, none])
      (h := fun d => match d with
        | .tuple [.int i, .tuple [_, _, _, _, _, .bool g, _]] => if g = true ∧ i.toNat ∉ S then some (.int i) else none
        | _ => none) (ds := numL 0 (n.ps.map Pipe.D)) (acc := []) (fun d hd => by
          obtain ⟨k, hk⟩ := List.mem_iff_getElem?.mp hd
          obtain ⟨x, h1, rfl⟩ := numL_at hk
          rw [List.getElem?_map] at h1
          cases hp : n.ps[k]? with
          | none => rw [hp] at h1; cases h1
          | some p =>
            rw [hp] at h1
            cases h1
            rw [Nat.zero_add]
            cases q : p.gate <;> by_cases h : k ∈ S <;> simp [Pipe.D, q, h]) (by rw [numL_len]; simp; omega)
    rw [key, List.nil_append, gates_step n S]
    rfl
  have y1 : n.D = .tuple [.tuple (n.js.map Joint.D), .tuple (n.ps.map Pipe.D)] := rfl
  rw [y1] at x1 ⊢
  simp [m_gates_in, f_gates_in, x1]
/-! ### lots -/
def combos : List Nat → Nat → List (List Nat)
  | _, 0 => [[]]
  | [], _ + 1 => []
  | a :: r, k + 1 => (combos r k).map (a :: ·) ++ combos r (k + 1)
theorem combos_len : ∀ (L : List Nat) (k : Nat), (combos L k).length ≤ 2 ^ L.length
  | [], 0 => by simp [combos]
  | a :: r, 0 => by simp [combos]; exact Nat.one_le_two_pow
  | [], k + 1 => by simp [combos]
  | a :: r, k + 1 => by
    have h1 := combos_len r k
    have h2 := combos_len r (k + 1)
    simp only [combos, List.length_append, List.length_map, List.length_cons, Nat.pow_succ]
    omega
theorem combos_mem {l : List Nat} : ∀ {L : List Nat} {k : Nat}, l ∈ combos L k ↔ l.Sublist L ∧ l.length = k
  | [], 0 => by simp [combos]
  | a :: r, 0 => by
    simp only [combos, List.mem_singleton]
    constructor
    · rintro rfl; simp
    · rintro ⟨_, h⟩; exact List.length_eq_zero_iff.mp h
  | [], k + 1 => by
    simp only [combos, List.not_mem_nil, List.sublist_nil, false_iff]
    rintro ⟨rfl, h⟩
    simp at h
  | a :: r, k + 1 => by
    simp only [combos, List.mem_append, List.mem_map, combos_mem (L := r)]
    constructor
    · rintro (⟨l', ⟨h1, h2⟩, rfl⟩ | ⟨h1, h2⟩)
      · exact ⟨h1.cons₂ a, by simp [h2]⟩
      · exact ⟨h1.cons a, h2⟩
    · rintro ⟨h1, h2⟩
      cases h1 with
      | cons _ h1 => exact .inr ⟨h1, h2⟩
      | cons_cons _ h1 =>
        rename_i l'
        exact .inl ⟨l', ⟨h1, by simpa using h2⟩, rfl⟩
def lotD (l : List Nat) : PyData := .tuple (nD l)
def lotU (mR : MF) : FS := dropF (eExt 2 (lcF (seqI (callV mR [] (aCons (eSl (eVar 0) (oSome (e2 addD (eVar 3) (eC (.int 1)))) oNone) (aCons (e2 subD (eVar 1) (eC (.int 1))) aNil)))) (gtName 5) yesF (e2 addD (eTup (aCons (eVar 4) aNil)) (eVar 5)) [5]))
def T2 (t : EnvD) : Prop := t = [none, none, none] ∨ ∃ a b, t = [some (.val a), some (.val b), none]
theorem lots_walk (mR : MF) (k : Nat) (full : List Nat) (hf : full.length ≤ 9) : ∀ (suf pre : List Nat), full = pre ++ suf →
    (∀ r : List Nat, r.Sublist suf → mR [.val (.list (nD r)), .val (.int (k : Int))] = M.ok (.own (.lst ((combos r k).map lotD)), [some (.val (.list (nD r))), some (.val (.int (k : Int)))])) →
    ∀ (acc : List PyData) (t : EnvD), T2 t → acc.length + 2 ^ suf.length ≤ 1000 →
    ∃ t', forL (gtTup (gtCons (gtName 3) (gtCons (gtName 4) gtNil))) (lotU mR) (numL pre.length (nD suf)) (some (.val (.list (nD full))) :: some (.val (.int ((k + 1 : Nat) : Int))) :: some (.own (.lst acc)) :: t) =
      M.ok (.nx (some (.val (.list (nD full))) :: some (.val (.int ((k + 1 : Nat) : Int))) :: some (.own (.lst (acc ++ (combos suf (k + 1)).map lotD))) :: t'))
  | [], pre, e, hm, acc, t, ht, hl => ⟨t, by simp [numL, combos]⟩
  | a :: suf, pre, e, hm, acc, t, ht, hl => by
    have hmr := hm suf (List.sublist_cons_self a suf)
    have cl := combos_len suf k
    have p0 : 2 ^ (a :: suf).length = 2 ^ suf.length + 2 ^ suf.length := by rw [List.length_cons, Nat.pow_succ]; omega
    obtain ⟨t2, x2⟩ := lots_walk mR k full hf suf (pre ++ [a]) (by simp [e]) (fun r hr => hm r (hr.trans (List.sublist_cons_self a suf))) (acc ++ ((combos suf k).map (a :: ·)).map lotD) [some (.val (.int (pre.length : Int))), some (.val (.int (a : Int))), none] (.inr ⟨_, _, rfl⟩) (by simp only [List.length_append, List.length_map]; omega)
    have hd : (nD full).drop (pre.length + 1) = nD suf := by
      rw [e]
      unfold nD
      rw [← List.map_drop]
      simp
    have hc : DL.cutD (nD full) (some ((pre.length : Int) + 1)) none = nD suf := by
      have := cut_from (nD full) (pre.length + 1)
      rw [hd] at this
      exact_mod_cast this
    have x1 : forStep (gtTup (gtCons (gtName 3) (gtCons (gtName 4) gtNil))) (lotU mR) (.tuple [.int (pre.length : Int), .int (a : Int)]) (some (.val (.list (nD full))) :: some (.val (.int ((k + 1 : Nat) : Int))) :: some (.own (.lst acc)) :: t) =
        M.ok (.nx (some (.val (.list (nD full))) :: some (.val (.int ((k + 1 : Nat) : Int))) :: some (.own (.lst (acc ++ ((combos suf k).map (a :: ·)).map lotD))) :: [some (.val (.int (pre.length : Int))), some (.val (.int (a : Int))), none])) := by
      have y1 : lcL (gtName 5) yesF (e2 addD (eTup (aCons (eVar 4) aNil)) (eVar 5)) [5] ((combos suf k).map lotD) [] (some (.val (.list (nD full))) :: some (.val (.int ((k : Int) + 1))) :: some (.own (.lst acc)) :: [some (.val (.int (pre.length : Int))), some (.val (.int (a : Int))), none]) =
          some (.ok (((combos suf k).map lotD).map (fun d => match d with
            | .tuple xs => .tuple (.int (a : Int) :: xs)
            | d => d), some (.val (.list (nD full))) :: some (.val (.int ((k : Int) + 1))) :: some (.own (.lst acc)) :: [some (.val (.int (pre.length : Int))), some (.val (.int (a : Int))), none])) :=
        lcL_map (fun d hd => by
          obtain ⟨l, hl, rfl⟩ := List.mem_map.mp hd
          have hl9 : l.length ≤ 9 := by
            have h1 := (combos_mem.mp hl).1.length_le
            rw [e] at hf
            simp at hf
            omega
          have h2 : 1 + l.length ≤ 100000 := by omega
          simp [lotD, h2]) (by simp; omega)
      have y2 : ((combos suf k).map lotD).map (fun d => match d with
            | .tuple xs => PyData.tuple (.int (a : Int) :: xs)
            | d => d) = ((combos suf k).map (a :: ·)).map lotD := by
        rw [List.map_map, List.map_map]
        exact List.map_congr_left fun l _ => rfl
      rw [y2] at y1
      have h3 : acc.length + (combos suf k).length ≤ 100000 := by omega
      have hk : ((k : Int) + 1 - 1) = k := by omega
      rcases ht with rfl | ⟨b, c, rfl⟩ <;> simp [lotU, hc, hk, hmr, y1, h3, -List.map_map]
    refine ⟨t2, ?_⟩
    rw [nD_cons, numL, forL_step]
    simp only [iD]
    rw [x1]
    simp only [s_bok]
    have e3 : pre.length + 1 = (pre ++ [a]).length := by simp
    rw [e3, x2]
    simp [combos]
theorem lots_eq : ∀ (fuel : Nat) (L : List Nat) (k : Nat), L.length ≤ 9 → k < fuel → m_lots_of fuel [.val (.list (nD L)), .val (.int (k : Int))] = M.ok (.own (.lst ((combos L k).map lotD)), [some (.val (.list (nD L))), some (.val (.int (k : Int)))])
  | 0, L, k, _, h => by omega
  | fuel + 1, L, 0, hL, h => by
    simp [m_lots_of, f_lots_of, combos, lotD]
  | fuel + 1, L, k + 1, hL, h => by
    have hp : 2 ^ L.length ≤ 2 ^ 9 := Nat.pow_le_pow_right (by decide) hL
    obtain ⟨t, x⟩ := lots_walk (m_lots_of fuel) k L hL L [] rfl (fun r hr => lots_eq fuel r k (Nat.le_trans hr.length_le hL) (by omega)) [] [none, none, none] (.inl rfl) (by simp; omega)
    unfold lotU at x
    have h0 : ¬ ((k : Int) + 1 = 0) := by omega
    simp at x
    simp [m_lots_of, f_lots_of, beqF h0, x]
end WH
set_option Elab.async false
set_option linter.all false
set_option maxRecDepth 100000
set_option maxHeartbeats 4000000
namespace WH
open PySem PySem.Spec PyProof.Rows L2 DL He
/-! ### fewest gates -/
open Classical in
noncomputable def cutsB (n : Net) (S : List Nat) (place : Nat) (l : List Nat) : Option (List Nat) := if Reach n (S ++ l) place then none else some l
noncomputable def fewL (n : Net) (S : List Nat) (place : Nat) : Option (List Nat) := (List.range ((gates n S).length + 1)).findSome? fun k => (combos (gates n S) k).findSome? (cutsB n S place)
def lotO : Option (List Nat) → PyData
  | some l => lotD l
  | none => .none
def fewU : FS := ifF (eT (e2 ninD (eVar 1) (callV m_fed_by__2 [] (aCons (eVar 0) (aCons (e2 addD (eVar 2) (eVar 5)) aNil))))) (retF (eVar 5)) nilF
def Vac (o : Option Sl) : Prop := o = none ∨ ∃ d, o = some (.val d)
def fewE (n : Net) (S : List Nat) (place k : Nat) (o : Option Sl) : EnvD := [some (.val n.D), some (.val (.int (place : Int))), some (.val (.tuple (nD S))), some (.val (.list (nD (gates n S)))), some (.val (.int (k : Int))), o]
theorem few_in {n : Net} (ok : n.Ok) (S : List Nat) (hS : S.length ≤ 9) (place k : Nat) : ∀ env, (∃ o, Vac o ∧ env = fewE n S place k o) →
    ∃ env', (∃ o, Vac o ∧ env' = fewE n S place k o) ∧ forL (gtName 5) fewU ((combos (gates n S) k).map lotD) env = M.ok (srch (fun b => .val (lotD b)) env' ((combos (gates n S) k).findSome? (cutsB n S place))) := by
  refine forL_search (res := fun b => .val (lotD b)) _ fun l hl env he => ?_
  obtain ⟨o, ho, rfl⟩ := he
  have g9 : (gates n S).length ≤ 9 := Nat.le_trans (gatesF_len S n.ps 0) ok.p1
  have l9 : l.length ≤ 9 := Nat.le_trans (combos_mem.mp hl).1.length_le g9
  obtain ⟨F, e, hF⟩ := fed_eq ok (S ++ l)
  have h2 : S.length + l.length ≤ 100000 := by omega
  refine ⟨fewE n S place k (some (.val (lotD l))), ⟨_, .inr ⟨_, rfl⟩, rfl⟩, ?_⟩
  rw [nD_app] at e
  unfold cutsB
  by_cases hr : Reach n (S ++ l) place
  · have hm : place ∈ F := (hF place).mpr hr
    rw [if_pos hr]
    rcases ho with rfl | ⟨d, rfl⟩ <;> simp [fewU, fewE, lotD, e, h2, hm]
  · have hm : ¬ place ∈ F := fun z => hr ((hF place).mp z)
    rw [if_neg hr]
    rcases ho with rfl | ⟨d, rfl⟩ <;> simp [fewU, fewE, lotD, e, h2, hm]
theorem few_eq {n : Net} (ok : n.Ok) (S : List Nat) (hS : S.length ≤ 9) (place : Nat) : m_fewest_gates [.val n.D, .val (.int (place : Int)), .val (.tuple (nD S))] = M.ok (.val (lotO (fewL n S place)), [some (.val n.D), some (.val (.int (place : Int))), some (.val (.tuple (nD S)))]) := by
  have g9 : (gates n S).length ≤ 9 := Nat.le_trans (gatesF_len S n.ps 0) ok.p1
  have x := forL_search (gt := gtName 4) (u := forF (seqI (callV (m_lots_of 12) [] (aCons (eVar 3) (aCons (eVar 4) aNil)))) (gtName 5) fewU) (enc := iD) (f := fun k => (combos (gates n S) k).findSome? (cutsB n S place)) (res := fun b => .val (lotD b))
    (Inv := fun env => ∃ g o o', (g = Sl.own (.lst (nD (gates n S))) ∨ g = .val (.list (nD (gates n S)))) ∧ Vac o ∧ Vac o' ∧ env = [some (.val n.D), some (.val (.int (place : Int))), some (.val (.tuple (nD S))), some g, o, o']) (List.range ((gates n S).length + 1)) (fun k hk env he => by
      obtain ⟨g, o, o', hg, ho, ho', rfl⟩ := he
      have hk' : k < (gates n S).length + 1 := List.mem_range.mp hk
      have le := lots_eq 12 (gates n S) k g9 (by omega)
      obtain ⟨env', ⟨o2, ho2, rfl⟩, x⟩ := few_in ok S hS place k (fewE n S place k o') ⟨o', ho', rfl⟩
      refine ⟨fewE n S place k o2, ⟨_, _, _, .inr rfl, .inr ⟨_, rfl⟩, ho2, rfl⟩, ?_⟩
      rw [← x]
      have put : ∀ g : Sl, putS 4 (.val (iD k)) [some (.val n.D), some (.val (.int (place : Int))), some (.val (.tuple (nD S))), some g, o, o'] = some [some (.val n.D), some (.val (.int (place : Int))), some (.val (.tuple (nD S))), some g, some (.val (.int (k : Int))), o'] := fun g => by
        rcases ho with rfl | ⟨d, rfl⟩ <;> simp [iD]
      rcases hg with rfl | rfl
      · simp [put, le, fewE, -s_put1]
      · simp [put, le, fewE, -s_put1]) [some (.val n.D), some (.val (.int (place : Int))), some (.val (.tuple (nD S))), some (.own (.lst (nD (gates n S)))), none, none] ⟨_, none, none, .inl rfl, .inl rfl, .inl rfl, rfl⟩
  obtain ⟨env', ⟨g, o, o', _, _, _, rfl⟩, x⟩ := x
  have g1000 : (gates n S).length < 1000 := by omega
  have h0 : f_fewest_gates [some (.val n.D), some (.val (.int (place : Int))), some (.val (.tuple (nD S))), none, none, none] = M.ok (.rt (.val (lotO (fewL n S place))) [some (.val n.D), some (.val (.int (place : Int))), some (.val (.tuple (nD S))), some g, o, o']) := by
    have y1 : asgF 3 (callV m_gates_in [] (aCons (eVar 0) (aCons (eVar 2) aNil))) [some (.val n.D), some (.val (.int (place : Int))), some (.val (.tuple (nD S))), none, none, none] = M.ok (.nx [some (.val n.D), some (.val (.int (place : Int))), some (.val (.tuple (nD S))), some (.own (.lst (nD (gates n S)))), none, none]) := by simp [gates_eq ok]
    have y2 : argI rng1I (aCons (e2 addD (eCB lenD (aCons (eVar 3) aNil)) (eC (.int 1))) aNil) [some (.val n.D), some (.val (.int (place : Int))), some (.val (.tuple (nD S))), some (.own (.lst (nD (gates n S)))), none, none] = M.ok ((List.range ((gates n S).length + 1)).map iD, [some (.val n.D), some (.val (.int (place : Int))), some (.val (.tuple (nD S))), some (.own (.lst (nD (gates n S)))), none, none]) := argI_run (by simp) (rng1_S g1000)
    unfold f_fewest_gates
    unfold fewU at x
    rw [seq_nx y1]
    unfold fewL
    rw [← for_run y2] at x
    cases q : (List.range ((gates n S).length + 1)).findSome? fun k => (combos (gates n S) k).findSome? (cutsB n S place) with
    | none =>
      rw [q] at x
      rw [seq_nx x]
      rfl
    | some b =>
      rw [q] at x
      rw [seq_rt x]
      rfl
  unfold m_fewest_gates
  rw [body_rt (by rfl) h0]
  rfl
/-- what it is -/
theorem fewL_some {n : Net} {S : List Nat} {place : Nat} {l : List Nat} (h : fewL n S place = some l) : l.Sublist (gates n S) ∧ ¬ Reach n (S ++ l) place ∧ ∀ l', l'.Sublist (gates n S) → l'.length < l.length → Reach n (S ++ l') place := by
  unfold fewL at h
  obtain ⟨ks, k, kr, hk, h1, h2⟩ := List.findSome?_eq_some_iff.mp h
  obtain ⟨ls, l0, lr, hl, g1, g2⟩ := List.findSome?_eq_some_iff.mp h1
  have e : l0 = l ∧ ¬ Reach n (S ++ l) place := by
    unfold cutsB at g1
    split at g1
    · cases g1
    · cases g1
      exact ⟨rfl, by assumption⟩
  obtain ⟨rfl, hr⟩ := e
  have hm : l0 ∈ combos (gates n S) k := by rw [hl]; simp
  obtain ⟨m1, m2⟩ := combos_mem.mp hm
  refine ⟨m1, hr, fun l' s lt => Classical.byContradiction fun z => ?_⟩
  have hk' : l'.length ∈ ks := by
    have hlen : ks.length = k := by
      have : (List.range ((gates n S).length + 1))[ks.length]? = some k := by rw [hk]; simp
      rw [List.getElem?_range] at this
      · cases this; rfl
      · have := congrArg List.length hk
        simp at this
        omega
    have : (List.range ((gates n S).length + 1))[l'.length]? = ks[l'.length]? := by
      rw [hk, List.getElem?_append_left (by omega)]
    rw [List.getElem?_range (by have := s.length_le; omega)] at this
    exact List.mem_of_getElem? this.symm
  have := h2 _ hk'
  rw [List.findSome?_eq_none_iff] at this
  have := this l' (combos_mem.mpr ⟨s, rfl⟩)
  unfold cutsB at this
  rw [if_neg z] at this
  cases this
theorem fewL_none {n : Net} {S : List Nat} {place : Nat} (h : fewL n S place = none) : ∀ l', l'.Sublist (gates n S) → Reach n (S ++ l') place := fun l' s => Classical.byContradiction fun z => by
  unfold fewL at h
  rw [List.findSome?_eq_none_iff] at h
  have := h l'.length (List.mem_range.mpr (by have := s.length_le; omega))
  rw [List.findSome?_eq_none_iff] at this
  have := this l' (combos_mem.mpr ⟨s, rfl⟩)
  unfold cutsB at this
  rw [if_neg z] at this
  cases this
end WH
set_option Elab.async false
set_option linter.all false
set_option maxRecDepth 100000
set_option maxHeartbeats 4000000
namespace WH
open PySem PySem.Spec PyProof.Rows L2 DL He
/-! ### gates on a way -/
def gateB (n : Net) (k : Nat) : Bool := match n.ps[k]? with
  | some p => p.gate
  | none => false
def gatesOn (n : Net) (w : List Nat) : List Nat := w.filter (gateB n)
theorem gates_on_eq {n : Net} {w : List Nat} (h : ∀ k ∈ w, k < n.ps.length) (hl : w.length ≤ 1000) : m_gates_on [.val n.D, .val (.tuple (nD w))] = M.ok (.own (.lst (nD (gatesOn n w))), [some (.val n.D), some (.val (.tuple (nD w)))]) := by
  have x1 : lcL (gtName 2) (eT (e2 ixD (e2 ixD (e2 ixD (eVar 0) (eC (.int 1))) (eVar 2)) (eC (.int 5)))) (eVar 2) [2] (nD w) [] [some (.val n.D), some (.val (.tuple (nD w))), none] = some (.ok (nD (gatesOn n w), [some (.val n.D), some (.val (.tuple (nD w))), none])) := by
    have key := lcL_filt (gt := gtName 2) (ft := eT (e2 ixD (e2 ixD (e2 ixD (eVar 0) (eC (.int 1))) (eVar 2)) (eC (.int 5)))) (fe := eVar 2) (vs := [2]) (env := [some (.val n.D), some (.val (.tuple (nD w))), none]) (h := fun d => match d with
      | .int i => gateB n i.toNat
      | _ => false) (ds := nD w) (fun d hd => by
        obtain ⟨k, hk, rfl⟩ := List.mem_map.mp hd
        have hk' := h k hk
        have e := pick_p n hk'
        have g : gateB n k = n.ps[k].gate := by unfold gateB; rw [List.getElem?_eq_getElem hk']
        have y1 : n.D = .tuple [.tuple (n.js.map Joint.D), .tuple (n.ps.map Pipe.D)] := rfl
        cases q : n.ps[k].gate <;> simp [y1, iD, e, Pipe.D, g, q]) (by simp; omega)
    rw [key]
    congr 3
    unfold gatesOn nD
    rw [List.filter_map]
    rfl
  simp [m_gates_on, f_gates_on, x1]
/-! ### ways -/
def waysP (n : Net) (S : List Nat) (place cur : Nat) (rec : List Nat → List Nat → List (List Nat)) (way seen : List Nat) (k : Nat) (p : Pipe) : List (List Nat) := match endFrom p cur with
  | some t => if k ∉ S ∧ t ∉ seen then (if t = place then [way ++ [k]] else if n.place t = true then rec (way ++ [k]) (seen ++ [t]) else []) else []
  | none => []
def waysA (n : Net) (S : List Nat) (place cur : Nat) (rec : List Nat → List Nat → List (List Nat)) (way seen : List Nat) : Nat → List Pipe → List (List Nat)
  | _, [] => []
  | k, p :: ps => waysP n S place cur rec way seen k p ++ waysA n S place cur rec way seen (k + 1) ps
def waysF (n : Net) (S : List Nat) (place : Nat) : Nat → List Nat → List Nat → List (List Nat)
  | 0, _, _ => []
  | m + 1, way, seen => waysA n S place (seen.getLast?.getD 0) (waysF n S place m) way seen 0 n.ps
/-- few of them -/
def liveB (seen : List Nat) (p : Pipe) : Bool := !(seen.contains p.a) && !(seen.contains p.b)
theorem two_pow (d l : Nat) : d * 2 ^ l ≤ 2 ^ (d + l) := by
  rw [Nat.pow_add]
  exact Nat.mul_le_mul_right _ (Nat.le_of_lt Nat.lt_two_pow_self)
theorem waysA_len (n : Net) (S : List Nat) (place cur B : Nat) (rec : List Nat → List Nat → List (List Nat)) (way seen : List Nat) (pre : List Nat) (hs : seen = pre ++ [cur]) (hcp : cur ∉ pre) (hB : 1 ≤ B) (hr : ∀ k t, t ∉ seen → (rec (way ++ [k]) (seen ++ [t])).length ≤ B) : ∀ (ps : List Pipe) (k : Nat),
    (waysA n S place cur rec way seen k ps).length ≤ (ps.countP fun p => liveB pre p && !liveB seen p) * B
  | [], k => by simp [waysA]
  | p :: ps, k => by
    have ih := waysA_len n S place cur B rec way seen pre hs hcp hB hr ps (k + 1)
    have h1 : (waysP n S place cur rec way seen k p).length ≤ (if (liveB pre p && !liveB seen p) = true then 1 else 0) * B := by
      unfold waysP
      cases q : endFrom p cur with
      | none => simp
      | some t =>
        dsimp only
        split
        · rename_i hc
          have hpre : ∀ x, x ∈ pre → x ∈ seen := fun x hx => by rw [hs]; simp [hx]
          have hcur : cur ∈ seen := by rw [hs]; simp
          have lv : (liveB pre p && !liveB seen p) = true := by
            unfold endFrom at q
            have ht : t ∉ pre := fun z => hc.2 (hpre t z)
            split at q
            · rename_i ha
              cases q
              unfold liveB
              simp [ha, hcp, ht, hcur]
            · split at q
              · rename_i hb
                cases q
                unfold liveB
                simp [hb.1, hcp, ht, hcur]
              · cases q
          rw [if_pos lv, Nat.one_mul]
          split
          · simpa using hB
          · split
            · exact hr k t hc.2
            · simp
        · simp
    simp only [waysA, List.length_append, List.countP_cons, Nat.add_mul]
    omega
theorem countP_sub {α : Type} {p q : α → Bool} (h : ∀ x, q x = true → p x = true) : ∀ l : List α, (l.countP fun x => p x && !q x) + l.countP q = l.countP p
  | [] => by simp
  | a :: l => by
    have ih := countP_sub h l
    simp only [List.countP_cons]
    have := h a
    cases h1 : q a <;> cases h2 : p a <;> simp_all <;> omega
theorem live_sub {pre seen : List Nat} (h : ∀ x ∈ pre, x ∈ seen) (p : Pipe) (l : liveB seen p = true) : liveB pre p = true := by
  unfold liveB at *
  simp at *
  exact ⟨fun z => l.1 (h _ z), fun z => l.2 (h _ z)⟩
theorem waysF_len (n : Net) (S : List Nat) (place : Nat) : ∀ (m : Nat) (way pre : List Nat) (cur : Nat), (pre ++ [cur]).Nodup → (waysF n S place m way (pre ++ [cur])).length ≤ 2 ^ n.ps.countP (liveB pre)
  | 0, way, pre, cur, _ => by simp [waysF]
  | m + 1, way, pre, cur, h => by
    have hcp : cur ∉ pre := fun z => by
      rw [List.nodup_append] at h
      exact h.2.2 cur z cur (by simp) rfl
    have h1 := waysA_len n S place cur (2 ^ n.ps.countP (liveB (pre ++ [cur]))) (waysF n S place m) way (pre ++ [cur]) pre rfl hcp Nat.one_le_two_pow (fun k t ht => waysF_len n S place m (way ++ [k]) (pre ++ [cur]) t (by
      rw [List.nodup_append]
      refine ⟨h, by simp, fun a ha b hb => ?_⟩
      simp at hb
      subst hb
      intro e
      subst e
      exact ht ha)) n.ps 0
    have h2 := countP_sub (p := liveB pre) (q := liveB (pre ++ [cur])) (fun x hx => live_sub (fun y hy => by simp [hy]) x hx) n.ps
    have h3 := two_pow (n.ps.countP fun p => liveB pre p && !liveB (pre ++ [cur]) p) (n.ps.countP (liveB (pre ++ [cur])))
    rw [h2] at h3
    have e : waysF n S place (m + 1) way (pre ++ [cur]) = waysA n S place cur (waysF n S place m) way (pre ++ [cur]) 0 n.ps := by
      simp [waysF]
    rw [e]
    exact Nat.le_trans h1 h3
end WH
set_option Elab.async false
set_option linter.all false
set_option maxRecDepth 100000
set_option maxHeartbeats 4000000
namespace WH
open PySem PySem.Spec PyProof.Rows L2 DL He
def wayU (mR : MF) : FS := (seqF (asgF 8 (callV m_end_from [] (aCons (eVar 7) (aCons (e2 ixD (eVar 4) (e1 negD (eC (.int 1)))) aNil))))
    (ifF (tAndF (eT (e2 ninD (eVar 6) (eVar 1))) (tAndF (eT (e2 isntD (eVar 8) (eC .none))) (eT (e2 ninD (eVar 8) (eVar 4))))) (ifF (eT (e2 eqD (eVar 8) (eVar 2))) (dropF (eApp 5 (e2 addD (eVar 3) (eTup (aCons (eVar 6) aNil))))) (ifF (eT (callV m_is_place [] (aCons (eVar 0) (aCons (eVar 8) aNil)))) (dropF (eExt 5 (callV mR [] (aCons (eVar 0) (aCons (eVar 1) (aCons (eVar 2) (aCons (e2 addD (eVar 3) (eTup (aCons (eVar 6) aNil))) (aCons (e2 addD (eVar 4) (eTup (aCons (eVar 8) aNil))) aNil)))))))) nilF)) nilF))
def wayE (n : Net) (S : List Nat) (place : Nat) (way seen : List Nat) (acc : List PyData) (t : EnvD) : EnvD := some (.val n.D) :: some (.val (.tuple (nD S))) :: some (.val (.int (place : Int))) :: some (.val (.tuple (nD way))) :: some (.val (.tuple (nD seen))) :: some (.own (.lst acc)) :: t
def R3 (t : EnvD) : Prop := t = [none, none, none] ∨ ∃ a b c, t = [some (.val a), some (.val b), some (.val c)]
theorem last_n (pre : List Nat) (cur : Nat) : atI (nD (pre ++ [cur])) (-1) = some (.int (cur : Int)) := by
  unfold atI ixN
  have h1 : ¬ (0 : Int) ≤ -1 := by omega
  have h2 : -((nD (pre ++ [cur])).length : Int) ≤ -1 := by rw [nD_len]; simp; omega
  rw [if_neg h1, if_pos h2]
  have h3 : (-1 + ((nD (pre ++ [cur])).length : Int)).toNat = pre.length := by rw [nD_len]; simp; omega
  simp only [h3]
  rw [nD_app]
  simp [nD, iD]
theorem way_turn (n : Net) (mR : MF) (S : List Nat) (place cur : Nat) (rec : List Nat → List Nat → List (List Nat)) (way seen pre : List Nat) (hs : seen = pre ++ [cur]) (acc : List PyData) (t : EnvD) (k : Nat) (p : Pipe) (ht : R3 t)
    (hw : way.length ≤ 1000) (hse : seen.length ≤ 1000) (ha : acc.length + (waysP n S place cur rec way seen k p).length ≤ 1000)
    (hr : ∀ t, endFrom p cur = some t → k ∉ S → t ∉ seen → t ≠ place → n.place t = true → mR [.val n.D, .val (.tuple (nD S)), .val (.int (place : Int)), .val (.tuple (nD (way ++ [k]))), .val (.tuple (nD (seen ++ [t])))] =
      M.ok (.own (.lst ((rec (way ++ [k]) (seen ++ [t])).map lotD)), [some (.val n.D), some (.val (.tuple (nD S))), some (.val (.int (place : Int))), some (.val (.tuple (nD (way ++ [k])))), some (.val (.tuple (nD (seen ++ [t]))))])) :
    ∃ t', forStep (gtTup (gtCons (gtName 6) (gtCons (gtName 7) gtNil))) (wayU mR) (.tuple [.int (k : Int), p.D]) (wayE n S place way seen acc t) = M.ok (.nx (wayE n S place way seen (acc ++ (waysP n S place cur rec way seen k p).map lotD) t')) ∧ R3 t' := by
  have la : atI (nD seen) (-1) = some (.int (cur : Int)) := by rw [hs]; exact last_n pre cur
  have w1 : way.length + 1 ≤ 100000 := by omega
  have s1 : seen.length + 1 ≤ 100000 := by omega
  refine ⟨[some (.val (.int (k : Int))), some (.val p.D), some (.val (oD (endFrom p cur)))], ?_, .inr ⟨_, _, _, rfl⟩⟩
  have e := end_eq p cur
  unfold waysP at ha ⊢
  cases q : endFrom p cur with
  | none =>
    rw [q] at e
    by_cases hk : k ∈ S
    · rcases ht with rfl | ⟨a, b, c, rfl⟩ <;> simp [wayU, wayE, e, la, oD, hk]
    · rcases ht with rfl | ⟨a, b, c, rfl⟩ <;> simp [wayU, wayE, e, la, oD, hk]
  | some x =>
    rw [q] at e ha
    dsimp only at ha ⊢
    by_cases hk : k ∈ S
    · rcases ht with rfl | ⟨a, b, c, rfl⟩ <;> simp [wayU, wayE, e, la, oD, iD, hk]
    · by_cases hx : x ∈ seen
      · rcases ht with rfl | ⟨a, b, c, rfl⟩ <;> simp [wayU, wayE, e, la, oD, iD, hk, hx]
      · rw [if_pos ⟨hk, hx⟩] at ha ⊢
        by_cases hp : x = place
        · subst hp
          have a1 : acc.length < 100000 := by simp at ha; omega
          rcases ht with rfl | ⟨a, b, c, rfl⟩ <;> simp [wayU, wayE, e, la, oD, iD, hk, hx, w1, a1, lotD, nD_app, nD_one]
        · have hp' : ¬ (x : Int) = (place : Int) := by omega
          rw [if_neg hp] at ha ⊢
          cases hpl : n.place x with
          | false =>
            rcases ht with rfl | ⟨a, b, c, rfl⟩ <;> simp [wayU, wayE, e, la, oD, iD, hk, hx, beqF hp', place_eq, hpl]
          | true =>
            rw [hpl] at ha
            simp only [if_true] at ha ⊢
            have hm := hr x q hk hx hp hpl
            rw [nD_app, nD_app, nD_one, nD_one] at hm
            have a1 : acc.length + (rec (way ++ [k]) (seen ++ [x])).length ≤ 100000 := by omega
            rcases ht with rfl | ⟨a, b, c, rfl⟩ <;> simp [wayU, wayE, e, la, oD, iD, hk, hx, beqF hp', place_eq, hpl, w1, s1, hm, a1]
theorem way_walk (n : Net) (mR : MF) (S : List Nat) (place cur : Nat) (rec : List Nat → List Nat → List (List Nat)) (way seen pre : List Nat) (hs : seen = pre ++ [cur]) (hw : way.length ≤ 1000) (hse : seen.length ≤ 1000) : ∀ (ps : List Pipe) (k : Nat) (acc : List PyData) (t : EnvD), R3 t → acc.length + (waysA n S place cur rec way seen k ps).length ≤ 1000 →
    (∀ i p t, ps[i]? = some p → endFrom p cur = some t → k + i ∉ S → t ∉ seen → t ≠ place → n.place t = true → mR [.val n.D, .val (.tuple (nD S)), .val (.int (place : Int)), .val (.tuple (nD (way ++ [k + i]))), .val (.tuple (nD (seen ++ [t])))] =
      M.ok (.own (.lst ((rec (way ++ [k + i]) (seen ++ [t])).map lotD)), [some (.val n.D), some (.val (.tuple (nD S))), some (.val (.int (place : Int))), some (.val (.tuple (nD (way ++ [k + i])))), some (.val (.tuple (nD (seen ++ [t]))))])) →
    ∃ t', forL (gtTup (gtCons (gtName 6) (gtCons (gtName 7) gtNil))) (wayU mR) (numL k (ps.map Pipe.D)) (wayE n S place way seen acc t) = M.ok (.nx (wayE n S place way seen (acc ++ (waysA n S place cur rec way seen k ps).map lotD) t')) ∧ R3 t'
  | [], k, acc, t, ht, _, _ => ⟨t, by simp [numL, waysA], ht⟩
  | p :: ps, k, acc, t, ht, ha, hr => by
    simp only [waysA, List.length_append] at ha
    obtain ⟨t1, x1, h1⟩ := way_turn n mR S place cur rec way seen pre hs acc t k p ht hw hse (by omega) (fun t => hr 0 p t rfl)
    obtain ⟨t2, x2, h2⟩ := way_walk n mR S place cur rec way seen pre hs hw hse ps (k + 1) (acc ++ (waysP n S place cur rec way seen k p).map lotD) t1 h1 (by simp only [List.length_append, List.length_map]; omega) (fun i p' t hp => by
      have := hr (i + 1) p' t (by simpa using hp)
      rw [show k + (i + 1) = k + 1 + i from by omega] at this
      exact this)
    refine ⟨t2, ?_, h2⟩
    simp only [List.map_cons, numL, forL_step, x1, waysA, List.map_append]
    rw [← List.append_assoc]
    exact x2
theorem ways_eq {n : Net} (ok : n.Ok) (S : List Nat) (place : Nat) : ∀ (m : Nat) (way pre : List Nat) (cur : Nat), (pre ++ [cur]).Nodup → (∀ x ∈ pre ++ [cur], x < n.js.length) → n.js.length < m + (pre ++ [cur]).length → way.length + m ≤ 1000 →
    m_ways_from m [.val n.D, .val (.tuple (nD S)), .val (.int (place : Int)), .val (.tuple (nD way)), .val (.tuple (nD (pre ++ [cur])))] =
      M.ok (.own (.lst ((waysF n S place m way (pre ++ [cur])).map lotD)), [some (.val n.D), some (.val (.tuple (nD S))), some (.val (.int (place : Int))), some (.val (.tuple (nD way))), some (.val (.tuple (nD (pre ++ [cur]))))])
  | 0, way, pre, cur, h, hl, hm, _ => by
    have := nodup_len h hl
    omega
  | m + 1, way, pre, cur, h, hl, hm, hw => by
    have len := nodup_len h hl
    have n7 := ok.j1
    have tot := waysF_len n S place (m + 1) way pre cur h
    have e : waysF n S place (m + 1) way (pre ++ [cur]) = waysA n S place cur (waysF n S place m) way (pre ++ [cur]) 0 n.ps := by simp [waysF]
    have p9 : n.ps.countP (liveB pre) ≤ 9 := Nat.le_trans List.countP_le_length ok.p1
    have p2 : 2 ^ n.ps.countP (liveB pre) ≤ 2 ^ 9 := Nat.pow_le_pow_right (by decide) p9
    rw [e] at tot ⊢
    obtain ⟨t, x, _⟩ := way_walk n (m_ways_from m) S place cur (waysF n S place m) way (pre ++ [cur]) pre rfl (by omega) (by omega) n.ps 0 [] [none, none, none] (.inl rfl) (by simp only [List.length_nil]; omega) (fun i p t hp he hk ht hpl hpp => by
      have t7 := end_lt ok hp he
      exact ways_eq ok S place m (way ++ [0 + i]) (pre ++ [cur]) t (by
        rw [List.nodup_append]
        refine ⟨h, by simp, fun a ha b hb => ?_⟩
        simp at hb
        subst hb
        intro e
        subst e
        exact ht ha) (fun x hx => by
          rcases List.mem_append.mp hx with g | g
          · exact hl x g
          · simp at g; subst g; exact t7) (by simp only [List.length_append, List.length_singleton] at hm ⊢; omega) (by simp only [List.length_append, List.length_singleton]; omega))
    have y1 : n.D = .tuple [.tuple (n.js.map Joint.D), .tuple (n.ps.map Pipe.D)] := rfl
    have h0 : f_ways_from (m_ways_from m) ([Sl.val n.D, .val (.tuple (nD S)), .val (.int (place : Int)), .val (.tuple (nD way)), .val (.tuple (nD (pre ++ [cur])))].map some ++ List.replicate 4 none) = M.ok (.rt (.al 5) (wayE n S place way (pre ++ [cur]) ((waysA n S place cur (waysF n S place m) way (pre ++ [cur]) 0 n.ps).map lotD) t)) := by
      show seqF (asgF 5 (eLst aNil)) (seqF (forF (argI enumI (aCons (e2 ixD (eVar 0) (eC (.int 1))) aNil)) (gtTup (gtCons (gtName 6) (gtCons (gtName 7) gtNil))) (wayU (m_ways_from m))) (retF (eVar 5))) _ = _
      rw [seq_nx (env1 := wayE n S place way (pre ++ [cur]) [] [none, none, none]) (by simp [wayE])]
      have z : argI enumI (aCons (e2 ixD (eVar 0) (eC (.int 1))) aNil) (wayE n S place way (pre ++ [cur]) [] [none, none, none]) = M.ok (numL 0 (n.ps.map Pipe.D), wayE n S place way (pre ++ [cur]) [] [none, none, none]) := by simp [wayE, y1]
      rw [← for_run z] at x
      rw [seq_nx x]
      simp [wayE]
    show bodyF 5 9 (f_ways_from (m_ways_from m)) _ = _
    rw [body_rt (by rfl) h0]
    simp [wayE]
end WH
set_option Elab.async false
set_option linter.all false
set_option maxRecDepth 100000
set_option maxHeartbeats 4000000
namespace WH
open PySem PySem.Spec PyProof.Rows L2 DL He
def waysTo (n : Net) (S : List Nat) (place : Nat) : List (List Nat) := (begins n).flatMap fun j => waysF n S place 9 [] [j]
theorem waysF_512 {n : Net} (ok : n.Ok) (S : List Nat) (place j : Nat) : (waysF n S place 9 [] [j]).length ≤ 512 := by
  have tot := waysF_len n S place 9 [] [] j (by simp)
  have p9 : n.ps.countP (liveB []) ≤ 9 := Nat.le_trans List.countP_le_length ok.p1
  have p2 : 2 ^ n.ps.countP (liveB []) ≤ 2 ^ 9 := Nat.pow_le_pow_right (by decide) p9
  simp only [List.nil_append] at tot
  omega
theorem ways_to_walk {n : Net} (ok : n.Ok) (S : List Nat) (place : Nat) : ∀ (bs : List Nat) (acc : List PyData), (∀ j ∈ bs, j < n.js.length) → acc.length + 512 * bs.length ≤ 100000 →
    lc2L (gtName 3) yesF (seqI (callV (m_ways_from 9) [] (aCons (eVar 0) (aCons (eVar 1) (aCons (eVar 2) (aCons (eTup aNil) (aCons (eTup (aCons (eVar 3) aNil)) aNil))))))) (gtName 4) yesF (eVar 4) [3, 4] [4] (nD bs) acc [some (.val n.D), some (.val (.tuple (nD S))), some (.val (.int (place : Int))), none, none] =
      M.ok (acc ++ (bs.flatMap fun j => waysF n S place 9 [] [j]).map lotD, [some (.val n.D), some (.val (.tuple (nD S))), some (.val (.int (place : Int))), none, none])
  | [], acc, _, _ => by simp [lc2L]
  | j :: bs, acc, hb, hl => by
    have n7 := ok.j1
    have jl := hb j (by simp)
    have e := ways_eq ok S place 9 [] [] j (by simp) (fun x hx => by simp at hx; subst hx; exact jl) (by simp; omega) (by simp)
    have l5 := waysF_512 ok S place j
    simp only [List.length_cons] at hl
    have inner : lcL (gtName 4) yesF (eVar 4) [4] ((waysF n S place 9 [] [j]).map lotD) acc [some (.val n.D), some (.val (.tuple (nD S))), some (.val (.int (place : Int))), some (.val (.int (j : Int))), none] =
        M.ok (acc ++ (waysF n S place 9 [] [j]).map lotD, [some (.val n.D), some (.val (.tuple (nD S))), some (.val (.int (place : Int))), some (.val (.int (j : Int))), none]) := by
      rw [lcL_pure (h := fun d => some d) (fun d hd => by simp) (by simp; omega)]
      simp
    have ih := ways_to_walk ok S place bs (acc ++ (waysF n S place 9 [] [j]).map lotD) (fun x hx => hb x (by simp [hx])) (by simp only [List.length_append, List.length_map]; omega)
    simp only [List.nil_append, nD_nil, nD_one] at e
    rw [nD_cons]
    unfold lc2L
    simp [iD, e, inner, ih]
theorem ways_to_eq {n : Net} (ok : n.Ok) (S : List Nat) (place : Nat) : m_ways_to [.val n.D, .val (.tuple (nD S)), .val (.int (place : Int))] = M.ok (.own (.lst ((waysTo n S place).map lotD)), [some (.val n.D), some (.val (.tuple (nD S))), some (.val (.int (place : Int)))]) := by
  have b7 : (begins n).length ≤ 7 := by
    have : (begins n).length ≤ n.js.length := by
      unfold begins
      exact Nat.le_trans (List.length_filter_le _ _) (by simp)
    have := ok.j1
    omega
  have x := ways_to_walk ok S place (begins n) [] (fun j hj => begins_lt hj) (by simp; omega)
  simp only [List.nil_append] at x
  simp [m_ways_to, f_ways_to, begins_eq n ok, x, waysTo]
/-! ### ways apart -/
def disB (n : Net) (w o : List Nat) : Bool := decide (∀ k, k ∈ gatesOn n o → ¬ k ∈ gatesOn n w)
def apIn (n : Net) (f : List (List Nat) → Option (List (List Nat))) : List (List Nat) → Option (List (List Nat))
  | [] => none
  | w :: ws => match f (ws.filter (disB n w)) with
    | some r => some (w :: r)
    | none => apIn n f ws
def apartF (n : Net) : Nat → List (List Nat) → Option (List (List Nat))
  | 0 => fun _ => some []
  | k + 1 => apIn n (apartF n k)
def apD : Option (List (List Nat)) → PyData
  | some ws => .tuple (ws.map lotD)
  | none => .none
theorem apartF_len (n : Net) : ∀ (k : Nat) (ws r : List (List Nat)), apartF n k ws = some r → r.length = k ∧ ∀ w ∈ r, w ∈ ws
  | 0, ws, r, h => by simp [apartF] at h; subst h; simp
  | k + 1, ws, r, h => by
    have go : ∀ ws r, apIn n (apartF n k) ws = some r → r.length = k + 1 ∧ ∀ w ∈ r, w ∈ ws := by
      intro ws
      induction ws with
      | nil => intro r h; simp [apIn] at h
      | cons w ws ih =>
        intro r h
        simp only [apIn] at h
        cases q : apartF n k (ws.filter (disB n w)) with
        | none =>
          rw [q] at h
          obtain ⟨h1, h2⟩ := ih r h
          exact ⟨h1, fun x hx => by simp [h2 x hx]⟩
        | some r' =>
          rw [q] at h
          cases h
          obtain ⟨h1, h2⟩ := apartF_len n k _ _ q
          refine ⟨by simp [h1], fun x hx => ?_⟩
          rcases List.mem_cons.mp hx with rfl | hx
          · simp
          · have := h2 x hx
            simp at this
            simp [this.1]
    exact go ws r h
def apU (mR : MF) : FS := (seqF (asgF 5 (callV m_gates_on [] (aCons (eVar 0) (aCons (eVar 4) aNil))))
    (seqF (asgF 6 (lcF (seqI (eSl (eVar 1) (oSome (e2 addD (eVar 3) (eC (.int 1)))) oNone)) (gtName 8) (eT (e2 eqD (lcF (seqI (callV m_gates_on [] (aCons (eVar 0) (aCons (eVar 8) aNil)))) (gtName 9) (eT (e2 inD (eVar 9) (eVar 5))) (eVar 9) [9]) (eLst aNil))) (eVar 8) [8]))
    (seqF (asgF 7 (callV mR [] (aCons (eVar 0) (aCons (eVar 6) (aCons (e2 subD (eVar 2) (eC (.int 1))) aNil)))))
    (ifF (eT (e2 isntD (eVar 7) (eC .none))) (retF (e2 addD (eTup (aCons (eVar 4) aNil)) (eVar 7))) nilF))))
def waysD (ws : List (List Nat)) : PyData := .list (ws.map lotD)
def WayOk (n : Net) (w : List Nat) : Prop := w.length ≤ 100 ∧ ∀ k ∈ w, k < n.ps.length
/-- the slots behind many -/
def R7 (t : EnvD) : Prop := t = [none, none, none, none, none, none, none] ∨ ∃ a b g l c, t = [some (.val a), some (.val b), some g, some l, some (.val c), none, none] ∧ (∃ x, g = .own (.lst x) ∨ g = .val (.list x)) ∧ (∃ x, l = .own (.lst x) ∨ l = .val (.list x))
theorem ap_turn (n : Net) (mR : MF) (f : List (List Nat) → Option (List (List Nat))) (k : Nat) (full pre ws : List (List Nat)) (w : List Nat) (he : full = pre ++ w :: ws) (t : EnvD) (ht : R7 t) (hok : ∀ x ∈ full, WayOk n x) (hl : full.length ≤ 5000)
    (hm : mR [.val n.D, .val (waysD (ws.filter (disB n w))), .val (.int (k : Int))] = M.ok (.val (apD (f (ws.filter (disB n w)))), [some (.val n.D), some (.val (waysD (ws.filter (disB n w)))), some (.val (.int (k : Int)))]))
    (hf : ∀ r, f (ws.filter (disB n w)) = some r → r.length ≤ 1000) :
    ∃ t', forStep (gtTup (gtCons (gtName 3) (gtCons (gtName 4) gtNil))) (apU mR) (.tuple [.int (pre.length : Int), lotD w]) (some (.val n.D) :: some (.val (waysD full)) :: some (.val (.int ((k + 1 : Nat) : Int))) :: t) =
      M.ok (srch (fun r => .val (.tuple ((w :: r).map lotD))) (some (.val n.D) :: some (.val (waysD full)) :: some (.val (.int ((k + 1 : Nat) : Int))) :: t') (f (ws.filter (disB n w)))) ∧ R7 t' := by
  have hw := hok w (by rw [he]; simp)
  have gw := gates_on_eq hw.2 (by have := hw.1; omega)
  have hc : DL.cutD (full.map lotD) (some ((pre.length : Int) + 1)) none = ws.map lotD := by
    have := cut_from (full.map lotD) (pre.length + 1)
    have hd : (full.map lotD).drop (pre.length + 1) = ws.map lotD := by
      rw [he, ← List.map_drop]
      simp
    rw [hd] at this
    exact_mod_cast this
  have hk : ((k : Int) + 1 - 1) = k := by omega
  have inner : ∀ (o : List Nat), (∀ x ∈ o, x < n.ps.length) → o.length ≤ 100 → ∀ (c3 c4 c7 : Option Sl) (c6 : Option Sl), lcL (gtName 9) (eT (e2 inD (eVar 9) (eVar 5))) (eVar 9) [9] (nD (gatesOn n o)) [] [some (.val n.D), some (.val (waysD full)), some (.val (.int ((k : Int) + 1))), c3, c4, some (.own (.lst (nD (gatesOn n w)))), c6, c7, some (.val (.tuple (nD o))), none] =
      some (.ok (nD ((gatesOn n o).filter fun x => decide (x ∈ gatesOn n w)), [some (.val n.D), some (.val (waysD full)), some (.val (.int ((k : Int) + 1))), c3, c4, some (.own (.lst (nD (gatesOn n w)))), c6, c7, some (.val (.tuple (nD o))), none])) := fun o ho hl c3 c4 c7 c6 => by
    refine lcL_typF (enc := iD) (q := fun x => decide (x ∈ gatesOn n w)) (l := gatesOn n o) (fun x hx => ?_) ?_
    · by_cases hm : x ∈ gatesOn n w <;> simp [iD, hm]
    · have : (gatesOn n o).length ≤ o.length := List.length_filter_le _ _
      simp; omega
  have outer : ∀ (c3 c4 c7 c6 : Option Sl), lcL (gtName 8) (eT (e2 eqD (lcF (seqI (callV m_gates_on [] (aCons (eVar 0) (aCons (eVar 8) aNil)))) (gtName 9) (eT (e2 inD (eVar 9) (eVar 5))) (eVar 9) [9]) (eLst aNil))) (eVar 8) [8] (ws.map lotD) [] [some (.val n.D), some (.val (waysD full)), some (.val (.int ((k : Int) + 1))), c3, c4, some (.own (.lst (nD (gatesOn n w)))), c6, c7, none, none] =
      some (.ok ((ws.filter (disB n w)).map lotD, [some (.val n.D), some (.val (waysD full)), some (.val (.int ((k : Int) + 1))), c3, c4, some (.own (.lst (nD (gatesOn n w)))), c6, c7, none, none])) := fun c3 c4 c7 c6 => by
    refine lcL_typF (enc := lotD) (q := disB n w) (l := ws) (fun o ho => ?_) (by simp; rw [he] at hl; simp at hl; omega)
    have oo := hok o (by rw [he]; simp [ho])
    have go := gates_on_eq oo.2 (by have := oo.1; omega)
    have ino := inner o oo.2 oo.1 c3 c4 c7 c6
    have eb : decide ((gatesOn n o).filter (fun x => decide (x ∈ gatesOn n w)) = []) = disB n w o := by
      unfold disB
      rw [Bool.eq_iff_iff]
      simp [List.filter_eq_nil_iff]
    have eb2 : decide (∀ k, k ∈ gatesOn n o → ¬ k ∈ gatesOn n w) = disB n w o := rfl
    cases q : disB n w o <;> rw [q] at eb eb2 <;> simp [lotD, go, ino, eb, eb2]
  refine ⟨[some (.val (.int (pre.length : Int))), some (.val (lotD w)), some (.own (.lst (nD (gatesOn n w)))), some (.val (waysD (ws.filter (disB n w)))), some (.val (apD (f (ws.filter (disB n w))))), none, none], ?_, .inr ⟨_, _, _, _, _, rfl, ⟨_, .inl rfl⟩, ⟨_, .inr rfl⟩⟩⟩
  have z1 : ∃ g l c, forStep (gtTup (gtCons (gtName 3) (gtCons (gtName 4) gtNil))) (apU mR) (.tuple [.int (pre.length : Int), lotD w]) (some (.val n.D) :: some (.val (waysD full)) :: some (.val (.int ((k + 1 : Nat) : Int))) :: t) = apU mR [some (.val n.D), some (.val (waysD full)), some (.val (.int ((k : Int) + 1))), some (.val (.int (pre.length : Int))), some (.val (lotD w)), g, l, c, none, none] ∧
      (g = none ∨ ∃ x, g = some (.own (.lst x)) ∨ g = some (.val (.list x))) ∧ (l = none ∨ ∃ x, l = some (.own (.lst x)) ∨ l = some (.val (.list x))) ∧ Vac c := by
    rcases ht with rfl | ⟨a, b, g, l, c, rfl, ⟨x, hx⟩, ⟨y, hy⟩⟩
    · exact ⟨none, none, none, by simp, .inl rfl, .inl rfl, .inl rfl⟩
    · exact ⟨some g, some l, some (.val c), by simp, .inr ⟨x, by rcases hx with rfl | rfl <;> simp⟩, .inr ⟨y, by rcases hy with rfl | rfl <;> simp⟩, .inr ⟨c, rfl⟩⟩
  obtain ⟨g, l, c, z, hg, hll, hcc⟩ := z1
  rw [z]
  unfold apU
  rw [seq_nx (env1 := [some (.val n.D), some (.val (waysD full)), some (.val (.int ((k : Int) + 1))), some (.val (.int (pre.length : Int))), some (.val (lotD w)), some (.own (.lst (nD (gatesOn n w)))), l, c, none, none]) (by
    rcases hg with rfl | ⟨x, rfl | rfl⟩ <;> simp [lotD, gw])]
  have z2 := outer (some (.val (.int (pre.length : Int)))) (some (.val (lotD w))) c l
  rw [seq_nx (env1 := [some (.val n.D), some (.val (waysD full)), some (.val (.int ((k : Int) + 1))), some (.val (.int (pre.length : Int))), some (.val (lotD w)), some (.own (.lst (nD (gatesOn n w)))), some (.own (.lst ((ws.filter (disB n w)).map lotD))), c, none, none]) (by
    rcases hll with rfl | ⟨x, rfl | rfl⟩ <;> (unfold waysD at z2 ⊢; simp [hc, z2]))]
  rw [seq_nx (env1 := [some (.val n.D), some (.val (waysD full)), some (.val (.int ((k : Int) + 1))), some (.val (.int (pre.length : Int))), some (.val (lotD w)), some (.own (.lst (nD (gatesOn n w)))), some (.val (waysD (ws.filter (disB n w)))), some (.val (apD (f (ws.filter (disB n w))))), none, none]) (by
    unfold waysD at hm ⊢
    rcases hcc with rfl | ⟨x, rfl⟩ <;> cases hq : f (ws.filter (disB n w)) <;> rw [hq] at hm <;> simp [hk, hm, apD])]
  cases q : f (ws.filter (disB n w)) with
  | none => simp [apD]
  | some r =>
    have := hf r q
    have h2 : 1 + r.length ≤ 100000 := by omega
    simp [apD, h2]
theorem ap_walk (n : Net) (mR : MF) (f : List (List Nat) → Option (List (List Nat))) (k : Nat) (full : List (List Nat)) (hok : ∀ x ∈ full, WayOk n x) (hl : full.length ≤ 5000) 
    (hf : ∀ ws r, f ws = some r → r.length ≤ 1000) : ∀ (ws pre : List (List Nat)), full = pre ++ ws →
    (∀ ls : List (List Nat), (∀ x ∈ ls, x ∈ full) → ls.length ≤ full.length → mR [.val n.D, .val (waysD ls), .val (.int (k : Int))] = M.ok (.val (apD (f ls)), [some (.val n.D), some (.val (waysD ls)), some (.val (.int (k : Int)))])) → ∀ t, R7 t →
    ∃ t', forL (gtTup (gtCons (gtName 3) (gtCons (gtName 4) gtNil))) (apU mR) (numL pre.length (ws.map lotD)) (some (.val n.D) :: some (.val (waysD full)) :: some (.val (.int ((k + 1 : Nat) : Int))) :: t) =
      M.ok (srch (fun r => .val (.tuple (r.map lotD))) (some (.val n.D) :: some (.val (waysD full)) :: some (.val (.int ((k + 1 : Nat) : Int))) :: t') (apIn n f ws)) ∧ R7 t'
  | [], pre, e, hm, t, ht => ⟨t, by simp [numL, apIn], ht⟩
  | w :: ws, pre, e, hm, t, ht => by
    have sub : ∀ x ∈ ws.filter (disB n w), x ∈ full := fun x hx => by
      rw [List.mem_filter] at hx
      rw [e]
      simp [hx.1]
    have sl : (ws.filter (disB n w)).length ≤ full.length := by
      have := List.length_filter_le (disB n w) ws
      rw [e]
      simp
      omega
    obtain ⟨t1, x1, h1⟩ := ap_turn n mR f k full pre ws w e t ht hok hl (hm _ sub sl) (hf _)
    simp only [List.map_cons, numL, forL_step, x1, apIn]
    cases q : f (ws.filter (disB n w)) with
    | some r => exact ⟨t1, by simp, h1⟩
    | none =>
      obtain ⟨t2, x2, h2⟩ := ap_walk n mR f k full hok hl hf ws (pre ++ [w]) (by simp [e]) hm t1 h1
      refine ⟨t2, ?_, h2⟩
      rw [show pre.length + 1 = (pre ++ [w]).length by simp]
      exact x2
theorem apart_eq (n : Net) : ∀ (fuel k : Nat) (ws : List (List Nat)), (∀ x ∈ ws, WayOk n x) → ws.length ≤ 5000 → k < fuel → k ≤ 100 →
    m_apart_ways fuel [.val n.D, .val (waysD ws), .val (.int (k : Int))] = M.ok (.val (apD (apartF n k ws)), [some (.val n.D), some (.val (waysD ws)), some (.val (.int (k : Int)))])
  | 0, k, ws, _, _, h, _ => by omega
  | fuel + 1, 0, ws, hok, hl, h, _ => by
    simp [m_apart_ways, f_apart_ways, apartF, apD]
  | fuel + 1, k + 1, ws, hok, hl, h, h100 => by
    obtain ⟨t, x, ht⟩ := ap_walk n (m_apart_ways fuel) (apartF n k) k ws hok hl (fun ls r hr => by rw [(apartF_len n k ls r hr).1]; omega) ws [] rfl (fun ls hs hle => apart_eq n fuel k ls (fun x hx => hok x (hs x hx)) (by omega) (by omega) (by omega)) [none, none, none, none, none, none, none] (.inl rfl)
    have h0 : ¬ ((k : Int) + 1 = 0) := by omega
    have z : argI enumI (aCons (eVar 1) aNil) (some (.val n.D) :: some (.val (waysD ws)) :: some (.val (.int ((k + 1 : Nat) : Int))) :: [none, none, none, none, none, none, none]) = M.ok (numL 0 (ws.map lotD), some (.val n.D) :: some (.val (waysD ws)) :: some (.val (.int ((k + 1 : Nat) : Int))) :: [none, none, none, none, none, none, none]) := by simp [waysD]
    simp only [List.length_nil] at x
    rw [← for_run z] at x
    have y0 : ifF (eT (e2 eqD (eVar 2) (eC (.int 0)))) (retF (eTup aNil)) nilF (some (.val n.D) :: some (.val (waysD ws)) :: some (.val (.int ((k + 1 : Nat) : Int))) :: [none, none, none, none, none, none, none]) = M.ok (.nx (some (.val n.D) :: some (.val (waysD ws)) :: some (.val (.int ((k + 1 : Nat) : Int))) :: [none, none, none, none, none, none, none])) := by simp [beqF h0]
    have h1 : f_apart_ways (m_apart_ways fuel) ([Sl.val n.D, .val (waysD ws), .val (.int ((k + 1 : Nat) : Int))].map some ++ List.replicate 7 none) = M.ok (.rt (.val (apD (apartF n (k + 1) ws))) (some (.val n.D) :: some (.val (waysD ws)) :: some (.val (.int ((k + 1 : Nat) : Int))) :: t)) := by
      show seqF (ifF (eT (e2 eqD (eVar 2) (eC (.int 0)))) (retF (eTup aNil)) nilF) (seqF (forF (argI enumI (aCons (eVar 1) aNil)) (gtTup (gtCons (gtName 3) (gtCons (gtName 4) gtNil))) (apU (m_apart_ways fuel))) (retF (eC .none))) (some (.val n.D) :: some (.val (waysD ws)) :: some (.val (.int ((k + 1 : Nat) : Int))) :: [none, none, none, none, none, none, none]) = _
      rw [seq_nx y0]
      rw [show apartF n (k + 1) ws = apIn n (apartF n k) ws from rfl]
      cases q : apIn n (apartF n k) ws with
      | none =>
        rw [q] at x
        rw [seq_nx x]
        rfl
      | some r =>
        rw [q] at x
        rw [seq_rt x]
        rfl
    show bodyF 3 10 (f_apart_ways (m_apart_ways fuel)) _ = _
    rw [body_rt (by rfl) h1]
    rfl
end WH
set_option Elab.async false
set_option linter.all false
set_option maxRecDepth 100000
set_option maxHeartbeats 4000000
namespace WH
open PySem PySem.Spec PyProof.Rows L2 DL He
/-! ### what a way is -/
inductive Path (n : Net) (S : List Nat) (place : Nat) : Nat → List Nat → Prop
  | one {cur k : Nat} : Leads n S k cur place → Path n S place cur [k]
  | more {cur k t : Nat} {w : List Nat} : Leads n S k cur t → Path n S place t w → Path n S place cur (k :: w)
theorem Leads.lt {n : Net} {S : List Nat} {k x y : Nat} (h : Leads n S k x y) : k < n.ps.length := by
  obtain ⟨p, h1, _⟩ := h
  exact (List.getElem?_eq_some_iff.mp h1).1
theorem Path.lt {n : Net} {S : List Nat} {place cur : Nat} {w : List Nat} (h : Path n S place cur w) : w ≠ [] ∧ ∀ k ∈ w, k < n.ps.length ∧ k ∉ S := by
  induction h with
  | one l =>
    refine ⟨by simp, fun k hk => ?_⟩
    simp at hk
    subst hk
    obtain ⟨p, _, h2, _⟩ := id l
    exact ⟨l.lt, h2⟩
  | more l _ ih =>
    refine ⟨by simp, fun k hk => ?_⟩
    rcases List.mem_cons.mp hk with rfl | hk
    · obtain ⟨p, _, h2, _⟩ := id l
      exact ⟨l.lt, h2⟩
    · exact ih.2 k hk
theorem waysA_mem {n : Net} {S : List Nat} {place cur : Nat} {rec : List Nat → List Nat → List (List Nat)} {way seen w : List Nat} : ∀ {ps : List Pipe} {k : Nat}, w ∈ waysA n S place cur rec way seen k ps ↔ ∃ i p, ps[i]? = some p ∧ w ∈ waysP n S place cur rec way seen (k + i) p
  | [], k => by simp [waysA]
  | p :: ps, k => by
    simp only [waysA, List.mem_append, waysA_mem (ps := ps)]
    constructor
    · rintro (h | ⟨i, p', h1, h2⟩)
      · exact ⟨0, p, rfl, by simpa using h⟩
      · exact ⟨i + 1, p', by simpa using h1, by rw [show k + (i + 1) = k + 1 + i from by omega]; exact h2⟩
    · rintro ⟨i, p', h1, h2⟩
      cases i with
      | zero =>
        simp at h1
        subst h1
        exact .inl (by simpa using h2)
      | succ i => exact .inr ⟨i, p', by simpa using h1, by rw [show k + 1 + i = k + (i + 1) from by omega]; exact h2⟩
theorem waysP_mem {n : Net} {S : List Nat} {place cur k : Nat} {p : Pipe} {rec : List Nat → List Nat → List (List Nat)} {way seen w : List Nat} : w ∈ waysP n S place cur rec way seen k p ↔ ∃ t, endFrom p cur = some t ∧ k ∉ S ∧ t ∉ seen ∧ ((t = place ∧ w = way ++ [k]) ∨ (t ≠ place ∧ n.place t = true ∧ w ∈ rec (way ++ [k]) (seen ++ [t]))) := by
  unfold waysP
  cases q : endFrom p cur with
  | none => simp
  | some t =>
    dsimp only
    constructor
    · intro h
      split at h
      · rename_i hc
        refine ⟨t, rfl, hc.1, hc.2, ?_⟩
        split at h
        · rename_i hp
          simp at h
          exact .inl ⟨hp, h⟩
        · rename_i hp
          split at h
          · rename_i hq
            exact .inr ⟨hp, hq, h⟩
          · simp at h
      · simp at h
    · rintro ⟨t', e, h1, h2, h3⟩
      cases e
      rw [if_pos ⟨h1, h2⟩]
      rcases h3 with ⟨h3, h4⟩ | ⟨h3, h4, h5⟩
      · rw [if_pos h3]; simp [h4]
      · rw [if_neg h3, if_pos h4]; exact h5
theorem waysF_sound {n : Net} {S : List Nat} {place : Nat} : ∀ (m : Nat) (way pre : List Nat) (cur : Nat) (w : List Nat), w ∈ waysF n S place m way (pre ++ [cur]) → ∃ w', w = way ++ w' ∧ Path n S place cur w' ∧ w'.length ≤ m
  | 0, way, pre, cur, w, h => by simp [waysF] at h
  | m + 1, way, pre, cur, w, h => by
    have e : waysF n S place (m + 1) way (pre ++ [cur]) = waysA n S place cur (waysF n S place m) way (pre ++ [cur]) 0 n.ps := by simp [waysF]
    rw [e] at h
    obtain ⟨i, p, hp, h1⟩ := waysA_mem.mp h
    rw [Nat.zero_add] at h1
    obtain ⟨t, h2, h3, h4, h5⟩ := waysP_mem.mp h1
    rcases h5 with ⟨rfl, rfl⟩ | ⟨h6, h7, h8⟩
    · exact ⟨[i], rfl, .one ⟨p, hp, h3, h2⟩, by simp⟩
    · obtain ⟨w', rfl, g1, g2⟩ := waysF_sound m (way ++ [i]) (pre ++ [cur]) t w h8
      exact ⟨i :: w', by simp, .more ⟨p, hp, h3, h2⟩ g1, by simp; omega⟩
theorem waysTo_sound {n : Net} {S : List Nat} {place : Nat} {w : List Nat} (h : w ∈ waysTo n S place) : ∃ j ∈ begins n, Path n S place j w ∧ w.length ≤ 9 := by
  unfold waysTo at h
  obtain ⟨j, hj, h1⟩ := List.mem_flatMap.mp h
  obtain ⟨w', rfl, g1, g2⟩ := waysF_sound 9 [] [] j w h1
  exact ⟨j, hj, by simpa using g1, by simpa using g2⟩
theorem waysTo_ok {n : Net} {S : List Nat} {place : Nat} : ∀ w ∈ waysTo n S place, WayOk n w := fun w h => by
  obtain ⟨j, _, h1, h2⟩ := waysTo_sound h
  exact ⟨by omega, fun k hk => (h1.lt.2 k hk).1⟩
theorem begins_7 {n : Net} (ok : n.Ok) : (begins n).length ≤ 7 := by
  have : (begins n).length ≤ n.js.length := by
    unfold begins
    exact Nat.le_trans (List.length_filter_le _ _) (by simp)
  have := ok.j1
  omega
theorem flat_len {α β : Type} {f : α → List β} {B : Nat} : ∀ {l : List α}, (∀ a ∈ l, (f a).length ≤ B) → (l.flatMap f).length ≤ l.length * B
  | [], _ => by simp
  | a :: l, h => by
    have h1 := h a (by simp)
    have h2 := flat_len (l := l) (f := f) (B := B) fun x hx => h x (by simp [hx])
    simp only [List.flatMap_cons, List.length_append, List.length_cons, Nat.add_mul]
    omega
theorem waysTo_len {n : Net} (ok : n.Ok) (S : List Nat) (place : Nat) : (waysTo n S place).length ≤ 5000 := by
  have h1 := begins_7 ok
  have h2 := flat_len (l := begins n) (f := fun j => waysF n S place 9 [] [j]) (B := 512) fun j _ => waysF_512 ok S place j
  have h3 : (begins n).length * 512 ≤ 7 * 512 := Nat.mul_le_mul_right _ h1
  unfold waysTo
  omega
/-! ### cut_of -/
structure ShutOk (n : Net) (S : List Nat) : Prop where
  rising : S.Pairwise (· < ·)
  lt : ∀ k ∈ S, k < n.ps.length
  can : ∀ k ∈ S, ∀ p, n.ps[k]? = some p → p.gate = true ∨ 0 < p.lift
theorem ShutOk.len {n : Net} {S : List Nat} (h : ShutOk n S) : S.length ≤ n.ps.length := by
  refine nodup_len ?_ h.lt
  exact h.rising.imp fun h => by omega
theorem ShutOk.P {n : Net} {S : List Nat} (h : ShutOk n S) : ShutP (n.ps.map Pipe.D) (nD S) := by
  refine ⟨S, rfl, h.rising, by simpa using h.len, fun k hk => ⟨by simpa using h.lt k hk, ?_⟩⟩
  have hl := h.lt k hk
  have hc := h.can k hk n.ps[k] (List.getElem?_eq_getElem hl)
  rw [List.getD_eq_getElem?_getD, List.getElem?_map, List.getElem?_eq_getElem hl]
  simp only [Option.map_some, Option.getD_some, Pipe.D, canS]
  rcases hc with hc | hc
  · simp [hc]
  · simp [hc]
theorem need_net_eq {n : Net} (ok : n.Ok) : m_need_net [.val n.D] = M.ok (.val .none, [some (.val n.D)]) := by
  have := net_is _ _ ok.P
  have y1 : n.D = netD (n.js.map Joint.D) (n.ps.map Pipe.D) := rfl
  rw [y1]
  simp [m_need_net, f_need_net, this]
theorem shut_eq {n : Net} (ok : n.Ok) {S : List Nat} (h : ShutOk n S) : m_are_shut [.val n.D, .val (.tuple (nD S))] = M.ok (.val (.bool true), [some (.val n.D), some (.val (.tuple (nD S)))]) :=
  shut_is (n.js.map Joint.D) (n.ps.map Pipe.D) (nD S) (n.js.map Joint.D).length ok.P.p ok.P.p1 h.P
theorem need_cut_eq {n : Net} (ok : n.Ok) {S : List Nat} (h : ShutOk n S) {place : Nat} (hp : n.place place = true) : m_need_cut [.val n.D, .val (.int (place : Int)), .val (.tuple (nD S))] = M.ok (.val .none, [some (.val n.D), some (.val (.int (place : Int))), some (.val (.tuple (nD S)))]) := by
  simp [m_need_cut, f_need_cut, need_net_eq ok, m_need_place, f_need_place, place_eq, hp, shut_eq ok h]
noncomputable def cutV (n : Net) (S : List Nat) (place : Nat) : PyData := match fewL n S place with
  | none => .none
  | some l => .tuple [lotD l, apD (apartF n l.length (waysTo n S place))]
theorem cut_by_eq {n : Net} (ok : n.Ok) {S : List Nat} (h : ShutOk n S) {place : Nat} : m_cut_by [.val n.D, .val (.int (place : Int)), .val (.tuple (nD S))] = M.ok (.val (cutV n S place), [some (.val n.D), some (.val (.int (place : Int))), some (.val (.tuple (nD S)))]) := by
  have s9 : S.length ≤ 9 := Nat.le_trans h.len ok.p1
  have e1 := few_eq ok S s9 place
  unfold cutV
  cases q : fewL n S place with
  | none =>
    rw [q] at e1
    simp [m_cut_by, f_cut_by, e1, lotO]
  | some l =>
    rw [q] at e1
    have l9 : l.length ≤ 9 := Nat.le_trans (fewL_some q).1.length_le (Nat.le_trans (gatesF_len S n.ps 0) ok.p1)
    have e3 := apart_eq n 12 l.length (waysTo n S place) waysTo_ok (waysTo_len ok S place) (by omega) (by omega)
    unfold waysD at e3
    simp [m_cut_by, f_cut_by, e1, lotO, lotD, ways_to_eq ok, e3]
theorem cut_of_eq {n : Net} (ok : n.Ok) {S : List Nat} (h : ShutOk n S) {place : Nat} (hp : n.place place = true) : m_cut_of [.val n.D, .val (.int (place : Int)), .val (.tuple (nD S))] = M.ok (.val (cutV n S place), [some (.val n.D), some (.val (.int (place : Int))), some (.val (.tuple (nD S)))]) := by
  simp [m_cut_of, f_cut_of, need_cut_eq ok h hp, cut_by_eq ok h]
end WH
set_option Elab.async false
set_option linter.all false
set_option maxRecDepth 100000
set_option maxHeartbeats 4000000
namespace WH
/-! ### sums -/
def sumL (f : Nat → Int) : Nat → Int
  | 0 => 0
  | m + 1 => sumL f m + f m
theorem sumL_congr {f g : Nat → Int} : ∀ {m : Nat}, (∀ k, k < m → f k = g k) → sumL f m = sumL g m
  | 0, _ => rfl
  | m + 1, h => by
    simp only [sumL]
    rw [sumL_congr fun k hk => h k (by omega), h m (by omega)]
theorem sumL_add (f g : Nat → Int) : ∀ m, sumL (fun k => f k + g k) m = sumL f m + sumL g m
  | 0 => rfl
  | m + 1 => by simp only [sumL, sumL_add f g m]; omega
theorem sumL_sub (f g : Nat → Int) : ∀ m, sumL (fun k => f k - g k) m = sumL f m - sumL g m
  | 0 => rfl
  | m + 1 => by simp only [sumL, sumL_sub f g m]; omega
theorem sumL_zero : ∀ m, sumL (fun _ => 0) m = 0
  | 0 => rfl
  | m + 1 => by simp only [sumL, sumL_zero m]; rfl
theorem sumL_swap (f : Nat → Nat → Int) : ∀ a b, sumL (fun x => sumL (fun y => f x y) b) a = sumL (fun y => sumL (fun x => f x y) a) b
  | 0, b => by simp only [sumL]; exact (sumL_zero b).symm
  | a + 1, b => by
    simp only [sumL]
    rw [sumL_swap f a b, ← sumL_add]
theorem sumL_one (c : Nat) (v : Int) : ∀ m, sumL (fun z => if c = z then v else 0) m = if c < m then v else 0
  | 0 => by simp [sumL]
  | m + 1 => by
    simp only [sumL, sumL_one c v m]
    by_cases h : c = m
    · subst h; simp
    · by_cases h2 : c < m
      · rw [if_pos h2, if_neg h, if_pos (by omega)]; omega
      · rw [if_neg h2, if_neg h, if_neg (by omega)]; omega
theorem sumL_le {f g : Nat → Int} : ∀ {m : Nat}, (∀ k, k < m → f k ≤ g k) → sumL f m ≤ sumL g m
  | 0, _ => by simp [sumL]
  | m + 1, h => by
    simp only [sumL]
    have := sumL_le (m := m) fun k hk => h k (by omega)
    have := h m (by omega)
    omega
theorem sumL_count (c : Nat → Bool) : ∀ m, sumL (fun k => if c k = true then 1 else 0) m = ((List.range m).filter c).length
  | 0 => rfl
  | m + 1 => by
    rw [List.range_succ, List.filter_append, List.length_append, List.filter_cons]
    simp only [sumL, sumL_count c m]
    cases c m <;> simp
/-! ### flows -/
def excK (n : Net) (f : Nat → Int) (z k : Nat) : Int := match n.ps[k]? with
  | some p => (if p.b = z then f k else 0) - (if p.a = z then f k else 0)
  | none => 0
def exc (n : Net) (f : Nat → Int) (z : Nat) : Int := sumL (excK n f z) n.ps.length
structure Cap (n : Net) (S : List Nat) (f : Nat → Int) : Prop where
  out : ∀ k, k ∈ S → f k = 0
  on : ∀ k p, n.ps[k]? = some p → p.on = true → 0 ≤ f k
  gate : ∀ k p, n.ps[k]? = some p → p.gate = true → -1 ≤ f k ∧ f k ≤ 1
structure IsFlow (n : Net) (S : List Nat) (t : Nat) (f : Nat → Int) (v : Nat) : Prop where
  cap : Cap n S f
  kep : ∀ z, n.place z = true → z ≠ t → exc n f z = 0
  val : exc n f t = v
def Arc (n : Net) (k : Nat) (d : Bool) (x y : Nat) : Prop := ∃ p, n.ps[k]? = some p ∧ (match d with
  | true => p.a = x ∧ p.b = y
  | false => p.b = x ∧ p.a = y)
def bump (f : Nat → Int) (k : Nat) (d : Bool) : Nat → Int := fun i => if i = k then f i + (if d then 1 else -1) else f i
theorem exc_bump {n : Net} {f : Nat → Int} {k : Nat} {d : Bool} {x y : Nat} (h : Arc n k d x y) (z : Nat) : exc n (bump f k d) z = exc n f z + (if y = z then 1 else 0) - (if x = z then 1 else 0) := by
  obtain ⟨p, hp, hd⟩ := h
  have hk : k < n.ps.length := (List.getElem?_eq_some_iff.mp hp).1
  have e : ∀ i, i < n.ps.length → excK n (bump f k d) z i = excK n f z i + (if k = i then ((if y = z then 1 else 0) - (if x = z then 1 else 0)) else 0) := fun i hi => by
    by_cases hik : i = k
    · subst hik
      unfold excK bump
      rw [hp]
      simp only [if_true]
      cases d with
      | true =>
        obtain ⟨rfl, rfl⟩ := hd
        simp only [if_true]
        split <;> split <;> omega
      | false =>
        obtain ⟨rfl, rfl⟩ := hd
        simp only [Bool.false_eq_true, if_false]
        split <;> split <;> omega
    · have h2 : ¬ k = i := fun z => hik z.symm
      rw [if_neg h2]
      unfold excK bump
      cases n.ps[i]? with
      | none => rfl
      | some q => simp only [if_neg hik]; omega
  unfold exc
  rw [sumL_congr e, sumL_add, sumL_one, if_pos hk]
  omega
open Classical in
noncomputable def crossK (n : Net) (f : Nat → Int) (R : Nat → Prop) (k : Nat) : Int := match n.ps[k]? with
  | some p => (if R p.b then 0 else f k) - (if R p.a then 0 else f k)
  | none => 0
open Classical in
/-- what goes over a border -/
theorem border {n : Net} (ok : n.Ok) {S : List Nat} {t v : Nat} {f : Nat → Int} (h : IsFlow n S t f v) (ht : t < n.js.length) {R : Nat → Prop} (hb : ∀ x ∈ begins n, R x) (hr : ¬ R t) :
    (v : Int) = sumL (crossK n f R) n.ps.length := by
  have e1 : sumL (fun z => if R z then 0 else exc n f z) n.js.length = v := by
    have : ∀ z, z < n.js.length → (if R z then 0 else exc n f z) = (if t = z then (v : Int) else 0) := fun z hz => by
      by_cases hz2 : R z
      · rw [if_pos hz2, if_neg fun (e : t = z) => hr (by rw [e]; exact hz2)]
      · rw [if_neg hz2]
        by_cases e : t = z
        · subst e; rw [if_pos rfl]; exact h.val
        · rw [if_neg e]
          refine h.kep z ?_ fun q => e q.symm
          cases q : n.place z with
          | true => rfl
          | false =>
            refine absurd (hb z ?_) hz2
            unfold begins
            simp [hz, q]
    rw [sumL_congr this, sumL_one, if_pos ht]
  rw [← e1]
  have e2 : ∀ z, (if R z then (0 : Int) else exc n f z) = sumL (fun k => if R z then 0 else excK n f z k) n.ps.length := fun z => by
    split
    · exact (sumL_zero _).symm
    · rfl
  rw [sumL_congr fun z _ => e2 z, sumL_swap]
  refine sumL_congr fun k hk => ?_
  have hp : n.ps[k]? = some n.ps[k] := List.getElem?_eq_getElem hk
  have q := ok.p n.ps[k] (List.getElem_mem hk)
  unfold crossK
  rw [hp]
  dsimp only
  have e3 : ∀ z, (if R z then (0 : Int) else excK n f z k) = (if n.ps[k].b = z then (if R n.ps[k].b then 0 else f k) else 0) - (if n.ps[k].a = z then (if R n.ps[k].a then 0 else f k) else 0) := fun z => by
    unfold excK
    rw [hp]
    dsimp only
    by_cases hz : R z
    · rw [if_pos hz]
      by_cases h1 : n.ps[k].b = z <;> by_cases h2 : n.ps[k].a = z <;> simp [h1, h2, hz]
    · rw [if_neg hz]
      by_cases h1 : n.ps[k].b = z <;> by_cases h2 : n.ps[k].a = z <;> simp [h1, h2, hz]
  rw [sumL_congr fun z _ => e3 z, sumL_sub, sumL_one, sumL_one, if_pos q.b, if_pos q.a]
/-! ### simple ways -/
inductive RA (n : Net) (A : Nat → Bool → Nat → Nat → Prop) : Nat → Prop
  | base {x : Nat} : x ∈ begins n → RA n A x
  | step {k : Nat} {d : Bool} {x y : Nat} : RA n A x → A k d x y → RA n A y
inductive SP (n : Net) (A : Nat → Bool → Nat → Nat → Prop) : List Nat → List (Nat × Bool) → Prop
  | base {x : Nat} : x ∈ begins n → SP n A [x] []
  | step {k : Nat} {d : Bool} {x y : Nat} {js : List Nat} {as : List (Nat × Bool)} : SP n A (x :: js) as → A k d x y → y ∉ x :: js → y ∉ begins n → SP n A (y :: x :: js) ((k, d) :: as)
theorem SP.cut {n : Net} {A : Nat → Bool → Nat → Nat → Prop} {l : List Nat} {as : List (Nat × Bool)} (h : SP n A l as) {y : Nat} (hy : y ∈ l) : ∃ js as', SP n A (y :: js) as' := by
  induction h with
  | base hx =>
    simp at hy
    subst hy
    exact ⟨[], [], .base hx⟩
  | step h a n1 n2 ih =>
    rcases List.mem_cons.mp hy with rfl | hy
    · exact ⟨_, _, .step h a n1 n2⟩
    · exact ih hy
theorem RA.simple {n : Net} {A : Nat → Bool → Nat → Nat → Prop} {y : Nat} (h : RA n A y) : ∃ js as, SP n A (y :: js) as := by
  induction h with
  | base hx => exact ⟨[], [], .base hx⟩
  | step h a ih =>
    rename_i k d x y
    obtain ⟨js, as, hs⟩ := ih
    by_cases h1 : y ∈ begins n
    · exact ⟨[], [], .base h1⟩
    · by_cases h2 : y ∈ x :: js
      · exact hs.cut h2
      · exact ⟨_, _, .step hs a h2 h1⟩
theorem SP.ends {n : Net} {A : Nat → Bool → Nat → Nat → Prop} (hA : ∀ k d x y, A k d x y → Arc n k d x y) {l : List Nat} {as : List (Nat × Bool)} (h : SP n A l as) : (as.map (·.1)).Nodup ∧ (∀ a ∈ as, ∀ p, n.ps[a.1]? = some p → p.a ∈ l ∧ p.b ∈ l) ∧ l.Nodup ∧ l.length = as.length + 1 := by
  induction h with
  | base hx => simp
  | step h a n1 n2 ih =>
    rename_i k d x y js as
    obtain ⟨h1, h2, h3, h4⟩ := ih
    obtain ⟨p, hp, hd⟩ := hA k d x y a
    have hy : ∀ a ∈ as, a.1 ≠ k := fun a ha e => by
      obtain ⟨g1, g2⟩ := h2 a ha p (by rw [e]; exact hp)
      cases d with
      | true => exact n1 (hd.2 ▸ g2)
      | false => exact n1 (hd.2 ▸ g1)
    refine ⟨?_, fun b hb q hq => ?_, List.nodup_cons.mpr ⟨n1, h3⟩, by simp only [List.length_cons] at h4 ⊢; omega⟩
    · rw [List.map_cons, List.nodup_cons]
      refine ⟨fun z => ?_, h1⟩
      obtain ⟨a, ha, e⟩ := List.mem_map.mp z
      exact hy a ha e
    · rcases List.mem_cons.mp hb with rfl | hb
      · rw [hp] at hq
        cases hq
        cases d with
        | true => exact ⟨by rw [hd.1]; simp, by rw [hd.2]; simp⟩
        | false => exact ⟨by rw [hd.2]; simp, by rw [hd.1]; simp⟩
      · obtain ⟨g1, g2⟩ := h2 b hb q hq
        exact ⟨List.mem_cons_of_mem _ g1, List.mem_cons_of_mem _ g2⟩
/-- along a simple way: e changes the arcs -/
def along (e : Bool → Bool) (f : Nat → Int) : List (Nat × Bool) → Nat → Int
  | [] => f
  | a :: as => bump (along e f as) a.1 (e a.2)
theorem along_out (e : Bool → Bool) (f : Nat → Int) {k : Nat} : ∀ {as : List (Nat × Bool)}, k ∉ as.map (·.1) → along e f as k = f k
  | [], _ => rfl
  | a :: as, h => by
    simp at h
    unfold along bump
    rw [if_neg h.1]
    exact along_out e f (by simpa using h.2)
theorem along_exc {n : Net} {A : Nat → Bool → Nat → Nat → Prop} (hA : ∀ k d x y, A k d x y → Arc n k d x y) (f : Nat → Int) {l : List Nat} {as : List (Nat × Bool)} (h : SP n A l as) : ∃ j ∈ begins n, ∀ y js, l = y :: js → ∀ z,
    (exc n (along id f as) z = exc n f z + (if y = z then 1 else 0) - (if j = z then 1 else 0)) ∧ (exc n (along not f as) z = exc n f z - (if y = z then 1 else 0) + (if j = z then 1 else 0)) := by
  induction h with
  | base hx =>
    rename_i x
    refine ⟨x, hx, fun y js e z => ?_⟩
    cases e
    unfold along
    constructor <;> omega
  | step h a n1 n2 ih =>
    rename_i k d x y js as
    obtain ⟨j, hj, ih⟩ := ih
    refine ⟨j, hj, fun y' js' e z => ?_⟩
    cases e
    obtain ⟨i1, i2⟩ := ih x js rfl z
    have arc := hA k d x y a
    have arc2 : Arc n k (!d) y x := by
      obtain ⟨p, hp, hd⟩ := arc
      refine ⟨p, hp, ?_⟩
      cases d with
      | true => exact ⟨hd.2, hd.1⟩
      | false => exact ⟨hd.2, hd.1⟩
    unfold along
    constructor
    · show exc n (bump (along id f as) k d) z = _
      rw [exc_bump arc, i1]
      omega
    · show exc n (bump (along not f as) k (!d)) z = _
      rw [exc_bump arc2, i2]
      omega
end WH
set_option Elab.async false
set_option linter.all false
set_option maxRecDepth 100000
set_option maxHeartbeats 4000000
namespace WH
/-- an arc along which f may grow -/
def Res (n : Net) (S : List Nat) (f : Nat → Int) (k : Nat) (d : Bool) (x y : Nat) : Prop := Arc n k d x y ∧ k ∉ S ∧ ∀ p, n.ps[k]? = some p → match d with
  | true => p.gate = true → f k ≤ 0
  | false => (p.on = true → 1 ≤ f k) ∧ (p.gate = true → 0 ≤ f k)
theorem grow_cap {n : Net} {S : List Nat} {f : Nat → Int} (hc : Cap n S f) {l : List Nat} {as : List (Nat × Bool)} (h : SP n (Res n S f) l as) : Cap n S (along id f as) := by
  induction h with
  | base hx => exact hc
  | step h a n1 n2 ih =>
    rename_i k d x y js as
    obtain ⟨arc, kS, ha⟩ := a
    have hnd := (SP.ends (n := n) (A := Res n S f) (fun _ _ _ _ r => r.1) (.step h ⟨arc, kS, ha⟩ n1 n2)).1
    rw [List.map_cons, List.nodup_cons] at hnd
    have e := along_out id f hnd.1
    unfold along
    refine ⟨fun i hi => ?_, fun i p hp on => ?_, fun i p hp g => ?_⟩
    · have : ¬ i = k := fun z => kS (z ▸ hi)
      unfold bump
      rw [if_neg this]
      exact ih.out i hi
    · unfold bump
      by_cases z : i = k
      · subst z
        rw [if_pos rfl]
        dsimp only at e ⊢
        rw [e]
        have h1 := ha p hp
        have h2 := hc.on i p hp on
        cases d with
        | true => simp; omega
        | false => have := h1.1 on; simp; omega
      · rw [if_neg z]; exact ih.on i p hp on
    · unfold bump
      by_cases z : i = k
      · subst z
        rw [if_pos rfl]
        dsimp only at e ⊢
        rw [e]
        have h1 := ha p hp
        have h2 := hc.gate i p hp g
        cases d with
        | true => have := h1 g; simp; omega
        | false => have := h1.2 g; simp; omega
      · rw [if_neg z]; exact ih.gate i p hp g
theorem begins_not {n : Net} {j : Nat} (h : j ∈ begins n) : n.place j = false := by
  unfold begins at h
  simp at h
  exact h.2
theorem grow {n : Net} {S : List Nat} {t v : Nat} {f : Nat → Int} (h : IsFlow n S t f v) (ht : n.place t = true) (hr : RA n (Res n S f) t) : ∃ g, IsFlow n S t g (v + 1) := by
  obtain ⟨js, as, hs⟩ := hr.simple
  obtain ⟨j, hj, he⟩ := along_exc (A := Res n S f) (fun _ _ _ _ r => r.1) f hs
  have hjn := begins_not hj
  have hjt : j ≠ t := fun z => by subst z; rw [ht] at hjn; cases hjn
  refine ⟨along id f as, grow_cap h.cap hs, fun z hz hzt => ?_, ?_⟩
  · have hjz : j ≠ z := fun e => by subst e; rw [hz] at hjn; cases hjn
    rw [(he t js rfl z).1, h.kep z hz hzt, if_neg fun e => hzt e.symm, if_neg hjz]
    rfl
  · rw [(he t js rfl t).1, h.val, if_pos rfl, if_neg hjt]
    omega
theorem gatesF_range (S : List Nat) (g : Nat → Bool) : ∀ (ps : List Pipe) (k : Nat), (∀ i p, ps[i]? = some p → g (k + i) = (p.gate && decide (k + i ∉ S))) → gatesF S k ps = ((List.range ps.length).map (k + ·)).filter g
  | [], k, _ => rfl
  | p :: ps, k, h => by
    have h0 := h 0 p rfl
    have ih := gatesF_range S g ps (k + 1) fun i q hq => by
      have := h (i + 1) q (by simpa using hq)
      rw [show k + (i + 1) = k + 1 + i from by omega] at this
      exact this
    rw [gatesF, ih, List.length_cons, List.range_succ_eq_map, List.map_cons, List.filter_cons]
    have e : (List.map Nat.succ (List.range ps.length)).map (k + ·) = (List.range ps.length).map (k + 1 + ·) := by
      rw [List.map_map]
      exact List.map_congr_left fun i _ => by simp; omega
    rw [e, h0]
    simp only [Nat.add_zero]
    by_cases hg : p.gate = true ∧ k ∉ S
    · rw [if_pos hg, if_pos (by simp [hg])]; rfl
    · rw [if_neg hg, if_neg (by simpa using hg)]; rfl
theorem gates_range (n : Net) (S : List Nat) : gates n S = (List.range n.ps.length).filter fun k => gateB n k && decide (k ∉ S) := by
  unfold gates
  rw [gatesF_range S (fun k => gateB n k && decide (k ∉ S)) n.ps 0 (fun i p hp => by
    unfold gateB
    rw [Nat.zero_add, hp])]
  congr 1
  rw [List.map_congr_left (g := id) fun i _ => by simp, List.map_id]
theorem filter_sub {α : Type} {p q : α → Bool} (h : ∀ x, p x = true → q x = true) : ∀ l : List α, (l.filter p).Sublist (l.filter q)
  | [] => by simp
  | a :: l => by
    have ih := filter_sub h l
    rw [List.filter_cons, List.filter_cons]
    by_cases hp : p a = true
    · rw [if_pos hp, if_pos (h a hp)]; exact ih.cons₂ a
    · rw [if_neg hp]
      split
      · exact ih.cons a
      · exact ih
open Classical in
/-- as long as fewer flow than gates must be shut, more can -/
theorem more {n : Net} (ok : n.Ok) {S : List Nat} {t v : Nat} {f : Nat → Int} (h : IsFlow n S t f v) (ht : n.place t = true) (hm : ∀ l', l'.Sublist (gates n S) → l'.length = v → Reach n (S ++ l') t) : RA n (Res n S f) t := by
  refine Classical.byContradiction fun hr => ?_
  have tl : t < n.js.length := by
    unfold Net.place at ht
    split at ht
    · rename_i x hx
      exact (List.getElem?_eq_some_iff.mp hx).1
    · cases ht
  have hb := border ok h tl (R := RA n (Res n S f)) (fun x hx => .base hx) hr
  let c : Nat → Bool := fun k => match n.ps[k]? with
    | some p => decide (k ∉ S ∧ ((RA n (Res n S f) p.a ∧ ¬ RA n (Res n S f) p.b) ∨ (RA n (Res n S f) p.b ∧ ¬ RA n (Res n S f) p.a ∧ p.on = false)))
    | none => false
  have key : ∀ k, k < n.ps.length → crossK n f (RA n (Res n S f)) k = (if c k = true then 1 else 0) ∧ (c k = true → (gateB n k && decide (k ∉ S)) = true) := fun k hk => by
    have hp : n.ps[k]? = some n.ps[k] := List.getElem?_eq_getElem hk
    have fwd : ∀ hS : k ∉ S, RA n (Res n S f) n.ps[k].a → ¬ RA n (Res n S f) n.ps[k].b → n.ps[k].gate = true ∧ f k = 1 := fun hS ha hb => by
      have : ¬ Res n S f k true n.ps[k].a n.ps[k].b := fun r => hb (.step ha r)
      have h1 : ¬ (n.ps[k].gate = true → f k ≤ 0) := fun z => this ⟨⟨_, hp, rfl, rfl⟩, hS, fun p hp' => by rw [hp] at hp'; cases hp'; exact z⟩
      have h2 : n.ps[k].gate = true := Classical.byContradiction fun z => h1 fun y => absurd y z
      have h3 := h.cap.gate k _ hp h2
      exact ⟨h2, by have : ¬ f k ≤ 0 := fun z => h1 fun _ => z; omega⟩
    have bwd : ∀ hS : k ∉ S, RA n (Res n S f) n.ps[k].b → ¬ RA n (Res n S f) n.ps[k].a → (n.ps[k].on = true ∧ f k = 0) ∨ (n.ps[k].on = false ∧ n.ps[k].gate = true ∧ f k = -1) := fun hS hb ha => by
      have : ¬ Res n S f k false n.ps[k].b n.ps[k].a := fun r => ha (.step hb r)
      have h1 : ¬ ((n.ps[k].on = true → 1 ≤ f k) ∧ (n.ps[k].gate = true → 0 ≤ f k)) := fun z => this ⟨⟨_, hp, rfl, rfl⟩, hS, fun p hp' => by rw [hp] at hp'; cases hp'; exact z⟩
      cases on : n.ps[k].on with
      | true =>
        have h2 := h.cap.on k _ hp on
        refine .inl ⟨rfl, ?_⟩
        refine Classical.byContradiction fun z => h1 ⟨fun _ => by omega, fun _ => h2⟩
      | false =>
        have h2 : ¬ (n.ps[k].gate = true → 0 ≤ f k) := fun z => h1 ⟨fun y => (by rw [on] at y; cases y), z⟩
        have h3 : n.ps[k].gate = true := Classical.byContradiction fun z => h2 fun y => absurd y z
        have h4 := h.cap.gate k _ hp h3
        exact .inr ⟨rfl, h3, by have : ¬ 0 ≤ f k := fun z => h2 fun _ => z; omega⟩
    have ck : c k = decide (k ∉ S ∧ ((RA n (Res n S f) n.ps[k].a ∧ ¬ RA n (Res n S f) n.ps[k].b) ∨ (RA n (Res n S f) n.ps[k].b ∧ ¬ RA n (Res n S f) n.ps[k].a ∧ n.ps[k].on = false))) := by
      show (match n.ps[k]? with | some p => _ | none => _) = _
      rw [hp]
    have gk : gateB n k = n.ps[k].gate := by unfold gateB; rw [hp]
    unfold crossK
    rw [hp, ck, gk]
    dsimp only
    by_cases hS : k ∈ S
    · have f0 := h.cap.out k hS
      simp [hS, f0]
    · by_cases ha : RA n (Res n S f) n.ps[k].a <;> by_cases hb : RA n (Res n S f) n.ps[k].b
      · simp [ha, hb]
      · obtain ⟨g1, g2⟩ := fwd hS ha hb
        simp [ha, hb, hS, g1, g2]
      · rcases bwd hS hb ha with ⟨g1, g2⟩ | ⟨g1, g2, g3⟩
        · simp [ha, hb, hS, g1, g2]
        · simp [ha, hb, hS, g1, g2, g3]
      · simp [ha, hb]
  rw [sumL_congr fun k hk => (key k hk).1, sumL_count] at hb
  have sub : ((List.range n.ps.length).filter c).Sublist (gates n S) := by
    rw [gates_range]
    have : (List.range n.ps.length).filter c = (List.range n.ps.length).filter fun k => c k && decide (k < n.ps.length) := by
      refine List.filter_congr fun k hk => ?_
      have := List.mem_range.mp hk
      simp [this]
    rw [this]
    refine filter_sub (fun k hk => ?_) _
    simp at hk
    exact (key k hk.2).2 hk.1
  have hl : ((List.range n.ps.length).filter c).length = v := by omega
  have := hm _ sub hl
  have inv : ∀ x, Reach n (S ++ (List.range n.ps.length).filter c) x → RA n (Res n S f) x := fun x hx => by
    induction hx with
    | base hx => exact .base hx
    | step _ l ih =>
      rename_i k x y _
      obtain ⟨p, hp, hk, he⟩ := l
      have hkl : k < n.ps.length := (List.getElem?_eq_some_iff.mp hp).1
      refine Classical.byContradiction fun hy => hk ?_
      have hS : k ∉ S := fun z => hk (List.mem_append_left _ z)
      refine List.mem_append_right _ (List.mem_filter.mpr ⟨List.mem_range.mpr hkl, ?_⟩)
      show (match n.ps[k]? with | some p => decide (k ∉ S ∧ ((RA n (Res n S f) p.a ∧ ¬ RA n (Res n S f) p.b) ∨ (RA n (Res n S f) p.b ∧ ¬ RA n (Res n S f) p.a ∧ p.on = false))) | none => false) = true
      rw [hp]
      simp only [decide_eq_true_eq]
      refine ⟨hS, ?_⟩
      unfold endFrom at he
      split at he
      · rename_i e
        cases he
        subst e
        exact .inl ⟨ih, hy⟩
      · split at he
        · rename_i e
          cases he
          obtain ⟨e1, e2⟩ := e
          subst e1
          exact .inr ⟨ih, hy, e2⟩
        · cases he
  exact hr (inv t this)
end WH
set_option Elab.async false
set_option linter.all false
set_option maxRecDepth 100000
set_option maxHeartbeats 4000000
namespace WH
/-! ### a flow falls into ways -/
def Pos (n : Net) (f : Nat → Int) (k : Nat) (d : Bool) (x y : Nat) : Prop := Arc n k d x y ∧ match d with
  | true => 0 < f k
  | false => f k < 0
theorem pos_leads {n : Net} (ok : n.Ok) {S : List Nat} {f : Nat → Int} (hc : Cap n S f) {k : Nat} {d : Bool} {x y : Nat} (h : Pos n f k d x y) : Leads n S k x y := by
  obtain ⟨⟨p, hp, hd⟩, hf⟩ := h
  have hS : k ∉ S := fun z => by
    have := hc.out k z
    cases d with
    | true => have hf : 0 < f k := hf; omega
    | false => have hf : f k < 0 := hf; omega
  refine ⟨p, hp, hS, ?_⟩
  cases d with
  | true =>
    obtain ⟨rfl, rfl⟩ := hd
    unfold endFrom
    rw [if_pos rfl]
  | false =>
    obtain ⟨rfl, rfl⟩ := hd
    have hf : f k < 0 := hf
    have on : p.on = false := by
      cases q : p.on with
      | false => rfl
      | true => have := hc.on k p hp q; omega
    have ne := (ok.p p (List.mem_of_getElem? hp)).ne
    unfold endFrom
    rw [if_neg ne, if_pos ⟨rfl, on⟩]
theorem fall_reach {n : Net} (ok : n.Ok) {S : List Nat} {t v : Nat} {f : Nat → Int} (h : IsFlow n S t f (v + 1)) (ht : t < n.js.length) : RA n (Pos n f) t := by
  refine Classical.byContradiction fun hr => ?_
  have hb := border ok h ht (R := RA n (Pos n f)) (fun x hx => .base hx) hr
  have : sumL (crossK n f (RA n (Pos n f))) n.ps.length ≤ sumL (fun _ => 0) n.ps.length := sumL_le fun k hk => by
    have hp : n.ps[k]? = some n.ps[k] := List.getElem?_eq_getElem hk
    unfold crossK
    rw [hp]
    dsimp only
    by_cases ha : RA n (Pos n f) n.ps[k].a <;> by_cases hb : RA n (Pos n f) n.ps[k].b
    · simp [ha, hb]
    · have : ¬ 0 < f k := fun z => hb (.step (k := k) (d := true) ha ⟨⟨_, hp, rfl, rfl⟩, z⟩)
      simp [ha, hb]; omega
    · have : ¬ f k < 0 := fun z => ha (.step (k := k) (d := false) hb ⟨⟨_, hp, rfl, rfl⟩, z⟩)
      simp [ha, hb]; omega
    · simp [ha, hb]
  rw [sumL_zero] at this
  omega
theorem fall_cap {n : Net} {S : List Nat} {f : Nat → Int} (hc : Cap n S f) {l : List Nat} {as : List (Nat × Bool)} (h : SP n (Pos n f) l as) : Cap n S (along not f as) ∧ (∀ k, f k = 0 → along not f as k = 0) ∧ (∀ a ∈ as, gateB n a.1 = true → along not f as a.1 = 0) ∧ ∀ a ∈ as, f a.1 ≠ 0 := by
  induction h with
  | base hx => exact ⟨hc, fun _ h => h, by simp, by simp⟩
  | step h a n1 n2 ih =>
    rename_i k d x y js as
    obtain ⟨arc, hf⟩ := a
    obtain ⟨i1, i2, i3, i4⟩ := ih
    have hnd := (SP.ends (n := n) (A := Pos n f) (fun _ _ _ _ r => r.1) (.step h ⟨arc, hf⟩ n1 n2)).1
    rw [List.map_cons, List.nodup_cons] at hnd
    have e := along_out not f hnd.1
    dsimp only at e
    have f0 : f k ≠ 0 := by
      cases d with
      | true => have hf : 0 < f k := hf; omega
      | false => have hf : f k < 0 := hf; omega
    have bk : along not f ((k, d) :: as) k = f k + (if !d then 1 else -1) := by
      unfold along bump
      rw [if_pos rfl]
      dsimp only
      rw [e]
    have bo : ∀ i, i ≠ k → along not f ((k, d) :: as) i = along not f as i := fun i hi => by
      show bump _ _ _ i = _
      unfold bump
      rw [if_neg hi]
    refine ⟨⟨fun i hi => ?_, fun i p hp on => ?_, fun i p hp g => ?_⟩, fun i hi => ?_, fun b hb hg => ?_, fun b hb => ?_⟩
    · have : i ≠ k := fun z => f0 (by rw [← z]; exact hc.out i hi)
      rw [bo i this]
      exact i1.out i hi
    · by_cases z : i = k
      · subst z
        rw [bk]
        have h2 := hc.on i p hp on
        cases d with
        | true => have hf : 0 < f i := hf; simp; omega
        | false => have hf : f i < 0 := hf; simp; omega
      · rw [bo i z]; exact i1.on i p hp on
    · by_cases z : i = k
      · subst z
        rw [bk]
        have h2 := hc.gate i p hp g
        cases d with
        | true => have hf : 0 < f i := hf; simp; omega
        | false => have hf : f i < 0 := hf; simp; omega
      · rw [bo i z]; exact i1.gate i p hp g
    · have : i ≠ k := fun z => f0 (by rw [← z]; exact hi)
      rw [bo i this]
      exact i2 i hi
    · rcases List.mem_cons.mp hb with rfl | hb
      · dsimp only at hg ⊢
        obtain ⟨p, hp, _⟩ := arc
        unfold gateB at hg
        rw [hp] at hg
        have h2 := hc.gate k p hp hg
        rw [bk]
        cases d with
        | true => have hf : 0 < f k := hf; simp; omega
        | false => have hf : f k < 0 := hf; simp; omega
      · have : b.1 ≠ k := fun z => hnd.1 (List.mem_map.mpr ⟨b, hb, z⟩)
        rw [bo _ this]
        exact i3 b hb hg
    · rcases List.mem_cons.mp hb with rfl | hb
      · exact f0
      · exact i4 b hb
theorem waysF_mem {n : Net} {S : List Nat} {t m cur : Nat} {way pre w : List Nat} : w ∈ waysF n S t (m + 1) way (pre ++ [cur]) ↔ ∃ k p, n.ps[k]? = some p ∧ w ∈ waysP n S t cur (waysF n S t m) way (pre ++ [cur]) k p := by
  have e : waysF n S t (m + 1) way (pre ++ [cur]) = waysA n S t cur (waysF n S t m) way (pre ++ [cur]) 0 n.ps := by simp [waysF]
  rw [e, waysA_mem]
  constructor
  · rintro ⟨i, p, h1, h2⟩; exact ⟨i, p, h1, by simpa using h2⟩
  · rintro ⟨i, p, h1, h2⟩; exact ⟨i, p, h1, by simpa using h2⟩
theorem way_in {n : Net} {S : List Nat} {t : Nat} {A : Nat → Bool → Nat → Nat → Prop} (hA : ∀ k d x y, A k d x y → Leads n S k x y) (ok : n.Ok) {l : List Nat} {as : List (Nat × Bool)} (h : SP n A l as) (ht : t ∉ l) :
    ∃ j ∈ begins n, ∀ m w, w ∈ waysF n S t m (as.map (·.1)).reverse l.reverse → w ∈ waysF n S t (m + as.length) [] [j] := by
  induction h with
  | base hx => exact ⟨_, hx, fun m w h => by simpa using h⟩
  | step h a n1 n2 ih =>
    rename_i k d x y js as
    simp only [List.mem_cons, not_or] at ht
    obtain ⟨j, hj, ih⟩ := ih (by simp; exact ht.2)
    refine ⟨j, hj, fun m w hw => ?_⟩
    have := ih (m + 1) w ?_
    · rw [List.length_cons, show m + (as.length + 1) = m + 1 + as.length from by omega]
      exact this
    · obtain ⟨p, hp, hS, he⟩ := hA k d x y a
      have yp : n.place y = true := by
        have yl := end_lt ok hp he
        cases q : n.place y with
        | true => rfl
        | false => exact absurd (by unfold begins; simp [yl, q]) n2
      rw [List.reverse_cons]
      refine waysF_mem.mpr ⟨k, p, hp, waysP_mem.mpr ⟨y, he, hS, ?_, .inr ⟨fun e => ht.1 e.symm, yp, ?_⟩⟩⟩
      · intro z
        apply n1
        rw [← List.mem_reverse, List.reverse_cons]
        exact z
      · simpa using hw
theorem way_full {n : Net} {S : List Nat} {t : Nat} {A : Nat → Bool → Nat → Nat → Prop} (hA : ∀ k d x y, A k d x y → Leads n S k x y) (hB : ∀ k d x y, A k d x y → Arc n k d x y) (ok : n.Ok) {js : List Nat} {as : List (Nat × Bool)} (h : SP n A (t :: js) as) (ht : n.place t = true) : (as.map (·.1)).reverse ∈ waysTo n S t := by
  have hlen := (h.ends hB).2.2
  have h7 : ∀ x ∈ t :: js, x < n.js.length := by
    have : ∀ {l as}, SP n A l as → ∀ x ∈ l, x < n.js.length := fun {l as} h => by
      induction h with
      | base hx => intro x h; simp at h; subst h; exact begins_lt hx
      | step h a n1 n2 ih =>
        intro x hx
        rcases List.mem_cons.mp hx with rfl | hx
        · obtain ⟨p, hp, _, he⟩ := hA _ _ _ _ a
          exact end_lt ok hp he
        · exact ih x hx
    exact this h
  have n7 := nodup_len hlen.1 h7
  have := ok.j1
  cases h with
  | base hx =>
    have := begins_not hx
    rw [ht] at this
    cases this
  | step h a n1 n2 =>
    rename_i k d x js as
    obtain ⟨j, hj, hw⟩ := way_in hA ok h n1
    have hl : as.length ≤ 8 := by
      have := hlen.2
      simp only [List.length_cons] at this n7
      omega
    have := hw (8 - as.length + 1) (((k, d) :: as).map (·.1)).reverse ?_
    · rw [show 8 - as.length + 1 + as.length = 9 from by omega] at this
      unfold waysTo
      exact List.mem_flatMap.mpr ⟨j, hj, this⟩
    · obtain ⟨p, hp, hS, he⟩ := hA k d x t a
      rw [List.reverse_cons]
      refine waysF_mem.mpr ⟨k, p, hp, waysP_mem.mpr ⟨t, he, hS, ?_, .inl ⟨rfl, by simp⟩⟩⟩
      intro z
      apply n1
      rw [← List.mem_reverse, List.reverse_cons]
      exact z
theorem split_ways {n : Net} (ok : n.Ok) {S : List Nat} {t : Nat} (ht : n.place t = true) : ∀ (v : Nat) (f : Nat → Int), IsFlow n S t f v → ∃ rs : List (List Nat), rs.length = v ∧ (∀ w ∈ rs, w ∈ waysTo n S t ∧ ∀ k ∈ w, f k ≠ 0) ∧ rs.Pairwise fun w o => disB n w o = true
  | 0, f, _ => ⟨[], rfl, by simp, .nil⟩
  | v + 1, f, h => by
    have tl : t < n.js.length := by
      unfold Net.place at ht
      split at ht
      · rename_i x hx
        exact (List.getElem?_eq_some_iff.mp hx).1
      · cases ht
    obtain ⟨js, as, hs⟩ := (fall_reach ok h tl).simple
    obtain ⟨c1, c2, c3, c4⟩ := fall_cap h.cap hs
    obtain ⟨j, hj, he⟩ := along_exc (A := Pos n f) (fun _ _ _ _ r => r.1) f hs
    have hjn := begins_not hj
    have hjt : j ≠ t := fun z => by subst z; rw [ht] at hjn; cases hjn
    have fl : IsFlow n S t (along not f as) v := by
      refine ⟨c1, fun z hz hzt => ?_, ?_⟩
      · have hjz : j ≠ z := fun e => by subst e; rw [hz] at hjn; cases hjn
        rw [(he t js rfl z).2, h.kep z hz hzt, if_neg fun e => hzt e.symm, if_neg hjz]
        rfl
      · rw [(he t js rfl t).2, h.val, if_pos rfl, if_neg hjt]
        omega
    obtain ⟨rs, r1, r2, r3⟩ := split_ways ok ht v _ fl
    have way := way_full (S := S) (A := Pos n f) (fun k d x y a => pos_leads ok h.cap a) (fun _ _ _ _ r => r.1) ok hs ht
    refine ⟨(as.map (·.1)).reverse :: rs, by simp [r1], fun w hw => ?_, List.pairwise_cons.mpr ⟨fun o ho => ?_, r3⟩⟩
    · rcases List.mem_cons.mp hw with rfl | hw
      · refine ⟨way, fun k hk => ?_⟩
        rw [List.mem_reverse] at hk
        obtain ⟨a, ha, rfl⟩ := List.mem_map.mp hk
        exact c4 a ha
      · exact ⟨(r2 w hw).1, fun k hk z => (r2 w hw).2 k hk (c2 k z)⟩
    · unfold disB
      rw [decide_eq_true_eq]
      intro k hk hk2
      unfold gatesOn at hk hk2
      rw [List.mem_filter] at hk hk2
      obtain ⟨a, ha, rfl⟩ := List.mem_map.mp (List.mem_reverse.mp hk2.1)
      exact (r2 o ho).2 _ hk.1 (c3 a ha hk2.2)
theorem flow_up {n : Net} (ok : n.Ok) {S : List Nat} {t : Nat} (ht : n.place t = true) {m : Nat} (hm : ∀ l', l'.Sublist (gates n S) → l'.length < m → Reach n (S ++ l') t) : ∀ v, v ≤ m → ∃ f, IsFlow n S t f v
  | 0, _ => by
    refine ⟨fun _ => 0, ⟨fun _ _ => rfl, fun _ _ _ _ => by simp, fun _ _ _ _ => by simp⟩, fun z _ _ => ?_, ?_⟩
    · unfold exc
      rw [sumL_congr (g := fun _ => 0) fun k _ => by unfold excK; split <;> simp]
      exact sumL_zero _
    · unfold exc
      rw [sumL_congr (g := fun _ => 0) fun k _ => by unfold excK; split <;> simp]
      rw [sumL_zero]
      rfl
  | v + 1, hv => by
    obtain ⟨f, h⟩ := flow_up ok ht hm v (by omega)
    exact grow h ht (more ok h ht fun l' s e => hm l' s (by omega))
/-- as many ways apart as gates must be shut -/
theorem menger {n : Net} (ok : n.Ok) {S : List Nat} {t : Nat} (ht : n.place t = true) {l : List Nat} (h : fewL n S t = some l) : ∃ rs : List (List Nat), rs.length = l.length ∧ (∀ w ∈ rs, w ∈ waysTo n S t) ∧ rs.Pairwise fun w o => disB n w o = true := by
  obtain ⟨_, _, h3⟩ := fewL_some h
  obtain ⟨f, hf⟩ := flow_up ok ht h3 l.length (Nat.le_refl _)
  obtain ⟨rs, r1, r2, r3⟩ := split_ways ok ht _ f hf
  exact ⟨rs, r1, fun w hw => (r2 w hw).1, r3⟩
end WH
set_option Elab.async false
set_option linter.all false
set_option maxRecDepth 100000
set_option maxHeartbeats 4000000
namespace WH
open PySem PySem.Spec PyProof.Rows L2 DL He
/-! ### as many ways apart are found -/
theorem Path.reach {n : Net} {S l : List Nat} {t cur : Nat} {w : List Nat} (h : Path n S t cur w) (hc : Reach n (S ++ l) cur) (hw : ∀ k ∈ w, k ∉ l) : Reach n (S ++ l) t := by
  induction h with
  | one ld =>
    obtain ⟨p, hp, hS, he⟩ := ld
    exact .step hc ⟨p, hp, by simp [hS, hw _ (List.mem_singleton.mpr rfl)], he⟩
  | more ld _ ih =>
    obtain ⟨p, hp, hS, he⟩ := ld
    exact ih (.step hc ⟨p, hp, by simp [hS, hw _ List.mem_cons_self], he⟩) fun k hk => hw k (List.mem_cons_of_mem _ hk)
theorem gates_there {n : Net} {S l : List Nat} {t : Nat} (h1 : l.Sublist (gates n S)) (h2 : ¬ Reach n (S ++ l) t) {w : List Nat} (hw : w ∈ waysTo n S t) : gatesOn n w ≠ [] := fun z => by
  obtain ⟨j, hj, hp, _⟩ := waysTo_sound hw
  refine h2 (hp.reach (.base hj) fun k hk hkl => ?_)
  have hg := h1.subset hkl
  obtain ⟨p, hp, g, _⟩ := gates_mem.mp hg
  have : k ∈ gatesOn n w := List.mem_filter.mpr ⟨hk, by unfold gateB; rw [hp]; exact g⟩
  rw [z] at this
  cases this
theorem disB_ne {n : Net} {w o : List Nat} (h : disB n w o = true) (hw : gatesOn n w ≠ []) : o ≠ w := fun e => by
  subst e
  unfold disB at h
  rw [decide_eq_true_eq] at h
  cases q : gatesOn n o with
  | nil => exact hw q
  | cons a r =>
    have : a ∈ gatesOn n o := by rw [q]; simp
    exact h a this this
theorem disB_symm {n : Net} {w o : List Nat} (h : disB n w o = true) : disB n o w = true := by
  unfold disB at *
  rw [decide_eq_true_eq] at *
  exact fun k h1 h2 => h k h2 h1
theorem apart_found (n : Net) : ∀ (v : Nat) (ws rs : List (List Nat)), rs.length = v → (∀ w ∈ rs, w ∈ ws ∧ gatesOn n w ≠ []) → (rs.Pairwise fun w o => disB n w o = true) → (apartF n v ws).isSome = true
  | 0, ws, rs, _, _, _ => rfl
  | v + 1, ws, rs, hl, hin, hp => by
    show (apIn n (apartF n v) ws).isSome = true
    induction ws with
    | nil =>
      cases rs with
      | nil => simp at hl
      | cons w rs => exact absurd (hin w (by simp)).1 (by simp)
    | cons w ws ih =>
      simp only [apIn]
      cases q : apartF n v (ws.filter (disB n w)) with
      | some r => rfl
      | none =>
        dsimp only
        by_cases hw : w ∈ rs
        · obtain ⟨r1, r2, e⟩ := List.append_of_mem hw
          subst e
          rw [List.pairwise_append, List.pairwise_cons] at hp
          obtain ⟨p1, ⟨p2, p3⟩, p4⟩ := hp
          have hd : ∀ o ∈ r1 ++ r2, disB n w o = true := fun o ho => by
            rcases List.mem_append.mp ho with h | h
            · exact disB_symm (p4 o h w (by simp))
            · exact p2 o h
          have := apart_found n v (ws.filter (disB n w)) (r1 ++ r2) (by simp at hl ⊢; omega) (fun o ho => by
            have ho' : o ∈ r1 ++ w :: r2 := by
              rcases List.mem_append.mp ho with h | h <;> simp [h]
            obtain ⟨g1, g2⟩ := hin o ho'
            have ne := disB_ne (hd o ho) (hin w (by simp)).2
            refine ⟨List.mem_filter.mpr ⟨?_, hd o ho⟩, g2⟩
            rcases List.mem_cons.mp g1 with h | h
            · exact absurd h ne
            · exact h) (by
            rw [List.pairwise_append]
            exact ⟨p1, p3, fun a ha b hb => p4 a ha b (by simp [hb])⟩)
          rw [q] at this
          cases this
        · exact ih fun o ho => by
            obtain ⟨g1, g2⟩ := hin o ho
            refine ⟨?_, g2⟩
            rcases List.mem_cons.mp g1 with h | h
            · subst h; exact absurd ho hw
            · exact h
/-- what cut_of tells -/
theorem cutV_is {n : Net} (ok : n.Ok) {S : List Nat} {t : Nat} (ht : n.place t = true) : cutV n S t = .none ∨ ∃ (l : List Nat) (ws : List (List Nat)), cutV n S t = .tuple [lotD l, .tuple (ws.map lotD)] ∧ l.length ≤ 9 ∧ ws.length = l.length ∧ (∀ w ∈ ws, w.length ≤ 9 ∧ ∀ k ∈ w, k < n.ps.length) ∧ ∀ k ∈ l, k < n.ps.length := by
  unfold cutV
  cases q : fewL n S t with
  | none => exact .inl rfl
  | some l =>
    right
    obtain ⟨rs, r1, r2, r3⟩ := menger ok ht q
    obtain ⟨f1, f2, _⟩ := fewL_some q
    have hs := apart_found n l.length (waysTo n S t) rs r1 (fun w hw => ⟨r2 w hw, gates_there f1 f2 (r2 w hw)⟩) r3
    cases q2 : apartF n l.length (waysTo n S t) with
    | none => rw [q2] at hs; cases hs
    | some ws =>
      obtain ⟨g1, g2⟩ := apartF_len n _ _ _ q2
      refine ⟨l, ws, by show PyData.tuple [lotD l, apD (apartF n l.length (waysTo n S t))] = _; rw [q2]; rfl, Nat.le_trans f1.length_le (Nat.le_trans (gatesF_len S n.ps 0) ok.p1), g1, fun w hw => ?_, fun k hk => ?_⟩
      · obtain ⟨j, _, h1, h2⟩ := waysTo_sound (g2 w hw)
        exact ⟨h2, fun k hk => (h1.lt.2 k hk).1⟩
      · obtain ⟨p, hp, _⟩ := gates_mem.mp (f1.subset hk)
        exact (List.getElem?_eq_some_iff.mp hp).1
/-! ### rows of numbers -/
def natsOf (M : Nat) : List PyData → Option (List Nat)
  | [] => some []
  | .int i :: r => if 0 ≤ i ∧ i < M then (match natsOf M r with
    | some L => some (i.toNat :: L)
    | none => none) else none
  | _ :: _ => none
theorem natsOf_some {M : Nat} : ∀ {xs : List PyData} {L : List Nat}, natsOf M xs = some L → xs = nD L ∧ ∀ k ∈ L, k < M
  | [], L, h => by cases h; exact ⟨rfl, by simp⟩
  | d :: r, L, h => by
    cases d with
    | int i =>
      simp only [natsOf] at h
      split at h
      · rename_i hi
        cases q : natsOf M r with
        | none => rw [q] at h; cases h
        | some L' =>
          rw [q] at h
          cases h
          obtain ⟨h1, h2⟩ := natsOf_some q
          refine ⟨?_, fun k hk => ?_⟩
          · rw [nD_cons, h1]
            have : ((i.toNat : Nat) : Int) = i := by omega
            simp [iD, this]
          · rcases List.mem_cons.mp hk with rfl | hk
            · omega
            · exact h2 k hk
      · cases h
    | _ => simp [natsOf] at h
theorem natsOf_num {M : Nat} : ∀ xs : List PyData, (xs.all fun d => numB d 0 ((M : Int) - 1)) = (natsOf M xs).isSome
  | [] => rfl
  | d :: r => by
    have ih := natsOf_num (M := M) r
    rw [List.all_cons, ih]
    cases d with
    | int i =>
      simp only [natsOf, numB]
      by_cases h1 : 0 ≤ i
      · by_cases h2 : i < M
        · rw [if_pos ⟨h1, h2⟩]
          have h3 : i ≤ (M : Int) - 1 := by omega
          cases q : natsOf M r <;> simp [h1, h3]
        · rw [if_neg fun z => h2 z.2]
          have h3 : ¬ i ≤ (M : Int) - 1 := by omega
          simp [h1, h3]
      · rw [if_neg fun z => h1 z.1]
        simp [h1]
    | _ => simp [natsOf, numB]
theorem natsOf_nD {M : Nat} : ∀ {L : List Nat}, (∀ k ∈ L, k < M) → natsOf M (nD L) = some L
  | [], _ => rfl
  | k :: L, h => by
    rw [nD_cons]
    simp only [natsOf, iD]
    rw [if_pos ⟨by omega, by have := h k (by simp); omega⟩, natsOf_nD fun x hx => h x (by simp [hx])]
    simp
/-- each is less than the next -/
def adjB : List Nat → Bool
  | a :: b :: r => decide (a < b) && adjB (b :: r)
  | _ => true
theorem adjB_iff : ∀ {L : List Nat}, adjB L = true ↔ L.Pairwise (· < ·)
  | [] => by simp [adjB]
  | [a] => by simp [adjB]
  | a :: b :: r => by
    simp only [adjB, Bool.and_eq_true, decide_eq_true_eq, adjB_iff (L := b :: r)]
    constructor
    · rintro ⟨h1, h2⟩
      rw [List.pairwise_cons]
      refine ⟨fun x hx => ?_, h2⟩
      rcases List.mem_cons.mp hx with rfl | hx
      · exact h1
      · have := List.rel_of_pairwise_cons h2 hx
        omega
    · intro h
      exact ⟨List.rel_of_pairwise_cons h (by simp), (List.pairwise_cons.mp h).2⟩
def pairN : List Nat → List (Nat × Nat)
  | a :: b :: r => (a, b) :: pairN (b :: r)
  | _ => []
theorem pairN_eq : ∀ L : List Nat, pairL ((nD L).take (L.length - 1)) ((nD L).drop 1) = (pairN L).map fun p => .tuple [iD p.1, iD p.2]
  | [] => rfl
  | [a] => rfl
  | a :: b :: r => by
    have ih := pairN_eq (b :: r)
    simp only [nD_cons, List.length_cons, Nat.add_sub_cancel, List.take_succ_cons, List.drop_succ_cons, List.drop_zero] at ih ⊢
    simp only [pairL, pairN, List.map_cons]
    rw [← ih]
theorem pairN_all : ∀ L : List Nat, ((pairN L).all fun p => decide (p.1 < p.2)) = adjB L
  | [] => rfl
  | [a] => rfl
  | a :: b :: r => by simp only [pairN, List.all_cons, adjB, pairN_all (b :: r)]
theorem pairN_len : ∀ L : List Nat, (pairN L).length ≤ L.length
  | [] => by simp [pairN]
  | [a] => by simp [pairN]
  | a :: b :: r => by have := pairN_len (b :: r); simp only [pairN, List.length_cons] at this ⊢; omega
theorem rising_eq {L : List Nat} (hl : L.length ≤ 1000) : m_are_rising [.val (.tuple (nD L))] = M.ok (.val (.bool (adjB L)), [some (.val (.tuple (nD L)))]) := by
  have c1 : DL.cutD (nD L) none (some (-1)) = (nD L).take (L.length - 1) := by
    unfold DL.cutD
    have : HT.sIx (nD L).length (nD L).length (some (-1)) = L.length - 1 := by
      unfold HT.sIx
      simp
      omega
    rw [this]
    simp [HT.sIx]
  have c2 : DL.cutD (nD L) (some 1) none = (nD L).drop 1 := by
    have := cut_from (nD L) 1
    exact_mod_cast this
  have x1 : lcL (gtTup (gtCons (gtName 1) (gtCons (gtName 2) gtNil))) yesF (e2 ltD (eVar 1) (eVar 2)) [1, 2] (pairL ((nD L).take (L.length - 1)) ((nD L).drop 1)) [] [some (.val (.tuple (nD L))), none, none] =
      some (.ok ((pairN L).map fun p => .bool (decide (p.1 < p.2)), [some (.val (.tuple (nD L))), none, none])) := by
    rw [pairN_eq]
    exact lcL_typM (enc := fun p : Nat × Nat => .tuple [iD p.1, iD p.2]) (h := fun p => .bool (decide (p.1 < p.2))) (fun p hp => by simp [iD]) (by have := pairN_len L; simp; omega)
  have b1 : boolsOf ((pairN L).map fun p => PyData.bool (decide (p.1 < p.2))) = some ((pairN L).map fun p => decide (p.1 < p.2)) := boolsOf_map
  have a1 : ((pairN L).map fun p => decide (p.1 < p.2)).all id = adjB L := by
    rw [List.all_map, ← pairN_all L]; rfl
  simp [m_are_rising, f_are_rising, c1, c2, x1, b1, -List.drop_one, -List.all_map, a1]
end WH
set_option Elab.async false
set_option linter.all false
set_option maxRecDepth 100000
set_option maxHeartbeats 4000000
namespace WH
open PySem PySem.Spec PyProof.Rows L2 DL He
/-! ### is_cut -/
def gatesB (n : Net) (S : List Nat) (g : PyData) : Option (List Nat) := match g with
  | .tuple gs => match natsOf n.ps.length gs with
    | some L => if (∀ k ∈ L, k ∈ gates n S) ∧ adjB L = true then some L else none
    | none => none
  | _ => none
theorem are_gates_eq {n : Net} (ok : n.Ok) (S : List Nat) (g : PyData) (hg : ∀ gs, g = .tuple gs → gs.length ≤ 1000) : m_are_gates [.val n.D, .val (.tuple (nD S)), .val g] = M.ok (.val (.bool (gatesB n S g).isSome), [some (.val n.D), some (.val (.tuple (nD S))), some (.val g)]) := by
  have y1 : n.D = .tuple [.tuple (n.js.map Joint.D), .tuple (n.ps.map Pipe.D)] := rfl
  have ge := gates_eq ok S
  cases g with
  | tuple gs =>
    have hl := hg gs rfl
    have x1 : lcL (gtName 4) yesF (callV m_is_number [] (aCons (eVar 4) (aCons (eC (.int 0)) (aCons (e2 subD (eCB lenD (aCons (e2 ixD (eVar 0) (eC (.int 1))) aNil)) (eC (.int 1))) aNil)))) [4] gs [] [some (.val n.D), some (.val (.tuple (nD S))), some (.val (.tuple gs)), some (.own (.lst (nD (gates n S)))), none] =
        some (.ok (gs.map fun d => .bool (numB d 0 ((n.ps.length : Int) - 1)), [some (.val n.D), some (.val (.tuple (nD S))), some (.val (.tuple gs)), some (.own (.lst (nD (gates n S)))), none])) := by
      have := lcL_typM (gt := gtName 4) (ft := yesF) (fe := callV m_is_number [] (aCons (eVar 4) (aCons (eC (.int 0)) (aCons (e2 subD (eCB lenD (aCons (e2 ixD (eVar 0) (eC (.int 1))) aNil)) (eC (.int 1))) aNil)))) (vs := [4]) (env := [some (.val n.D), some (.val (.tuple (nD S))), some (.val (.tuple gs)), some (.own (.lst (nD (gates n S)))), none]) (enc := id) (h := fun d => .bool (numB d 0 ((n.ps.length : Int) - 1))) (l := gs) (fun d hd => by simp [y1, is_number_eq]) (by simp; omega)
      simpa using this
    have b1 : boolsOf (gs.map fun d => PyData.bool (numB d 0 ((n.ps.length : Int) - 1))) = some (gs.map fun d => numB d 0 ((n.ps.length : Int) - 1)) := boolsOf_map
    have a1 : (gs.map fun d => numB d 0 ((n.ps.length : Int) - 1)).all id = (natsOf n.ps.length gs).isSome := by
      rw [List.all_map, ← natsOf_num]; rfl
    cases q : natsOf n.ps.length gs with
    | none =>
      rw [q] at a1
      simp [m_are_gates, f_are_gates, ge, isiB, x1, b1, a1, gatesB, q, -List.all_map]
    | some L =>
      rw [q] at a1
      obtain ⟨rfl, hL⟩ := natsOf_some q
      have hl' : L.length ≤ 1000 := by simpa using hl
      have x2 : lcL (gtName 4) yesF (e2 inD (eVar 4) (eVar 3)) [4] (nD L) [] [some (.val n.D), some (.val (.tuple (nD S))), some (.val (.tuple (nD L))), some (.own (.lst (nD (gates n S)))), none] =
          some (.ok (L.map fun k => .bool (decide (k ∈ gates n S)), [some (.val n.D), some (.val (.tuple (nD S))), some (.val (.tuple (nD L))), some (.own (.lst (nD (gates n S)))), none])) :=
        lcL_typM (enc := iD) (h := fun k => .bool (decide (k ∈ gates n S))) (l := L) (fun k hk => by simp [iD]) (by simp; omega)
      have b2 : boolsOf (L.map fun k => PyData.bool (decide (k ∈ gates n S))) = some (L.map fun k => decide (k ∈ gates n S)) := boolsOf_map
      by_cases c : ∀ k ∈ L, k ∈ gates n S
      · have a2 : (L.map fun k => decide (k ∈ gates n S)).all id = true := by
          rw [List.all_map, List.all_eq_true]
          intro k hk
          simpa using c k hk
        have gb : (gatesB n S (.tuple (nD L))).isSome = adjB L := by
          simp only [gatesB, q]
          by_cases r : adjB L = true
          · rw [if_pos ⟨c, r⟩, r]; rfl
          · rw [if_neg fun z => r z.2, Bool.eq_false_iff.mpr r]; rfl
        rw [gb]
        simp [m_are_gates, f_are_gates, ge, isiB, x1, b1, a1, x2, b2, a2, rising_eq hl', -List.all_map]
      · have a2 : (L.map fun k => decide (k ∈ gates n S)).all id = false := by
          rw [Bool.eq_false_iff]
          intro z
          rw [List.all_map, List.all_eq_true] at z
          exact c fun k hk => by simpa using z k hk
        have gb : (gatesB n S (.tuple (nD L))).isSome = false := by
          simp only [gatesB, q]
          rw [if_neg fun z => c z.1]; rfl
        rw [gb]
        simp [m_are_gates, f_are_gates, ge, isiB, x1, b1, a1, x2, b2, a2, -List.all_map]
  | _ => simp [m_are_gates, f_are_gates, ge, isiB, gatesB]
def ledW (n : Net) : Option Nat → List Nat → Option Nat
  | o, [] => o
  | none, _ :: w => ledW n none w
  | some j, k :: w => ledW n (match n.ps[k]? with
    | some p => endFrom p j
    | none => none) w
def ledU : FS := asgF 1 (eIf (eT (e2 isD (eVar 1) (eC .none))) (eC .none) (callV m_end_from [] (aCons (e2 ixD (e2 ixD (eVar 0) (eC (.int 1))) (eVar 3)) (aCons (eVar 1) aNil))))
theorem led_walk (n : Net) (full : List PyData) : ∀ (w : List Nat) (o : Option Nat) (c : Option Sl), Vac c → (∀ k ∈ w, k < n.ps.length) →
    ∃ c', Vac c' ∧ forL (gtName 3) ledU (nD w) [some (.val n.D), some (.val (oD o)), some (.val (.tuple full)), c] = M.ok (.nx [some (.val n.D), some (.val (oD (ledW n o w))), some (.val (.tuple full)), c'])
  | [], o, c, hc, _ => ⟨c, hc, by cases o <;> simp [ledW]⟩
  | k :: w, o, c, hc, h => by
    have hk := h k (by simp)
    have e := pick_p n hk
    have hp : n.ps[k]? = some n.ps[k] := List.getElem?_eq_getElem hk
    have y1 : n.D = .tuple [.tuple (n.js.map Joint.D), .tuple (n.ps.map Pipe.D)] := rfl
    cases o with
    | none =>
      obtain ⟨c', h1, h2⟩ := led_walk n full w none (some (.val (iD k))) (.inr ⟨_, rfl⟩) fun x hx => h x (by simp [hx])
      refine ⟨c', h1, ?_⟩
      rw [nD_cons, forL_step]
      have : forStep (gtName 3) ledU (iD k) [some (.val n.D), some (.val (oD none)), some (.val (.tuple full)), c] = M.ok (.nx [some (.val n.D), some (.val (oD none)), some (.val (.tuple full)), some (.val (iD k))]) := by
        rcases hc with rfl | ⟨d, rfl⟩ <;> simp [ledU, oD]
      rw [this]
      exact h2
    | some j =>
      obtain ⟨c', h1, h2⟩ := led_walk n full w (endFrom n.ps[k] j) (some (.val (iD k))) (.inr ⟨_, rfl⟩) fun x hx => h x (by simp [hx])
      refine ⟨c', h1, ?_⟩
      rw [nD_cons, forL_step]
      have ee := end_eq n.ps[k] j
      have : forStep (gtName 3) ledU (iD k) [some (.val n.D), some (.val (oD (some j))), some (.val (.tuple full)), c] = M.ok (.nx [some (.val n.D), some (.val (oD (endFrom n.ps[k] j))), some (.val (.tuple full)), some (.val (iD k))]) := by
        rcases hc with rfl | ⟨d, rfl⟩ <;> simp [ledU, oD, iD, y1, e, ee]
      rw [this]
      simp only [ledW, hp]
      exact h2
theorem led_eq {n : Net} {w : List Nat} (h : ∀ k ∈ w, k < n.ps.length) (j : Nat) : m_led_along [.val n.D, .val (.int (j : Int)), .val (.tuple (nD w))] = M.ok (.val (oD (ledW n (some j) w)), [some (.val n.D), some (.val (.int (j : Int))), some (.val (.tuple (nD w)))]) := by
  obtain ⟨c, _, x⟩ := led_walk n (nD w) w (some j) none (.inl rfl) h
  have z : seqI (eVar 2) [some (.val n.D), some (.val (oD (some j))), some (.val (.tuple (nD w))), none] = M.ok (nD w, [some (.val n.D), some (.val (oD (some j))), some (.val (.tuple (nD w))), none]) := by simp
  rw [← for_run z] at x
  have h1 : f_led_along ([Sl.val n.D, .val (.int (j : Int)), .val (.tuple (nD w))].map some ++ List.replicate 1 none) = M.ok (.rt (.val (oD (ledW n (some j) w))) [some (.val n.D), some (.val (oD (ledW n (some j) w))), some (.val (.tuple (nD w))), c]) := by
    show seqF (forF (seqI (eVar 2)) (gtName 3) ledU) (retF (eVar 1)) [some (.val n.D), some (.val (oD (some j))), some (.val (.tuple (nD w))), none] = _
    rw [seq_nx x]
    simp
  unfold m_led_along
  rw [body_rt (by rfl) h1]
  rfl
def wayB (n : Net) (S : List Nat) (t : Nat) (w : PyData) : Option (List Nat) := match w with
  | .tuple xs => match natsOf n.ps.length xs with
    | some W => if W ≠ [] ∧ (∀ k ∈ W, k ∉ S) ∧ (∃ j ∈ begins n, ledW n (some j) W = some t) then some W else none
    | none => none
  | _ => none
structure WOk (w : PyData) : Prop where
  tup : ∀ xs, w = .tuple xs → xs.length ≤ 100 ∧ SeqAt.shaped (.tuple xs) = true
theorem eq_tup0 {xs : List PyData} (h : SeqAt.shaped (.tuple xs) = true) : eqD (.tuple xs) (.tuple []) = some (.val (.bool (decide (xs = [])))) := by
  rw [eqT h nil_sh]
  cases xs <;> simp [PyData.eqv, PyData.eqvAll]
theorem eq_o (o : Option Nat) (t : Nat) : eqD (oD o) (.int (t : Int)) = some (.val (.bool (decide (o = some t)))) := by
  cases o with
  | none =>
    unfold oD
    rw [eqT (by decide) (sh_i _)]
    simp [PyData.eqv]
  | some k =>
    unfold oD iD
    by_cases h : k = t
    · subst h; simp
    · have h' : ¬ (k : Int) = t := by omega
      simp [h, beqF h']
theorem is_way_eq {n : Net} (ok : n.Ok) (S : List Nat) (t : Nat) (w : PyData) (hw : WOk w) : m_is_way [.val n.D, .val (.int (t : Int)), .val (.tuple (nD S)), .val w] = M.ok (.val (.bool (wayB n S t w).isSome), [some (.val n.D), some (.val (.int (t : Int))), some (.val (.tuple (nD S))), some (.val w)]) := by
  have y1 : n.D = .tuple [.tuple (n.js.map Joint.D), .tuple (n.ps.map Pipe.D)] := rfl
  have be := begins_eq n ok
  have b7 := begins_7 ok
  cases w with
  | tuple xs =>
    obtain ⟨hl, hs⟩ := hw.tup xs rfl
    have x1 : lcL (gtName 4) yesF (callV m_is_number [] (aCons (eVar 4) (aCons (eC (.int 0)) (aCons (e2 subD (eCB lenD (aCons (e2 ixD (eVar 0) (eC (.int 1))) aNil)) (eC (.int 1))) aNil)))) [4] xs [] [some (.val n.D), some (.val (.int (t : Int))), some (.val (.tuple (nD S))), some (.val (.tuple xs)), none, none, none] =
        some (.ok (xs.map fun d => .bool (numB d 0 ((n.ps.length : Int) - 1)), [some (.val n.D), some (.val (.int (t : Int))), some (.val (.tuple (nD S))), some (.val (.tuple xs)), none, none, none])) := by
      have := lcL_typM (gt := gtName 4) (ft := yesF) (fe := callV m_is_number [] (aCons (eVar 4) (aCons (eC (.int 0)) (aCons (e2 subD (eCB lenD (aCons (e2 ixD (eVar 0) (eC (.int 1))) aNil)) (eC (.int 1))) aNil)))) (vs := [4]) (env := [some (.val n.D), some (.val (.int (t : Int))), some (.val (.tuple (nD S))), some (.val (.tuple xs)), none, none, none]) (enc := id) (h := fun d => .bool (numB d 0 ((n.ps.length : Int) - 1))) (l := xs) (fun d hd => by simp [y1, is_number_eq]) (by simp; omega)
      simpa using this
    have b1 : boolsOf (xs.map fun d => PyData.bool (numB d 0 ((n.ps.length : Int) - 1))) = some (xs.map fun d => numB d 0 ((n.ps.length : Int) - 1)) := boolsOf_map
    have a1 : (xs.map fun d => numB d 0 ((n.ps.length : Int) - 1)).all id = (natsOf n.ps.length xs).isSome := by
      rw [List.all_map, ← natsOf_num]; rfl
    have e0 := eq_tup0 hs
    by_cases h0 : xs = []
    · subst h0
      simp [m_is_way, f_is_way, isiB, e0, wayB, natsOf]
    · have e0' : eqD (.tuple xs) (.tuple []) = some (.val (.bool false)) := by rw [e0]; simp [h0]
      cases q : natsOf n.ps.length xs with
      | none =>
        rw [q] at a1
        simp [m_is_way, f_is_way, isiB, e0', x1, b1, a1, wayB, q, -List.all_map]
      | some W =>
        rw [q] at a1
        obtain ⟨rfl, hW⟩ := natsOf_some q
        have hl' : W.length ≤ 100 := by simpa using hl
        have W0 : W ≠ [] := fun z => h0 (by rw [z]; rfl)
        have x2 : lcL (gtName 5) yesF (e2 inD (eVar 5) (eVar 2)) [5] (nD W) [] [some (.val n.D), some (.val (.int (t : Int))), some (.val (.tuple (nD S))), some (.val (.tuple (nD W))), none, none, none] =
            some (.ok (W.map fun k => .bool (decide (k ∈ S)), [some (.val n.D), some (.val (.int (t : Int))), some (.val (.tuple (nD S))), some (.val (.tuple (nD W))), none, none, none])) :=
          lcL_typM (enc := iD) (h := fun k => .bool (decide (k ∈ S))) (l := W) (fun k hk => by simp [iD]) (by simp; omega)
        have b2 : boolsOf (W.map fun k => PyData.bool (decide (k ∈ S))) = some (W.map fun k => decide (k ∈ S)) := boolsOf_map
        have x3 : lcL (gtName 6) yesF (e2 eqD (callV m_led_along [] (aCons (eVar 0) (aCons (eVar 6) (aCons (eVar 3) aNil)))) (eVar 1)) [6] (nD (begins n)) [] [some (.val n.D), some (.val (.int (t : Int))), some (.val (.tuple (nD S))), some (.val (.tuple (nD W))), none, none, none] =
            some (.ok ((begins n).map fun j => .bool (decide (ledW n (some j) W = some t)), [some (.val n.D), some (.val (.int (t : Int))), some (.val (.tuple (nD S))), some (.val (.tuple (nD W))), none, none, none])) :=
          lcL_typM (enc := iD) (h := fun j => .bool (decide (ledW n (some j) W = some t))) (l := begins n) (fun j hj => by simp [iD, led_eq hW, eq_o]) (by simp; omega)
        have b3 : boolsOf ((begins n).map fun j => PyData.bool (decide (ledW n (some j) W = some t))) = some ((begins n).map fun j => decide (ledW n (some j) W = some t)) := boolsOf_map
        by_cases c : ∀ k ∈ W, k ∉ S
        · have a2 : (W.map fun k => decide (k ∈ S)).any id = false := by
            rw [Bool.eq_false_iff]
            intro z
            rw [List.any_map, List.any_eq_true] at z
            obtain ⟨k, hk, h2⟩ := z
            exact c k hk (by simpa using h2)
          by_cases c3 : ∃ j ∈ begins n, ledW n (some j) W = some t
          · have a3 : ((begins n).map fun j => decide (ledW n (some j) W = some t)).any id = true := by
              rw [List.any_map, List.any_eq_true]
              obtain ⟨j, hj, h3⟩ := c3
              exact ⟨j, hj, by simpa using h3⟩
            have wb : wayB n S t (.tuple (nD W)) = some W := by
              simp only [wayB, q]
              rw [if_pos ⟨W0, c, c3⟩]
            rw [wb]
            simp [m_is_way, f_is_way, isiB, e0', x1, b1, a1, x2, b2, a2, be, x3, b3, a3, -List.all_map, -List.any_map]
          · have a3 : ((begins n).map fun j => decide (ledW n (some j) W = some t)).any id = false := by
              rw [Bool.eq_false_iff]
              intro z
              rw [List.any_map, List.any_eq_true] at z
              obtain ⟨j, hj, h3⟩ := z
              exact c3 ⟨j, hj, by simpa using h3⟩
            have wb : wayB n S t (.tuple (nD W)) = none := by
              simp only [wayB, q]
              rw [if_neg fun z => c3 z.2.2]
            rw [wb]
            simp [m_is_way, f_is_way, isiB, e0', x1, b1, a1, x2, b2, a2, be, x3, b3, a3, -List.all_map, -List.any_map]
        · have a2 : (W.map fun k => decide (k ∈ S)).any id = true := by
            rw [List.any_map, List.any_eq_true]
            refine Classical.byContradiction fun z => c fun k hk hS => z ⟨k, hk, by simpa using hS⟩
          have wb : wayB n S t (.tuple (nD W)) = none := by
            simp only [wayB, q]
            rw [if_neg fun z => c z.2.1]
          rw [wb]
          simp [m_is_way, f_is_way, isiB, e0', x1, b1, a1, x2, b2, a2, -List.all_map, -List.any_map]
  | _ => simp [m_is_way, f_is_way, isiB, wayB]
end WH
set_option Elab.async false
set_option linter.all false
set_option maxRecDepth 100000
set_option maxHeartbeats 4000000
namespace WH
open PySem PySem.Spec PyProof.Rows L2 DL He
/-! ### sets of numbers -/
def zL (L : List Nat) : List Int := L.map fun k : Nat => (k : Int)
theorem intsOf_n : ∀ L : List Nat, intsOf (nD L) = some (zL L)
  | [] => rfl
  | k :: L => by rw [nD_cons]; simp [intsOf, asInt, iD, intsOf_n L, zL]
theorem zL_lt {L : List Nat} : (zL L).Pairwise (· < ·) ↔ L.Pairwise (· < ·) := by
  unfold zL
  rw [List.pairwise_map]
  constructor <;> intro h <;> exact h.imp fun h => by omega
theorem sortU_id {L : List Nat} : sortU (zL L) = zL L ↔ adjB L = true := by
  rw [adjB_iff, ← zL_lt]
  constructor
  · intro h
    have := sortU_lt (zL L)
    rw [h] at this
    exact this
  · intro h
    exact rising_one (sortU_lt _) h fun x => sortU_mem
theorem insU_len {i : Int} : ∀ {l : List Int}, l.Pairwise (· < ·) → (insU i l).length = if i ∈ l then l.length else l.length + 1
  | [], _ => by simp [insU]
  | j :: r, h => by
    obtain ⟨h1, h2⟩ := List.pairwise_cons.mp h
    unfold insU
    by_cases h3 : i < j
    · have : i ∉ j :: r := fun z => by
        rcases List.mem_cons.mp z with e | e
        · omega
        · have := h1 i e; omega
      rw [if_pos h3, if_neg this]; rfl
    · rw [if_neg h3]
      by_cases h4 : i = j
      · rw [if_pos h4, if_pos (by simp [h4])]
      · rw [if_neg h4, List.length_cons, insU_len h2]
        by_cases h5 : i ∈ r
        · rw [if_pos h5, if_pos (by simp [h5])]; rfl
        · rw [if_neg h5, if_neg (by simp [h4, h5])]; rfl
theorem sortU_len : ∀ l : List Int, (sortU l).length ≤ l.length ∧ ((sortU l).length = l.length ↔ l.Nodup)
  | [] => by simp [sortU]
  | i :: r => by
    obtain ⟨h1, h2⟩ := sortU_len r
    have h3 := insU_len (i := i) (sortU_lt r)
    unfold sortU
    rw [h3]
    simp only [sortU_mem, List.length_cons, List.nodup_cons]
    by_cases h4 : i ∈ r
    · rw [if_pos h4]
      refine ⟨by omega, ⟨fun h => by omega, fun h => absurd h4 h.1⟩⟩
    · rw [if_neg h4]
      refine ⟨by omega, ⟨fun h => ⟨h4, h2.mp (by omega)⟩, fun h => by rw [h2.mpr h.2]⟩⟩
theorem zL_nodup {L : List Nat} : (zL L).Nodup ↔ L.Nodup := by
  unfold zL List.Nodup
  rw [List.pairwise_map]
  constructor <;> intro h <;> exact h.imp fun h => by omega
@[simp] theorem s_eLenSet {fe : FE} {env : EnvD} : eLenSet fe env = M.bind (fe env) fun p => match rd (fz p.1) p.2 with
  | some (.list ds) => match intsOf ds with
    | some ns => if ds.length ≤ 4000 then M.ok (.val (.int ((sortU ns).length : Nat)), p.2) else none
    | none => none
  | _ => none := rfl
@[simp] theorem s_eSrtSet {fe : FE} {env : EnvD} : eSrtSet fe env = M.bind (fe env) fun p => match rd (fz p.1) p.2 with
  | some (.tuple ds) => match intsOf ds with
    | some ns => if ds.length ≤ 63 then M.ok (.own (.lst ((sortU ns).map .int)), p.2) else none
    | none => none
  | _ => none := rfl
/-! ### is_cut -/
noncomputable def waysN (n : Net) (S : List Nat) (t : Nat) (ws : List PyData) : List (List Nat) := ws.map fun w => (wayB n S t w).getD []
open Classical in
noncomputable def cutB (n : Net) (S : List Nat) (t : Nat) (g : PyData) (ws : List PyData) : Bool := match gatesB n S g with
  | some L => decide (L.length = ws.length ∧ ¬ Reach n (S ++ L) t ∧ (∀ w ∈ ws, (wayB n S t w).isSome = true) ∧ ((waysN n S t ws).flatMap (gatesOn n)).Nodup)
  | none => false
structure GOk (g : PyData) : Prop where
  tup : ∀ gs, g = .tuple gs → gs.length ≤ 60
theorem gatesB_some {n : Net} {S : List Nat} {g : PyData} {L : List Nat} (h : gatesB n S g = some L) : g = .tuple (nD L) ∧ (∀ k ∈ L, k ∈ gates n S) ∧ adjB L = true := by
  unfold gatesB at h
  split at h
  · split at h
    · rename_i L' q
      split at h
      · rename_i hc
        cases h
        exact ⟨by rw [(natsOf_some q).1], hc⟩
      · cases h
    · cases h
  · cases h
theorem wayB_some {n : Net} {S : List Nat} {t : Nat} {w : PyData} {W : List Nat} (h : wayB n S t w = some W) : w = .tuple (nD W) ∧ (∀ k ∈ W, k < n.ps.length) ∧ W ≠ [] ∧ (∀ k ∈ W, k ∉ S) ∧ ∃ j ∈ begins n, ledW n (some j) W = some t := by
  unfold wayB at h
  split at h
  · split at h
    · rename_i L' q
      split at h
      · rename_i hc
        cases h
        exact ⟨by rw [(natsOf_some q).1], (natsOf_some q).2, hc⟩
      · cases h
    · cases h
  · cases h
theorem passed_walk {n : Net} (env0 : Option Sl) {place thing shut g w5 o6 : Option Sl} : ∀ (Ws : List (List Nat)) (acc : List PyData), (∀ W ∈ Ws, W.length ≤ 100 ∧ ∀ k ∈ W, k < n.ps.length) → acc.length + 100 * Ws.length ≤ 100000 →
    lc2L (gtName 7) yesF (seqI (callV m_gates_on [] (aCons (eVar 0) (aCons (eVar 7) aNil)))) (gtName 8) yesF (eVar 8) [7, 8] [8] (Ws.map lotD) acc [some (.val n.D), place, thing, shut, g, w5, o6, none, none] =
      M.ok (acc ++ nD (Ws.flatMap (gatesOn n)), [some (.val n.D), place, thing, shut, g, w5, o6, none, none])
  | [], acc, _, _ => by simp [lc2L]
  | W :: Ws, acc, h, hl => by
    obtain ⟨h1, h2⟩ := h W (by simp)
    have e := gates_on_eq h2 (by omega)
    have gl : (gatesOn n W).length ≤ W.length := List.length_filter_le _ _
    simp only [List.length_cons] at hl
    have inner : lcL (gtName 8) yesF (eVar 8) [8] (nD (gatesOn n W)) acc [some (.val n.D), place, thing, shut, g, w5, o6, some (.val (.tuple (nD W))), none] =
        M.ok (acc ++ nD (gatesOn n W), [some (.val n.D), place, thing, shut, g, w5, o6, some (.val (.tuple (nD W))), none]) := by
      refine (lcL_typ (gt := gtName 8) (ft := yesF) (fe := eVar 8) (vs := [8]) (env := [some (.val n.D), place, thing, shut, g, w5, o6, some (.val (.tuple (nD W))), none]) (enc := iD) (h := fun k => some (iD k)) (l := gatesOn n W) (acc := acc) (fun k hk => by simp) (by simp; omega)).trans ?_
      simp [nD]
    have ih := passed_walk env0 (place := place) (thing := thing) (shut := shut) (g := g) (w5 := w5) (o6 := o6) Ws (acc ++ nD (gatesOn n W)) (fun x hx => h x (by simp [hx])) (by simp only [List.length_append, nD_len]; omega)
    rw [List.map_cons]
    unfold lc2L
    simp [lotD, e, inner, ih, nD_app]
theorem flat_bound {Ws : List (List Nat)} {n : Net} (h : ∀ W ∈ Ws, W.length ≤ 100) : (Ws.flatMap (gatesOn n)).length ≤ 100 * Ws.length := by
  have := flat_len (l := Ws) (f := gatesOn n) (B := 100) fun W hW => Nat.le_trans (List.length_filter_le _ _) (h W hW)
  omega
open Classical in
theorem is_cut_eq {n : Net} (ok : n.Ok) {S : List Nat} (hS : ShutOk n S) {t : Nat} (ht : n.place t = true) (g : PyData) (ws : List PyData) (hg : GOk g) (hw : ∀ w ∈ ws, WOk w) (hl : ws.length ≤ 30) :
    m_is_cut [.val n.D, .val (.int (t : Int)), .val (.tuple [g, .tuple ws]), .val (.tuple (nD S))] = M.ok (.val (.bool (cutB n S t g ws)), [some (.val n.D), some (.val (.int (t : Int))), some (.val (.tuple [g, .tuple ws])), some (.val (.tuple (nD S)))]) := by
  have nc := need_cut_eq ok hS ht
  have ag := are_gates_eq ok S g fun gs e => by have := hg.tup gs e; omega
  cases q : gatesB n S g with
  | none =>
    rw [q] at ag
    simp [m_is_cut, f_is_cut, nc, isiB, ag, cutB, q]
  | some L =>
    rw [q] at ag
    obtain ⟨rfl, g1, g2⟩ := gatesB_some q
    have l60 : L.length ≤ 60 := by simpa using hg.tup _ rfl
    have s9 : S.length ≤ 9 := Nat.le_trans hS.len ok.p1
    by_cases hlen : L.length = ws.length
    · have hlen' : (L.length : Int) = ws.length := by omega
      obtain ⟨F, fe, hF⟩ := fed_eq ok (S ++ L)
      rw [nD_app] at fe
      have h2 : S.length + ws.length ≤ 100000 := by omega
      by_cases hr : Reach n (S ++ L) t
      · have hm := (hF t).mpr hr
        have cb : cutB n S t (.tuple (nD L)) ws = false := by
          simp only [cutB, q]
          exact decide_eq_false fun z => z.2.1 hr
        rw [cb]
        simp [m_is_cut, f_is_cut, nc, isiB, ag, hlen, hlen', h2, fe, hm]
      · have hm : ¬ t ∈ F := fun z => hr ((hF t).mp z)
        have x1 : ∀ o6, lcL (gtName 7) yesF (callV m_is_way [] (aCons (eVar 0) (aCons (eVar 1) (aCons (eVar 3) (aCons (eVar 7) aNil))))) [7] ws [] [some (.val n.D), some (.val (.int (t : Int))), some (.val (.tuple [.tuple (nD L), .tuple ws])), some (.val (.tuple (nD S))), some (.val (.tuple (nD L))), some (.val (.tuple ws)), o6, none, none] =
            some (.ok (ws.map fun w => .bool (wayB n S t w).isSome, [some (.val n.D), some (.val (.int (t : Int))), some (.val (.tuple [.tuple (nD L), .tuple ws])), some (.val (.tuple (nD S))), some (.val (.tuple (nD L))), some (.val (.tuple ws)), o6, none, none])) := fun o6 => by
          have := lcL_typM (gt := gtName 7) (ft := yesF) (fe := callV m_is_way [] (aCons (eVar 0) (aCons (eVar 1) (aCons (eVar 3) (aCons (eVar 7) aNil))))) (vs := [7]) (env := [some (.val n.D), some (.val (.int (t : Int))), some (.val (.tuple [.tuple (nD L), .tuple ws])), some (.val (.tuple (nD S))), some (.val (.tuple (nD L))), some (.val (.tuple ws)), o6, none, none]) (enc := id) (h := fun w => .bool (wayB n S t w).isSome) (l := ws) (fun w hw' => by simp [is_way_eq ok S t w (hw w hw')]) (by simp; omega)
          simpa using this
        have b1 : boolsOf (ws.map fun w => PyData.bool (wayB n S t w).isSome) = some (ws.map fun w => (wayB n S t w).isSome) := boolsOf_map
        by_cases ha : ∀ w ∈ ws, (wayB n S t w).isSome = true
        · have a1 : (ws.map fun w => (wayB n S t w).isSome).all id = true := by
            rw [List.all_map, List.all_eq_true]
            exact fun w hw => ha w hw
          have eW : ws = (waysN n S t ws).map lotD := by
            unfold waysN
            rw [List.map_map]
            conv => lhs; rw [← List.map_id ws]
            refine List.map_congr_left fun w hw => ?_
            have := ha w hw
            cases r : wayB n S t w with
            | none => rw [r] at this; cases this
            | some W =>
              show w = lotD ((wayB n S t w).getD [])
              rw [r]
              exact (wayB_some r).1
          have okW : ∀ W ∈ waysN n S t ws, W.length ≤ 100 ∧ ∀ k ∈ W, k < n.ps.length := fun W hW => by
            obtain ⟨w, hw', rfl⟩ := List.mem_map.mp hW
            have := ha w hw'
            cases r : wayB n S t w with
            | none => rw [r] at this; cases this
            | some W =>
              obtain ⟨e, h3, _⟩ := wayB_some r
              exact ⟨by simpa using ((hw w hw').tup _ e).1, h3⟩
          have wl : (waysN n S t ws).length = ws.length := by simp [waysN]
          have pw := passed_walk (n := n) none (place := some (.val (.int (t : Int)))) (thing := some (.val (.tuple [.tuple (nD L), .tuple ws]))) (shut := some (.val (.tuple (nD S)))) (g := some (.val (.tuple (nD L)))) (w5 := some (.val (.tuple ws))) (o6 := none) (waysN n S t ws) [] okW (by simp only [List.length_nil]; omega)
          rw [← eW, List.nil_append] at pw
          have fb := flat_bound (n := n) fun W hW => (okW W hW).1
          have f4 : ((waysN n S t ws).flatMap (gatesOn n)).length ≤ 4000 := by omega
          have sl := (sortU_len (zL ((waysN n S t ws).flatMap (gatesOn n)))).2
          have zlen : (zL ((waysN n S t ws).flatMap (gatesOn n))).length = ((waysN n S t ws).flatMap (gatesOn n)).length := by simp [zL]
          rw [zL_nodup, zlen] at sl
          by_cases hn : ((waysN n S t ws).flatMap (gatesOn n)).Nodup
          · have e2 := sl.mpr hn
            have cb : cutB n S t (.tuple (nD L)) ws = true := by
              simp only [cutB, q]
              exact decide_eq_true ⟨hlen, hr, ha, hn⟩
            rw [cb]
            simp [m_is_cut, f_is_cut, nc, isiB, ag, hlen, hlen', h2, fe, hm, x1, b1, a1, pw, intsOf_n, f4, e2, -List.all_map, -List.length_flatMap]
          · have e2 : ¬ (sortU (zL ((waysN n S t ws).flatMap (gatesOn n)))).length = ((waysN n S t ws).flatMap (gatesOn n)).length := fun z => hn (sl.mp z)
            have e3 : ¬ ((((waysN n S t ws).flatMap (gatesOn n)).length : Nat) : Int) = ((sortU (zL ((waysN n S t ws).flatMap (gatesOn n)))).length : Nat) := by omega
            have cb : cutB n S t (.tuple (nD L)) ws = false := by
              simp only [cutB, q]
              exact decide_eq_false fun z => hn z.2.2.2
            rw [cb]
            simp [m_is_cut, f_is_cut, nc, isiB, ag, hlen, hlen', h2, fe, hm, x1, b1, a1, pw, intsOf_n, f4, beqF e3, -List.all_map, -List.length_flatMap]
        · have a1 : (ws.map fun w => (wayB n S t w).isSome).all id = false := by
            rw [Bool.eq_false_iff]
            intro z
            rw [List.all_map, List.all_eq_true] at z
            exact ha fun w hw => z w hw
          have cb : cutB n S t (.tuple (nD L)) ws = false := by
            simp only [cutB, q]
            exact decide_eq_false fun z => ha z.2.2.1
          rw [cb]
          simp [m_is_cut, f_is_cut, nc, isiB, ag, hlen, hlen', h2, fe, hm, x1, b1, a1, -List.all_map]
    · have hlen' : ¬ (L.length : Int) = ws.length := by omega
      have cb : cutB n S t (.tuple (nD L)) ws = false := by
        simp only [cutB, q]
        exact decide_eq_false fun z => hlen z.1
      rw [cb]
      simp [m_is_cut, f_is_cut, nc, isiB, ag, beqF hlen']
/-- of another form -/
def noPair : PyData → Bool
  | .tuple [_, .tuple _] => false
  | _ => true
theorem is_cut_no {n : Net} (ok : n.Ok) {S : List Nat} (hS : ShutOk n S) {t : Nat} (ht : n.place t = true) (d : PyData) (hd : noPair d = true) :
    m_is_cut [.val n.D, .val (.int (t : Int)), .val d, .val (.tuple (nD S))] = M.ok (.val (.bool false), [some (.val n.D), some (.val (.int (t : Int))), some (.val d), some (.val (.tuple (nD S)))]) := by
  have nc := need_cut_eq ok hS ht
  cases d with
  | tuple xs =>
    match xs with
    | [] => simp [m_is_cut, f_is_cut, nc, isiB]
    | [a] => simp [m_is_cut, f_is_cut, nc, isiB]
    | [a, b] =>
      cases b with
      | tuple _ => simp [noPair] at hd
      | _ => simp [m_is_cut, f_is_cut, nc, isiB]
    | a :: b :: c :: r =>
      have h3 : ((r.length : Int) + 1 + 1 + 1 == 2) = false := beqF (by omega)
      simp [m_is_cut, f_is_cut, nc, isiB, h3]
  | _ => simp [m_is_cut, f_is_cut, nc, isiB]
end WH
set_option Elab.async false
set_option linter.all false
set_option maxRecDepth 100000
set_option maxHeartbeats 4000000
namespace WH
open PySem PySem.Spec PyProof.Rows L2 DL He
theorem to_eq (p : Pipe) (j : Nat) : m__law_to [.val p.D, .val (.int (j : Int))] = M.ok (.val (oD (endFrom p j)), [some (.val p.D), some (.val (.int (j : Int)))]) := by
  unfold endFrom
  by_cases h1 : p.a = j
  · simp [m__law_to, f__law_to, Pipe.D, h1, oD, iD]
  · have h1' : ¬ (p.a : Int) = j := by omega
    by_cases h2 : p.b = j
    · cases h3 : p.on <;> simp [m__law_to, f__law_to, Pipe.D, h1, beqF h1', h2, h3, oD, iD, n_ob]
    · have h2' : ¬ (p.b : Int) = j := by omega
      simp [m__law_to, f__law_to, Pipe.D, h1, beqF h1', h2, beqF h2', oD, iD]
/-! ### what is fed, in rounds -/
def stepJ (p : Pipe) (F : List Nat) (j : Nat) : List Nat := match endFrom p j with
  | some t => if t ∈ F then F else F ++ [t]
  | none => F
def candP (S F : List Nat) (k : Nat) (p : Pipe) : List Nat := [p.a, p.b].filter fun x => decide (x ∈ F) && !decide (k ∈ S)
def fedP (S : List Nat) (k : Nat) (p : Pipe) (F : List Nat) : List Nat := (candP S F k p).foldl (stepJ p) F
def fedR (S : List Nat) : Nat → List Pipe → List Nat → List Nat
  | _, [], F => F
  | k, p :: ps, F => fedR S (k + 1) ps (fedP S k p F)
theorem stepJ_sub {p : Pipe} {F : List Nat} {j x : Nat} (h : x ∈ F) : x ∈ stepJ p F j := by
  unfold stepJ
  split
  · split
    · exact h
    · simp [h]
  · exact h
theorem stepJ_to {p : Pipe} {F : List Nat} {j t : Nat} (h : endFrom p j = some t) : t ∈ stepJ p F j := by
  unfold stepJ
  rw [h]
  dsimp only
  split
  · assumption
  · simp
theorem stepJ_nd {p : Pipe} {F : List Nat} {j : Nat} (h : F.Nodup) : (stepJ p F j).Nodup := by
  unfold stepJ
  split
  · split
    · exact h
    · rename_i hn
      rw [List.nodup_append]
      refine ⟨h, by simp, fun a ha b hb => ?_⟩
      simp at hb
      subst hb
      intro e
      subst e
      exact hn ha
  · exact h
theorem stepJ_len {p : Pipe} {F : List Nat} {j : Nat} : F.length ≤ (stepJ p F j).length ∧ (stepJ p F j).length ≤ F.length + 1 ∧ ((stepJ p F j).length = F.length → stepJ p F j = F) := by
  unfold stepJ
  split
  · split
    · exact ⟨Nat.le_refl _, by omega, fun _ => rfl⟩
    · simp
  · exact ⟨Nat.le_refl _, by omega, fun _ => rfl⟩
theorem foldJ {p : Pipe} : ∀ {js F : List Nat}, (∀ x ∈ F, x ∈ js.foldl (stepJ p) F) ∧ (∀ j ∈ js, ∀ t, endFrom p j = some t → t ∈ js.foldl (stepJ p) F) ∧ (F.Nodup → (js.foldl (stepJ p) F).Nodup) ∧ F.length ≤ (js.foldl (stepJ p) F).length ∧ (js.foldl (stepJ p) F).length ≤ F.length + js.length ∧ ((js.foldl (stepJ p) F).length = F.length → js.foldl (stepJ p) F = F)
  | [], F => by simp
  | j :: js, F => by
    obtain ⟨h1, h2, h3, h4, h5, h6⟩ := foldJ (p := p) (js := js) (F := stepJ p F j)
    obtain ⟨g1, g2, g3⟩ := stepJ_len (p := p) (F := F) (j := j)
    simp only [List.foldl_cons]
    refine ⟨fun x hx => h1 x (stepJ_sub hx), fun i hi t ht => ?_, fun hd => h3 (stepJ_nd hd), by omega, by simp; omega, fun e => ?_⟩
    · rcases List.mem_cons.mp hi with rfl | hi
      · exact h1 t (stepJ_to ht)
      · exact h2 i hi t ht
    · have e1 : (stepJ p F j).length = F.length := by omega
      rw [h6 (by omega), g3 e1]
theorem candP_len (S F : List Nat) (k : Nat) (p : Pipe) : (candP S F k p).length ≤ 2 := Nat.le_trans (List.length_filter_le _ _) (by simp)
theorem fedP_ok (S : List Nat) (k : Nat) (p : Pipe) (F : List Nat) : (∀ x ∈ F, x ∈ fedP S k p F) ∧ (∀ x ∈ F, k ∉ S → ∀ t, endFrom p x = some t → t ∈ fedP S k p F) ∧ (F.Nodup → (fedP S k p F).Nodup) ∧ F.length ≤ (fedP S k p F).length ∧ (fedP S k p F).length ≤ F.length + 2 ∧ ((fedP S k p F).length = F.length → fedP S k p F = F) := by
  obtain ⟨h1, h2, h3, h4, h5, h6⟩ := foldJ (p := p) (js := candP S F k p) (F := F)
  have := candP_len S F k p
  refine ⟨h1, fun x hx hk t ht => h2 x ?_ t ht, h3, h4, by unfold fedP; omega, h6⟩
  unfold candP
  rw [List.mem_filter]
  refine ⟨?_, by simp [hx, hk]⟩
  unfold endFrom at ht
  split at ht
  · simp_all
  · split at ht
    · rename_i h; simp [h.1]
    · cases ht
theorem fedP_reach {n : Net} {S : List Nat} {k : Nat} {p : Pipe} {F : List Nat} (hp : n.ps[k]? = some p) (h : ∀ x ∈ F, Reach n S x) : ∀ x ∈ fedP S k p F, Reach n S x := by
  have go : ∀ (js F : List Nat), (∀ j ∈ js, Reach n S j ∧ k ∉ S) → (∀ x ∈ F, Reach n S x) → ∀ x ∈ js.foldl (stepJ p) F, Reach n S x := by
    intro js
    induction js with
    | nil => intro F _ h; simpa using h
    | cons j js ih =>
      intro F hj h
      refine ih _ (fun i hi => hj i (by simp [hi])) fun x hx => ?_
      obtain ⟨r, hk⟩ := hj j (by simp)
      unfold stepJ at hx
      split at hx
      · rename_i t he
        split at hx
        · exact h x hx
        · rcases List.mem_append.mp hx with g | g
          · exact h x g
          · simp at g; subst g; exact .step r ⟨p, hp, hk, he⟩
      · exact h x hx
  refine go _ F (fun j hj => ?_) h
  unfold candP at hj
  rw [List.mem_filter] at hj
  have := hj.2
  simp at this
  exact ⟨h j this.1, this.2⟩
theorem fedR_ok (S : List Nat) : ∀ (ps : List Pipe) (k : Nat) (F : List Nat), (∀ x ∈ F, x ∈ fedR S k ps F) ∧ (∀ i p, ps[i]? = some p → ∀ x ∈ F, k + i ∉ S → ∀ t, endFrom p x = some t → t ∈ fedR S k ps F) ∧ (F.Nodup → (fedR S k ps F).Nodup) ∧ F.length ≤ (fedR S k ps F).length ∧ (fedR S k ps F).length ≤ F.length + 2 * ps.length ∧ ((fedR S k ps F).length = F.length → fedR S k ps F = F)
  | [], k, F => by simp [fedR]
  | p :: ps, k, F => by
    obtain ⟨h1, h2, h3, h4, h5, h6⟩ := fedR_ok S ps (k + 1) (fedP S k p F)
    obtain ⟨g1, g2, g3, g4, g5, g6⟩ := fedP_ok S k p F
    simp only [fedR]
    refine ⟨fun x hx => h1 x (g1 x hx), fun i q hq x hx hk t ht => ?_, fun hd => h3 (g3 hd), by omega, by simp only [List.length_cons]; omega, fun e => ?_⟩
    · cases i with
      | zero =>
        simp at hq
        subst hq
        exact h1 t (g2 x hx (by simpa using hk) t ht)
      | succ i => exact h2 i q (by simpa using hq) x (g1 x hx) (by rw [show k + 1 + i = k + (i + 1) from by omega]; exact hk) t ht
    · rw [h6 (by omega), g6 (by omega)]
theorem fedR_reach {n : Net} {S : List Nat} : ∀ (ps : List Pipe) (k : Nat) (F : List Nat), (∀ i p, ps[i]? = some p → n.ps[k + i]? = some p) → (∀ x ∈ F, Reach n S x) → ∀ x ∈ fedR S k ps F, Reach n S x
  | [], k, F, _, h => h
  | p :: ps, k, F, hp, h => by
    simp only [fedR]
    exact fedR_reach ps (k + 1) _ (fun i q hq => by
      have := hp (i + 1) q (by simpa using hq)
      rw [show k + (i + 1) = k + 1 + i from by omega] at this
      exact this) (fedP_reach (by simpa using hp 0 p rfl) h)
def rounds (n : Net) (S : List Nat) : Nat → List Nat → List Nat
  | 0, F => F
  | r + 1, F => rounds n S r (fedR S 0 n.ps F)
theorem rounds_ok {n : Net} (ok : n.Ok) (S : List Nat) : ∀ (r : Nat) (F : List Nat), F.Nodup → (∀ x ∈ F, Reach n S x) → (rounds n S r F).Nodup ∧ (∀ x ∈ F, x ∈ rounds n S r F) ∧ (∀ x ∈ rounds n S r F, Reach n S x) ∧ (fedR S 0 n.ps (rounds n S r F) = rounds n S r F ∨ F.length + r ≤ (rounds n S r F).length)
  | 0, F, hd, hr => ⟨hd, fun _ h => h, hr, .inr (by simp [rounds])⟩
  | r + 1, F, hd, hr => by
    obtain ⟨h1, h2, h3, h4, h5, h6⟩ := fedR_ok S n.ps 0 F
    have h7 := fedR_reach n.ps 0 F (fun i p h => by simpa using h) hr
    obtain ⟨g1, g2, g3, g4⟩ := rounds_ok ok S r (fedR S 0 n.ps F) (h3 hd) h7
    simp only [rounds]
    refine ⟨g1, fun x hx => g2 x (h1 x hx), g3, ?_⟩
    rcases g4 with g4 | g4
    · exact .inl g4
    · by_cases e : (fedR S 0 n.ps F).length = F.length
      · left
        have e2 := h6 e
        have : ∀ r, rounds n S r F = F := fun r => by
          induction r with
          | zero => rfl
          | succ r ih => simp only [rounds]; rw [e2]; exact ih
        rw [e2, this r, e2]
      · right; omega
theorem rounds_is {n : Net} (ok : n.Ok) (S : List Nat) (x : Nat) : x ∈ rounds n S 7 (begins n) ↔ Reach n S x := by
  have nd : (begins n).Nodup := by
    unfold begins
    exact List.filter_sublist.nodup List.nodup_range
  obtain ⟨h1, h2, h3, h4⟩ := rounds_ok ok S 7 (begins n) nd fun x hx => .base hx
  have len := nodup_len h1 fun x hx => (h3 x hx).lt ok
  have n7 := ok.j1
  have cl : fedR S 0 n.ps (rounds n S 7 (begins n)) = rounds n S 7 (begins n) := by
    rcases h4 with h4 | h4
    · exact h4
    · have hb : begins n = [] := List.eq_nil_of_length_eq_zero (by omega)
      have e0 : ∀ (ps : List Pipe) (k : Nat), fedR S k ps [] = [] := fun ps => by
        induction ps with
        | nil => intro k; rfl
        | cons p ps ih => intro k; simp only [fedR]; rw [show fedP S k p [] = [] from by simp [fedP, candP]]; exact ih _
      have e1 : ∀ r, rounds n S r [] = [] := fun r => by
        induction r with
        | zero => rfl
        | succ r ih => simp only [rounds, e0]; exact ih
      rw [hb, e1, e0]
  refine ⟨h3 x, fun h => ?_⟩
  induction h with
  | base hx => exact h2 _ hx
  | step h l ih =>
    obtain ⟨p, hp, hk, he⟩ := l
    have := (fedR_ok S n.ps 0 (rounds n S 7 (begins n))).2.1 _ p hp _ ih (by simpa using hk) _ he
    rw [cl] at this
    exact this
/-- as the text does it -/
def lfE (n : Net) (S F : List Nat) (a3 a4 a5 a6 a7 : Option Sl) : EnvD := [some (.val n.D), some (.val (.tuple (nD S))), some (.own (.lst (nD F))), a3, a4, a5, a6, a7, none]
def lfU : FS := seqF (asgF 7 (callV m__law_to [] (aCons (eVar 5) (aCons (eVar 6) aNil)))) (ifF (tAndF (eT (e2 isntD (eVar 7) (eC .none))) (eT (e2 ninD (eVar 7) (eVar 2)))) (dropF (eApp 2 (eVar 7))) nilF)
theorem lf_in (n : Net) (S : List Nat) (p : Pipe) (a3 a4 : Option Sl) : ∀ (js F : List Nat) (a6 a7 : Option Sl), Vac a6 → Vac a7 → F.length + js.length ≤ 1000 →
    ∃ b6 b7, Vac b6 ∧ Vac b7 ∧ forL (gtName 6) lfU (nD js) (lfE n S F a3 a4 (some (.val p.D)) a6 a7) = M.ok (.nx (lfE n S (js.foldl (stepJ p) F) a3 a4 (some (.val p.D)) b6 b7))
  | [], F, a6, a7, h6, h7, _ => ⟨a6, a7, h6, h7, by simp⟩
  | j :: js, F, a6, a7, h6, h7, hl => by
    simp only [List.length_cons] at hl
    have sl := (stepJ_len (p := p) (F := F) (j := j)).2.1
    obtain ⟨b6, b7, g6, g7, x⟩ := lf_in n S p a3 a4 js (stepJ p F j) (some (.val (iD j))) (some (.val (oD (endFrom p j)))) (.inr ⟨_, rfl⟩) (.inr ⟨_, rfl⟩) (by omega)
    refine ⟨b6, b7, g6, g7, ?_⟩
    rw [nD_cons, forL_step]
    have hF : F.length < 100000 := by omega
    have : forStep (gtName 6) lfU (iD j) (lfE n S F a3 a4 (some (.val p.D)) a6 a7) = M.ok (.nx (lfE n S (stepJ p F j) a3 a4 (some (.val p.D)) (some (.val (iD j))) (some (.val (oD (endFrom p j)))))) := by
      have e := to_eq p j
      unfold stepJ
      cases q : endFrom p j with
      | none =>
        rw [q] at e
        rcases h6 with rfl | ⟨d, rfl⟩ <;> rcases h7 with rfl | ⟨d', rfl⟩ <;> simp [lfU, lfE, iD, e, oD]
      | some t =>
        rw [q] at e
        by_cases ht : t ∈ F
        · rcases h6 with rfl | ⟨d, rfl⟩ <;> rcases h7 with rfl | ⟨d', rfl⟩ <;> simp [lfU, lfE, iD, e, oD, ht]
        · rcases h6 with rfl | ⟨d, rfl⟩ <;> rcases h7 with rfl | ⟨d', rfl⟩ <;> simp [lfU, lfE, iD, e, oD, ht, hF, nD_app, nD_one]
    rw [this]
    exact x
def lfV : FS := forF (seqI (lcF (seqI (eSl (eVar 5) oNone (oSome (eC (.int 2))))) (gtName 8) (tAndF (eT (e2 inD (eVar 8) (eVar 2))) (eT (e2 ninD (eVar 4) (eVar 1)))) (eVar 8) [8])) (gtName 6) lfU
theorem cut_two (p : Pipe) : slD none (some 2) p.D = some (.val (.tuple (nD [p.a, p.b]))) := by
  unfold Pipe.D
  simp only [s_slT]
  rfl
theorem lf_mid (n : Net) (S : List Nat) (a3 : Option Sl) : ∀ (ps : List Pipe) (k : Nat) (F : List Nat) (a4 a5 a6 a7 : Option Sl), Vac a4 → Vac a5 → Vac a6 → Vac a7 → F.length + 2 * ps.length ≤ 900 →
    ∃ b4 b5 b6 b7, Vac b4 ∧ Vac b5 ∧ Vac b6 ∧ Vac b7 ∧ forL (gtTup (gtCons (gtName 4) (gtCons (gtName 5) gtNil))) lfV (numL k (ps.map Pipe.D)) (lfE n S F a3 a4 a5 a6 a7) = M.ok (.nx (lfE n S (fedR S k ps F) a3 b4 b5 b6 b7))
  | [], k, F, a4, a5, a6, a7, h4, h5, h6, h7, _ => ⟨a4, a5, a6, a7, h4, h5, h6, h7, by simp [numL, fedR]⟩
  | p :: ps, k, F, a4, a5, a6, a7, h4, h5, h6, h7, hl => by
    simp only [List.length_cons] at hl
    have cl := candP_len S F k p
    obtain ⟨c6, c7, g6, g7, x⟩ := lf_in n S p a3 (some (.val (.int (k : Int)))) (candP S F k p) F a6 a7 h6 h7 (by omega)
    have fl := (fedP_ok S k p F).2.2.2.2.1
    obtain ⟨b4, b5, b6, b7, i4, i5, i6, i7, y⟩ := lf_mid n S a3 ps (k + 1) (fedP S k p F) (some (.val (.int (k : Int)))) (some (.val p.D)) c6 c7 (.inr ⟨_, rfl⟩) (.inr ⟨_, rfl⟩) g6 g7 (by omega)
    refine ⟨b4, b5, b6, b7, i4, i5, i6, i7, ?_⟩
    rw [List.map_cons, numL, forL_step]
    have inner : lcL (gtName 8) (tAndF (eT (e2 inD (eVar 8) (eVar 2))) (eT (e2 ninD (eVar 4) (eVar 1)))) (eVar 8) [8] (nD [p.a, p.b]) [] (lfE n S F a3 (some (.val (.int (k : Int)))) (some (.val p.D)) a6 a7) = some (.ok (nD (candP S F k p), lfE n S F a3 (some (.val (.int (k : Int)))) (some (.val p.D)) a6 a7)) :=
      lcL_typF (enc := iD) (q := fun x => decide (x ∈ F) && !decide (k ∈ S)) (l := [p.a, p.b]) (fun x hx => by
        by_cases h1 : x ∈ F <;> by_cases h2 : k ∈ S <;> simp [lfE, iD, h1, h2]) (by simp)
    have z : seqI (lcF (seqI (eSl (eVar 5) oNone (oSome (eC (.int 2))))) (gtName 8) (tAndF (eT (e2 inD (eVar 8) (eVar 2))) (eT (e2 ninD (eVar 4) (eVar 1)))) (eVar 8) [8]) (lfE n S F a3 (some (.val (.int (k : Int)))) (some (.val p.D)) a6 a7) = M.ok (nD (candP S F k p), lfE n S F a3 (some (.val (.int (k : Int)))) (some (.val p.D)) a6 a7) := by
      unfold lfE at inner ⊢
      simp [cut_two, inner]
    rw [← for_run z] at x
    have s : forStep (gtTup (gtCons (gtName 4) (gtCons (gtName 5) gtNil))) lfV (.tuple [.int (k : Int), p.D]) (lfE n S F a3 a4 a5 a6 a7) = lfV (lfE n S F a3 (some (.val (.int (k : Int)))) (some (.val p.D)) a6 a7) := by
      rcases h4 with rfl | ⟨d, rfl⟩ <;> rcases h5 with rfl | ⟨d', rfl⟩ <;> simp [lfE]
    rw [s]
    show M.bind (lfV _) _ = _
    unfold lfV
    rw [x]
    exact y
theorem lf_out {n : Net} (S : List Nat) (h9 : n.ps.length ≤ 9) : ∀ (r : Nat) (ds : List PyData) (F : List Nat) (a3 a4 a5 a6 a7 : Option Sl), ds.length = r → Vac a3 → Vac a4 → Vac a5 → Vac a6 → Vac a7 → F.length + 18 * r ≤ 900 →
    ∃ b3 b4 b5 b6 b7, forL (gtName 3) (forF (argI enumI (aCons (e2 ixD (eVar 0) (eC (.int 1))) aNil)) (gtTup (gtCons (gtName 4) (gtCons (gtName 5) gtNil))) lfV) ds (lfE n S F a3 a4 a5 a6 a7) = M.ok (.nx (lfE n S (rounds n S r F) b3 b4 b5 b6 b7))
  | 0, ds, F, a3, a4, a5, a6, a7, hd, _, _, _, _, _, _ => by
    have : ds = [] := List.eq_nil_of_length_eq_zero hd
    subst this
    exact ⟨a3, a4, a5, a6, a7, by simp [rounds]⟩
  | r + 1, ds, F, a3, a4, a5, a6, a7, hd, h3, h4, h5, h6, h7, hl => by
    cases ds with
    | nil => simp at hd
    | cons d ds =>
      have fl := (fedR_ok S n.ps 0 F).2.2.2.2.1
      obtain ⟨c4, c5, c6, c7, g4, g5, g6, g7, x⟩ := lf_mid n S (some (.val d)) n.ps 0 F a4 a5 a6 a7 h4 h5 h6 h7 (by omega)
      obtain ⟨b3, b4, b5, b6, b7, y⟩ := lf_out S h9 r ds (fedR S 0 n.ps F) (some (.val d)) c4 c5 c6 c7 (by simpa using hd) (.inr ⟨_, rfl⟩) g4 g5 g6 g7 (by omega)
      refine ⟨b3, b4, b5, b6, b7, ?_⟩
      have y1 : n.D = .tuple [.tuple (n.js.map Joint.D), .tuple (n.ps.map Pipe.D)] := rfl
      have z : argI enumI (aCons (e2 ixD (eVar 0) (eC (.int 1))) aNil) (lfE n S F (some (.val d)) a4 a5 a6 a7) = M.ok (numL 0 (n.ps.map Pipe.D), lfE n S F (some (.val d)) a4 a5 a6 a7) := by simp [lfE, y1]
      rw [← for_run z] at x
      have s : forStep (gtName 3) (forF (argI enumI (aCons (e2 ixD (eVar 0) (eC (.int 1))) aNil)) (gtTup (gtCons (gtName 4) (gtCons (gtName 5) gtNil))) lfV) d (lfE n S F a3 a4 a5 a6 a7) = forF (argI enumI (aCons (e2 ixD (eVar 0) (eC (.int 1))) aNil)) (gtTup (gtCons (gtName 4) (gtCons (gtName 5) gtNil))) lfV (lfE n S F (some (.val d)) a4 a5 a6 a7) := by
        have : gtName 3 d (lfE n S F a3 a4 a5 a6 a7) = some (lfE n S F (some (.val d)) a4 a5 a6 a7) := by
          rcases h3 with rfl | ⟨d', rfl⟩ <;> simp [lfE]
        rw [s_forStep, this]
      rw [forL_step, s, x]
      exact y
end WH
set_option Elab.async false
set_option linter.all false
set_option maxRecDepth 100000
set_option maxHeartbeats 4000000
namespace WH
open PySem PySem.Spec PyProof.Rows L2 DL He
theorem not_place (n : Net) {j : Nat} (h : j < n.js.length) : ∃ w r, (n.js[j]).D = .tuple (.str w :: r) ∧ (w == Str.ofString "place") = n.place j := by
  have e2 : n.place j = n.js[j].isPlace := by
    unfold Net.place
    rw [List.getElem?_eq_getElem h]
  rw [e2]
  cases n.js[j] with
  | place a b c => exact ⟨_, _, rfl, by simp [Joint.isPlace]⟩
  | source a => exact ⟨_, _, rfl, by simp [Joint.isPlace, n_sp]⟩
  | tank a b c => exact ⟨_, _, rfl, by simp [Joint.isPlace, n_tp]⟩
theorem lb_fed {n : Net} (ok : n.Ok) (x1 x2 x3 x4 x5 x7 x8 : Option Sl) : lcF (argI rng1I (aCons (eCB lenD (aCons (e2 ixD (eVar 0) (eC (.int 0))) aNil)) aNil)) (gtName 6) (eT (e2 neD (e2 ixD (e2 ixD (e2 ixD (eVar 0) (eC (.int 0))) (eVar 6)) (eC (.int 0))) (eC (.str (Str.ofString "place"))))) (eVar 6) [6] [some (.val n.D), x1, x2, x3, x4, x5, none, x7, x8] =
    M.ok (.own (.lst (nD (begins n))), [some (.val n.D), x1, x2, x3, x4, x5, none, x7, x8]) := by
  have y1 : n.D = .tuple [.tuple (n.js.map Joint.D), .tuple (n.ps.map Pipe.D)] := rfl
  have n7 := ok.j1
  have z : argI rng1I (aCons (eCB lenD (aCons (e2 ixD (eVar 0) (eC (.int 0))) aNil)) aNil) [some (.val n.D), x1, x2, x3, x4, x5, none, x7, x8] = M.ok ((List.range n.js.length).map iD, [some (.val n.D), x1, x2, x3, x4, x5, none, x7, x8]) :=
    argI_run (ds := [.int (n.js.length : Int)]) (by simp [y1]) (rng1_n (by omega))
  have inner : lcL (gtName 6) (eT (e2 neD (e2 ixD (e2 ixD (e2 ixD (eVar 0) (eC (.int 0))) (eVar 6)) (eC (.int 0))) (eC (.str (Str.ofString "place"))))) (eVar 6) [6] ((List.range n.js.length).map iD) [] [some (.val n.D), x1, x2, x3, x4, x5, none, x7, x8] =
      some (.ok ((begins n).map iD, [some (.val n.D), x1, x2, x3, x4, x5, none, x7, x8])) :=
    lcL_typF (enc := iD) (q := fun j => !n.place j) (l := List.range n.js.length) (fun j hj => by
      have hj' := List.mem_range.mp hj
      obtain ⟨w, r, e1, e2⟩ := not_place n hj'
      have pj := pick_j n hj'
      rw [e1] at pj
      cases q : n.place j <;> rw [q] at e2 <;> simp [y1, iD, pj, e2]) (by simp; omega)
  rw [s_lcF, z]
  simp [inner]
  rfl
theorem law_fed_eq {n : Net} (ok : n.Ok) (S : List Nat) : ∃ F, m__law_fed__2 [.val n.D, .val (.tuple (nD S))] = M.ok (.own (.lst (nD F)), [some (.val n.D), some (.val (.tuple (nD S)))]) ∧ ∀ x, x ∈ F ↔ Reach n S x := by
  have b7 := begins_7 ok
  obtain ⟨b3, b4, b5, b6, b7', x⟩ := lf_out S ok.p1 7 ((List.range 7).map iD) (begins n) none none none none none (by simp) (.inl rfl) (.inl rfl) (.inl rfl) (.inl rfl) (.inl rfl) (by omega)
  refine ⟨rounds n S 7 (begins n), ?_, rounds_is ok S⟩
  have z0 := lb_fed ok (some (.val (.tuple (nD S)))) none none none none none none
  have z1 : argI rng1I (aCons (eC (.int 7)) aNil) (lfE n S (begins n) none none none none none) = M.ok ((List.range 7).map iD, lfE n S (begins n) none none none none none) :=
    argI_run (ds := [.int ((7 : Nat) : Int)]) (by simp [lfE]) (rng1_n (by omega))
  rw [← for_run z1] at x
  have h0 : f__law_fed__2 ([Sl.val n.D, .val (.tuple (nD S))].map some ++ List.replicate 7 none) = M.ok (.rt (.al 2) (lfE n S (rounds n S 7 (begins n)) b3 b4 b5 b6 b7')) := by
    show seqF (asgF 2 _) (seqF (forF (argI rng1I (aCons (eC (.int 7)) aNil)) (gtName 3) (forF (argI enumI (aCons (e2 ixD (eVar 0) (eC (.int 1))) aNil)) (gtTup (gtCons (gtName 4) (gtCons (gtName 5) gtNil))) lfV)) (retF (eVar 2))) [some (.val n.D), some (.val (.tuple (nD S))), none, none, none, none, none, none, none] = _
    rw [seq_nx (env1 := lfE n S (begins n) none none none none none) (by rw [s_asgF, z0]; simp [lfE])]
    rw [seq_nx x]
    simp [lfE]
  unfold m__law_fed__2
  rw [body_rt (by rfl) h0]
  simp [lfE]
/-! ### numbers, ways -/
theorem law_numbers_eq (d : PyData) (m : Nat) (hd : ∀ xs, d = .tuple xs → xs.length ≤ 1000) : m__law_are_numbers [.val d, .val (.int (m : Int))] = M.ok (.val (.bool (match d with
    | .tuple xs => (natsOf m xs).isSome
    | _ => false)), [some (.val d), some (.val (.int (m : Int)))]) := by
  have lw : ∀ z : PyData, m__law_whole [.val z] = M.ok (.val (.bool (isI z)), [some (.val z)]) := fun z => by cases z <;> simp [m__law_whole, f__law_whole, isiB, isI]
  cases d with
  | tuple xs =>
    have hl := hd xs rfl
    have x1 : lcL (gtName 2) yesF (eAnd (callV m__law_whole [] (aCons (eVar 2) aNil)) (eChain leD ltD (eC (.int 0)) (eVar 2) (eVar 1))) [2] xs [] [some (.val (.tuple xs)), some (.val (.int (m : Int))), none] =
        some (.ok (xs.map fun d => .bool (numB d 0 ((m : Int) - 1)), [some (.val (.tuple xs)), some (.val (.int (m : Int))), none])) := by
      have := lcL_typM (gt := gtName 2) (ft := yesF) (fe := eAnd (callV m__law_whole [] (aCons (eVar 2) aNil)) (eChain leD ltD (eC (.int 0)) (eVar 2) (eVar 1))) (vs := [2]) (env := [some (.val (.tuple xs)), some (.val (.int (m : Int))), none]) (enc := id) (h := fun d => .bool (numB d 0 ((m : Int) - 1))) (l := xs) (fun d _ => by
        cases d with
        | int i =>
          by_cases h1 : 0 ≤ i
          · have e : decide (i < (m : Int)) = decide (i ≤ (m : Int) - 1) := by rw [decide_eq_decide]; omega
            simp [lw, isI, numB, h1, e]
          · simp [lw, isI, numB, h1]
        | _ => simp [lw, isI, numB]) (by simp; omega)
      simpa using this
    have b1 : boolsOf (xs.map fun d => PyData.bool (numB d 0 ((m : Int) - 1))) = some (xs.map fun d => numB d 0 ((m : Int) - 1)) := boolsOf_map
    have a1 : (xs.map fun d => numB d 0 ((m : Int) - 1)).all id = (natsOf m xs).isSome := by
      rw [List.all_map, ← natsOf_num]; rfl
    simp [m__law_are_numbers, f__law_are_numbers, isiB, x1, b1, a1, -List.all_map]
  | _ => simp [m__law_are_numbers, f__law_are_numbers, isiB]
def lwE (n : Net) (S : List Nat) (t : Nat) (W : List Nat) (a4 a5 a6 : Option Sl) : EnvD := [some (.val n.D), some (.val (.int (t : Int))), some (.val (.tuple (nD S))), some (.val (.tuple (nD W))), a4, a5, a6, none, none]
def lwU : FS := asgF 5 (eIf (eT (e2 isD (eVar 5) (eC .none))) (eC .none) (callV m__law_to [] (aCons (e2 ixD (e2 ixD (eVar 0) (eC (.int 1))) (eVar 6)) (aCons (eVar 5) aNil))))
theorem lw_walk (n : Net) (S : List Nat) (t : Nat) (full : List Nat) (a4 : Option Sl) : ∀ (w : List Nat) (o : Option Nat) (c : Option Sl), Vac c → (∀ k ∈ w, k < n.ps.length) →
    ∃ c', Vac c' ∧ forL (gtName 6) lwU (nD w) (lwE n S t full a4 (some (.val (oD o))) c) = M.ok (.nx (lwE n S t full a4 (some (.val (oD (ledW n o w)))) c'))
  | [], o, c, hc, _ => ⟨c, hc, by cases o <;> simp [ledW]⟩
  | k :: w, o, c, hc, h => by
    have hk := h k (by simp)
    have e := pick_p n hk
    have hp : n.ps[k]? = some n.ps[k] := List.getElem?_eq_getElem hk
    have y1 : n.D = .tuple [.tuple (n.js.map Joint.D), .tuple (n.ps.map Pipe.D)] := rfl
    cases o with
    | none =>
      obtain ⟨c', h1, h2⟩ := lw_walk n S t full a4 w none (some (.val (iD k))) (.inr ⟨_, rfl⟩) fun x hx => h x (by simp [hx])
      refine ⟨c', h1, ?_⟩
      rw [nD_cons, forL_step]
      have : forStep (gtName 6) lwU (iD k) (lwE n S t full a4 (some (.val (oD none))) c) = M.ok (.nx (lwE n S t full a4 (some (.val (oD none))) (some (.val (iD k))))) := by
        rcases hc with rfl | ⟨d, rfl⟩ <;> simp [lwU, lwE, oD]
      rw [this]
      exact h2
    | some j =>
      obtain ⟨c', h1, h2⟩ := lw_walk n S t full a4 w (endFrom n.ps[k] j) (some (.val (iD k))) (.inr ⟨_, rfl⟩) fun x hx => h x (by simp [hx])
      refine ⟨c', h1, ?_⟩
      rw [nD_cons, forL_step]
      have ee := to_eq n.ps[k] j
      have : forStep (gtName 6) lwU (iD k) (lwE n S t full a4 (some (.val (oD (some j)))) c) = M.ok (.nx (lwE n S t full a4 (some (.val (oD (endFrom n.ps[k] j)))) (some (.val (iD k))))) := by
        rcases hc with rfl | ⟨d, rfl⟩ <;> simp [lwU, lwE, oD, iD, y1, e, ee]
      rw [this]
      simp only [ledW, hp]
      exact h2
theorem lb_leads {n : Net} (ok : n.Ok) (x1 x2 x3 x4 x5 x6 x7 : Option Sl) : lcF (argI rng1I (aCons (eCB lenD (aCons (e2 ixD (eVar 0) (eC (.int 0))) aNil)) aNil)) (gtName 8) (eT (e2 neD (e2 ixD (e2 ixD (e2 ixD (eVar 0) (eC (.int 0))) (eVar 8)) (eC (.int 0))) (eC (.str (Str.ofString "place"))))) (eVar 8) [8] [some (.val n.D), x1, x2, x3, x4, x5, x6, x7, none] =
    M.ok (.own (.lst (nD (begins n))), [some (.val n.D), x1, x2, x3, x4, x5, x6, x7, none]) := by
  have y1 : n.D = .tuple [.tuple (n.js.map Joint.D), .tuple (n.ps.map Pipe.D)] := rfl
  have n7 := ok.j1
  have z : argI rng1I (aCons (eCB lenD (aCons (e2 ixD (eVar 0) (eC (.int 0))) aNil)) aNil) [some (.val n.D), x1, x2, x3, x4, x5, x6, x7, none] = M.ok ((List.range n.js.length).map iD, [some (.val n.D), x1, x2, x3, x4, x5, x6, x7, none]) :=
    argI_run (ds := [.int (n.js.length : Int)]) (by simp [y1]) (rng1_n (by omega))
  have inner : lcL (gtName 8) (eT (e2 neD (e2 ixD (e2 ixD (e2 ixD (eVar 0) (eC (.int 0))) (eVar 8)) (eC (.int 0))) (eC (.str (Str.ofString "place"))))) (eVar 8) [8] ((List.range n.js.length).map iD) [] [some (.val n.D), x1, x2, x3, x4, x5, x6, x7, none] =
      some (.ok ((begins n).map iD, [some (.val n.D), x1, x2, x3, x4, x5, x6, x7, none])) :=
    lcL_typF (enc := iD) (q := fun j => !n.place j) (l := List.range n.js.length) (fun j hj => by
      have hj' := List.mem_range.mp hj
      obtain ⟨w, r, e1, e2⟩ := not_place n hj'
      have pj := pick_j n hj'
      rw [e1] at pj
      cases q : n.place j <;> rw [q] at e2 <;> simp [y1, iD, pj, e2]) (by simp; omega)
  rw [s_lcF, z]
  simp [inner]
  rfl
def lwV : FS := (seqF (asgF 5 (eVar 4))
    (seqF (forF (seqI (eVar 3)) (gtName 6) lwU)
    (ifF (eT (e2 eqD (eVar 5) (eVar 1))) (retF (eC (.bool true))) nilF)))
theorem lw_search {n : Net} (S : List Nat) (t : Nat) (W : List Nat) (hW : ∀ k ∈ W, k < n.ps.length) : ∀ env, (∃ a4 a5 a6, Vac a4 ∧ Vac a5 ∧ Vac a6 ∧ env = lwE n S t W a4 a5 a6) →
    ∃ env', (∃ a4 a5 a6, Vac a4 ∧ Vac a5 ∧ Vac a6 ∧ env' = lwE n S t W a4 a5 a6) ∧ forL (gtName 4) lwV (nD (begins n)) env = M.ok (srch (fun _ : Unit => .val (.bool true)) env' ((begins n).findSome? fun j => if ledW n (some j) W = some t then some () else none)) := by
  refine forL_search (res := fun _ : Unit => .val (.bool true)) _ fun j hj env he => ?_
  obtain ⟨a4, a5, a6, h4, h5, h6, rfl⟩ := he
  obtain ⟨c, hc, x⟩ := lw_walk n S t W (some (.val (iD j))) W (some j) a6 h6 hW
  have z : seqI (eVar 3) (lwE n S t W (some (.val (iD j))) (some (.val (oD (some j)))) a6) = M.ok (nD W, lwE n S t W (some (.val (iD j))) (some (.val (oD (some j)))) a6) := by simp [lwE]
  rw [← for_run z] at x
  refine ⟨lwE n S t W (some (.val (iD j))) (some (.val (oD (ledW n (some j) W)))) c, ⟨_, _, _, .inr ⟨_, rfl⟩, .inr ⟨_, rfl⟩, hc, rfl⟩, ?_⟩
  have s : forStep (gtName 4) lwV (iD j) (lwE n S t W a4 a5 a6) = lwV (lwE n S t W (some (.val (iD j))) a5 a6) := by
    rcases h4 with rfl | ⟨d, rfl⟩ <;> simp [lwE]
  rw [s]
  unfold lwV
  rw [seq_nx (env1 := lwE n S t W (some (.val (iD j))) (some (.val (oD (some j)))) a6) (by rcases h5 with rfl | ⟨d, rfl⟩ <;> simp [lwE, oD])]
  rw [seq_nx x]
  by_cases h : ledW n (some j) W = some t
  · rw [if_pos h]
    have := eq_o (ledW n (some j) W) t
    rw [decide_eq_true h] at this
    simp [lwE, this]
  · rw [if_neg h]
    have := eq_o (ledW n (some j) W) t
    rw [decide_eq_false h] at this
    simp [lwE, this]
theorem law_leads_eq {n : Net} (ok : n.Ok) (S : List Nat) (t : Nat) (w : PyData) (hw : WOk w) : m__law_leads [.val n.D, .val (.int (t : Int)), .val (.tuple (nD S)), .val w] = M.ok (.val (.bool (wayB n S t w).isSome), [some (.val n.D), some (.val (.int (t : Int))), some (.val (.tuple (nD S))), some (.val w)]) := by
  have y1 : n.D = .tuple [.tuple (n.js.map Joint.D), .tuple (n.ps.map Pipe.D)] := rfl
  have ne := law_numbers_eq w n.ps.length fun xs e => by have := (hw.tup xs e).1; omega
  cases w with
  | tuple xs =>
    obtain ⟨hl, hs⟩ := hw.tup xs rfl
    dsimp only at ne
    cases q : natsOf n.ps.length xs with
    | none =>
      rw [q] at ne
      simp [m__law_leads, f__law_leads, y1, ne, wayB, q]
    | some W =>
      rw [q] at ne
      obtain ⟨rfl, hW⟩ := natsOf_some q
      have e0 := eq_tup0 hs
      by_cases h0 : W = []
      · subst h0
        have wb : wayB n S t (.tuple (nD [])) = none := by
          simp only [wayB, q]
          rw [if_neg fun z => z.1 rfl]
        rw [wb]
        simp only [nD_nil] at ne e0 ⊢
        simp [m__law_leads, f__law_leads, y1, ne, e0]
      · have e0' : eqD (.tuple (nD W)) (.tuple []) = some (.val (.bool false)) := by
          rw [e0]
          have : nD W ≠ [] := fun z => h0 (by cases W with | nil => rfl | cons a r => simp [nD] at z)
          simp [this]
        have hl' : W.length ≤ 100 := by simpa using hl
        have x2 : lcL (gtName 7) (eT (e2 inD (eVar 7) (eVar 2))) (eVar 7) [7] (nD W) [] (lwE n S t W none none none) = some (.ok (nD (W.filter fun k => decide (k ∈ S)), lwE n S t W none none none)) :=
          lcL_typF (enc := iD) (q := fun k => decide (k ∈ S)) (l := W) (fun k hk => by by_cases h : k ∈ S <;> simp [lwE, iD, h]) (by simp; omega)
        have z1 : ∀ b, decide (W.filter (fun k => decide (k ∈ S)) = []) = b → ifF (tOrF (tNotF (eT (callV m__law_are_numbers [] (aCons (eVar 3) (aCons (eCB lenD (aCons (e2 ixD (eVar 0) (eC (.int 1))) aNil)) aNil))))) (tOrF (eT (e2 eqD (eVar 3) (eTup aNil))) (eT (e2 neD (lcF (seqI (eVar 3)) (gtName 7) (eT (e2 inD (eVar 7) (eVar 2))) (eVar 7) [7]) (eLst aNil))))) (retF (eC (.bool false))) nilF (lwE n S t W none none none) =
            M.ok (if b then .nx (lwE n S t W none none none) else .rt (.val (.bool false)) (lwE n S t W none none none)) := fun b hb => by
          generalize W.filter (fun k => decide (k ∈ S)) = X at x2 hb
          unfold lwE at x2 ⊢
          rw [y1] at x2 ⊢
          cases b with
          | true =>
            have hb' : X = [] := by simpa using hb
            subst hb'
            simp [ne, e0', x2]
          | false =>
            have hb' : ¬ X = [] := by simpa using hb
            simp [ne, e0', x2, hb']
        by_cases c : ∀ k ∈ W, k ∉ S
        · have hb : decide (W.filter (fun k => decide (k ∈ S)) = []) = true := by
            rw [decide_eq_true_eq, List.filter_eq_nil_iff]
            intro k hk
            simpa using c k hk
          obtain ⟨env', ⟨a4, a5, a6, _, _, _, rfl⟩, x⟩ := lw_search S t W hW (lwE n S t W none none none) ⟨none, none, none, .inl rfl, .inl rfl, .inl rfl, rfl⟩
          have z2 : seqI (lcF (argI rng1I (aCons (eCB lenD (aCons (e2 ixD (eVar 0) (eC (.int 0))) aNil)) aNil)) (gtName 8) (eT (e2 neD (e2 ixD (e2 ixD (e2 ixD (eVar 0) (eC (.int 0))) (eVar 8)) (eC (.int 0))) (eC (.str (Str.ofString "place"))))) (eVar 8) [8]) (lwE n S t W none none none) = M.ok (nD (begins n), lwE n S t W none none none) := by
            rw [s_seqI]
            unfold lwE
            rw [lb_leads ok]
            simp
          rw [← for_run z2] at x
          have h1 : f__law_leads ([Sl.val n.D, .val (.int (t : Int)), .val (.tuple (nD S)), .val (.tuple (nD W))].map some ++ List.replicate 5 none) = M.ok (.rt (.val (.bool (wayB n S t (.tuple (nD W))).isSome)) (lwE n S t W a4 a5 a6)) := by
            show seqF _ (seqF (forF _ (gtName 4) lwV) (retF (eC (.bool false)))) (lwE n S t W none none none) = _
            rw [seq_nx (z1 true hb)]
            by_cases c3 : ∃ j ∈ begins n, ledW n (some j) W = some t
            · have fs : ((begins n).findSome? fun j => if ledW n (some j) W = some t then some () else none) = some () := by
                cases r : (begins n).findSome? fun j => if ledW n (some j) W = some t then some () else none with
                | some u => rfl
                | none =>
                  rw [List.findSome?_eq_none_iff] at r
                  obtain ⟨j, hj, h3⟩ := c3
                  have := r j hj
                  rw [if_pos h3] at this
                  cases this
              have wb : wayB n S t (.tuple (nD W)) = some W := by
                simp only [wayB, q]
                rw [if_pos ⟨h0, c, c3⟩]
              rw [fs] at x
              rw [seq_rt x, wb]
              rfl
            · have fs : ((begins n).findSome? fun j => if ledW n (some j) W = some t then some () else none) = none := by
                rw [List.findSome?_eq_none_iff]
                exact fun j hj => if_neg fun z => c3 ⟨j, hj, z⟩
              have wb : wayB n S t (.tuple (nD W)) = none := by
                simp only [wayB, q]
                rw [if_neg fun z => c3 z.2.2]
              rw [fs] at x
              rw [seq_nx x, wb]
              rfl
          unfold m__law_leads
          rw [body_rt (by rfl) h1]
          simp [lwE]
        · have hb : decide (W.filter (fun k => decide (k ∈ S)) = []) = false := by
            rw [decide_eq_false_iff_not, List.filter_eq_nil_iff]
            intro z
            exact c fun k hk => by simpa using z k hk
          have wb : wayB n S t (.tuple (nD W)) = none := by
            simp only [wayB, q]
            rw [if_neg fun z => c z.2.1]
          have h1 : f__law_leads ([Sl.val n.D, .val (.int (t : Int)), .val (.tuple (nD S)), .val (.tuple (nD W))].map some ++ List.replicate 5 none) = M.ok (.rt (.val (.bool false)) (lwE n S t W none none none)) := by
            show seqF _ _ (lwE n S t W none none none) = _
            rw [seq_rt (z1 false hb)]
          unfold m__law_leads
          rw [wb, body_rt (by rfl) h1]
          simp [lwE]
  | _ => simp [m__law_leads, f__law_leads, y1, ne, wayB]
end WH
set_option Elab.async false
set_option linter.all false
set_option maxRecDepth 100000
set_option maxHeartbeats 4000000
namespace WH
open PySem PySem.Spec PyProof.Rows L2 DL He
def apE (n : Net) (ws : PyData) (seen : List Nat) (a3 a4 : Option Sl) : EnvD := [some (.val n.D), some (.val ws), some (.own (.lst (nD seen))), a3, a4, none]
def apV : FS := (seqF (asgF 4 (lcF (seqI (eVar 3)) (gtName 5) (eT (e2 ixD (e2 ixD (e2 ixD (eVar 0) (eC (.int 1))) (eVar 5)) (eC (.int 5)))) (eVar 5) [5]))
    (seqF (ifF (tOrF (eT (e2 neD (eLenSet (eVar 4)) (eCB lenD (aCons (eVar 4) aNil)))) (eT (e2 neD (lcF (seqI (eVar 4)) (gtName 5) (eT (e2 inD (eVar 5) (eVar 2))) (eVar 5) [5]) (eLst aNil)))) (retF (eC (.bool false))) nilF)
    (asgF 2 (e2 addD (eVar 2) (eVar 4)))))
def OwnV (o : Option Sl) : Prop := o = none ∨ ∃ x, o = some (.own (.lst x)) ∨ o = some (.val (.list x))
theorem ap2_turn {n : Net} (ws : PyData) (seen W : List Nat) (a3 a4 : Option Sl) (h3 : Vac a3) (h4 : OwnV a4) (hW : ∀ k ∈ W, k < n.ps.length) (hl : W.length ≤ 100) (hs : seen.length ≤ 50000) :
    ∃ b4, OwnV b4 ∧ ∃ e', forStep (gtName 3) apV (lotD W) (apE n ws seen a3 a4) = M.ok (if (gatesOn n W).Nodup ∧ ∀ k ∈ gatesOn n W, k ∉ seen then .nx (apE n ws (seen ++ gatesOn n W) (some (.val (lotD W))) b4) else .rt (.val (.bool false)) (apE n ws seen (some (.val (lotD W))) e')) := by
  have y1 : n.D = .tuple [.tuple (n.js.map Joint.D), .tuple (n.ps.map Pipe.D)] := rfl
  have gl : (gatesOn n W).length ≤ W.length := List.length_filter_le _ _
  have s : forStep (gtName 3) apV (lotD W) (apE n ws seen a3 a4) = apV (apE n ws seen (some (.val (lotD W))) a4) := by
    rcases h3 with rfl | ⟨d, rfl⟩ <;> simp [apE]
  have x1 : lcL (gtName 5) (eT (e2 ixD (e2 ixD (e2 ixD (eVar 0) (eC (.int 1))) (eVar 5)) (eC (.int 5)))) (eVar 5) [5] (nD W) [] (apE n ws seen (some (.val (lotD W))) a4) = some (.ok (nD (gatesOn n W), apE n ws seen (some (.val (lotD W))) a4)) :=
    lcL_typF (enc := iD) (q := gateB n) (l := W) (fun k hk => by
      have hk' := hW k hk
      have e := pick_p n hk'
      have g : gateB n k = n.ps[k].gate := by unfold gateB; rw [List.getElem?_eq_getElem hk']
      cases q : n.ps[k].gate <;> simp [apE, y1, iD, e, Pipe.D, g, q]) (by simp; omega)
  have z1 : asgF 4 (lcF (seqI (eVar 3)) (gtName 5) (eT (e2 ixD (e2 ixD (e2 ixD (eVar 0) (eC (.int 1))) (eVar 5)) (eC (.int 5)))) (eVar 5) [5]) (apE n ws seen (some (.val (lotD W))) a4) = M.ok (.nx (apE n ws seen (some (.val (lotD W))) (some (.own (.lst (nD (gatesOn n W))))))) := by
    unfold apE at x1 ⊢
    unfold lotD at x1 ⊢
    rcases h4 with rfl | ⟨x, rfl | rfl⟩ <;> simp [x1]
  generalize gatesOn n W = G at z1 gl ⊢
  have x2 : ∀ c4, lcL (gtName 5) (eT (e2 inD (eVar 5) (eVar 2))) (eVar 5) [5] (nD G) [] (apE n ws seen (some (.val (lotD W))) c4) = some (.ok (nD (G.filter fun k => decide (k ∈ seen)), apE n ws seen (some (.val (lotD W))) c4)) := fun c4 =>
    lcL_typF (enc := iD) (q := fun k => decide (k ∈ seen)) (l := G) (fun k hk => by by_cases h : k ∈ seen <;> simp [apE, iD, h]) (by simp; omega)
  have sl := (sortU_len (zL G)).2
  have zlen : (zL G).length = G.length := by simp [zL]
  rw [zL_nodup, zlen] at sl
  have g4 : G.length ≤ 4000 := by omega
  have gs : seen.length + G.length ≤ 100000 := by omega
  rw [s]
  unfold apV
  rw [seq_nx z1]
  have x3 := x2 (some (.val (.list (nD G))))
  have fe : (∀ k ∈ G, k ∉ seen) ↔ G.filter (fun k => decide (k ∈ seen)) = [] := by
    rw [List.filter_eq_nil_iff]; simp
  generalize G.filter (fun k => decide (k ∈ seen)) = X at x3 fe
  by_cases hn : G.Nodup
  · have e2 := sl.mpr hn
    by_cases hx : X = []
    · subst hx
      refine ⟨some (.val (.list (nD G))), .inr ⟨_, .inr rfl⟩, none, ?_⟩
      rw [if_pos ⟨hn, fe.mpr rfl⟩]
      unfold apE at x3 ⊢
      simp [intsOf_n, g4, e2, x3, gs, nD_app]
    · refine ⟨none, .inl rfl, some (.val (.list (nD G))), ?_⟩
      rw [if_neg fun z => hx (fe.mp z.2)]
      unfold apE at x3 ⊢
      simp [intsOf_n, g4, e2, x3, hx]
  · have e2 : ¬ ((sortU (zL G)).length : Int) = (G.length : Int) := fun z => hn (sl.mp (by omega))
    refine ⟨none, .inl rfl, some (.own (.lst (nD G))), ?_⟩
    rw [if_neg fun z => hn z.1]
    unfold apE
    simp [intsOf_n, g4, beqF e2]
theorem ap2_walk {n : Net} (ws : PyData) : ∀ (Ws : List (List Nat)) (seen : List Nat) (a3 a4 : Option Sl), Vac a3 → OwnV a4 → seen.Nodup → (∀ W ∈ Ws, W.length ≤ 100 ∧ ∀ k ∈ W, k < n.ps.length) → seen.length + 100 * Ws.length ≤ 50000 →
    ∃ e', forL (gtName 3) apV (Ws.map lotD) (apE n ws seen a3 a4) = M.ok (if (seen ++ Ws.flatMap (gatesOn n)).Nodup then .nx e' else .rt (.val (.bool false)) e') ∧ ∃ s' b3 b4, e' = apE n ws s' b3 b4
  | [], seen, a3, a4, h3, h4, hd, _, _ => ⟨_, by simp [hd], seen, a3, a4, rfl⟩
  | W :: Ws, seen, a3, a4, h3, h4, hd, hW, hl => by
    obtain ⟨w1, w2⟩ := hW W (by simp)
    have gl : (gatesOn n W).length ≤ W.length := List.length_filter_le _ _
    simp only [List.length_cons] at hl
    obtain ⟨b4, hb, e1, x⟩ := ap2_turn ws seen W a3 a4 h3 h4 w2 w1 (by omega)
    rw [List.map_cons, forL_step, x]
    by_cases c : (gatesOn n W).Nodup ∧ ∀ k ∈ gatesOn n W, k ∉ seen
    · rw [if_pos c]
      have nd : (seen ++ gatesOn n W).Nodup := by
        rw [List.nodup_append]
        exact ⟨hd, c.1, fun a ha b hb e => c.2 b hb (e ▸ ha)⟩
      obtain ⟨e', y, hs⟩ := ap2_walk ws Ws (seen ++ gatesOn n W) (some (.val (lotD W))) b4 (.inr ⟨_, rfl⟩) hb nd (fun V hV => hW V (by simp [hV])) (by simp only [List.length_append]; omega)
      refine ⟨e', ?_, hs⟩
      rw [List.flatMap_cons, ← List.append_assoc]
      exact y
    · rw [if_neg c]
      have nn : ¬ (seen ++ (W :: Ws).flatMap (gatesOn n)).Nodup := fun z => c (by
        rw [List.flatMap_cons, ← List.append_assoc] at z
        have z1 := (List.nodup_append.mp z).1
        rw [List.nodup_append] at z1
        exact ⟨z1.2.1, fun k hk hs => z1.2.2 k hs k hk rfl⟩)
      refine ⟨apE n ws seen (some (.val (lotD W))) e1, ?_, seen, some (.val (lotD W)), e1, rfl⟩
      rw [if_neg nn]
      rfl
theorem law_apart_eq {n : Net} (Ws : List (List Nat)) (hW : ∀ W ∈ Ws, W.length ≤ 100 ∧ ∀ k ∈ W, k < n.ps.length) (hl : Ws.length ≤ 100) : m__law_apart [.val n.D, .val (.tuple (Ws.map lotD))] = M.ok (.val (.bool (decide (Ws.flatMap (gatesOn n)).Nodup)), [some (.val n.D), some (.val (.tuple (Ws.map lotD)))]) := by
  obtain ⟨e', x, s', b3, b4, rfl⟩ := ap2_walk (n := n) (.tuple (Ws.map lotD)) Ws [] none none (.inl rfl) (.inl rfl) List.nodup_nil hW (by simp; omega)
  rw [List.nil_append] at x
  have z : seqI (eVar 1) (apE n (.tuple (Ws.map lotD)) [] none none) = M.ok (Ws.map lotD, apE n (.tuple (Ws.map lotD)) [] none none) := by simp [apE]
  rw [← for_run z] at x
  have h1 : f__law_apart ([Sl.val n.D, .val (.tuple (Ws.map lotD))].map some ++ List.replicate 4 none) = M.ok (.rt (.val (.bool (decide (Ws.flatMap (gatesOn n)).Nodup))) (apE n (.tuple (Ws.map lotD)) s' b3 b4)) := by
    show seqF (asgF 2 (eLst aNil)) (seqF (forF (seqI (eVar 1)) (gtName 3) apV) (retF (eC (.bool true)))) [some (.val n.D), some (.val (.tuple (Ws.map lotD))), none, none, none, none] = _
    rw [seq_nx (env1 := apE n (.tuple (Ws.map lotD)) [] none none) (by simp [apE])]
    by_cases c : (Ws.flatMap (gatesOn n)).Nodup
    · rw [if_pos c] at x
      rw [seq_nx x, decide_eq_true c]
      rfl
    · rw [if_neg c] at x
      rw [seq_rt x, decide_eq_false c]
  unfold m__law_apart
  rw [body_rt (by rfl) h1]
  simp [apE]
theorem eqv_ints : ∀ xs ys : List Int, PyData.eqvAll (xs.map PyData.int) (ys.map PyData.int) = decide (xs = ys)
  | [], [] => by simp [PyData.eqvAll]
  | [], _ :: _ => by simp [PyData.eqvAll]
  | _ :: _, [] => by simp [PyData.eqvAll]
  | x :: xs, y :: ys => by
    have ih := eqv_ints xs ys
    simp only [List.map_cons, PyData.eqvAll, PyData.eqv, ih]
    by_cases h : x = y <;> simp [h]
theorem lz_ok : ∀ L : List Int, PyData.canLayAll0 (L.map PyData.int) = true
  | [] => rfl
  | k :: L => by simp [PyData.canLayAll0, PyData.canLay0, lz_ok L]
theorem dz_ok : ∀ L : List Int, PyData.depthAll (L.map PyData.int) ≤ 1
  | [] => by simp [PyData.depthAll]
  | k :: L => by have := dz_ok L; simp [PyData.depthAll, PyData.depth]; omega
theorem sh_z (L : List Int) : SeqAt.shaped (.list (L.map PyData.int)) = true := by
  have := dz_ok L
  simp [SeqAt.shaped, PyData.canLay0, lz_ok, PyData.depth]; omega
theorem nD_z (L : List Nat) : nD L = (zL L).map PyData.int := by simp [nD, zL, iD, Function.comp_def]
theorem ne_sorted (L : List Nat) : neD (.list (nD L)) (.list ((sortU (zL L)).map PyData.int)) = some (.val (.bool (!adjB L))) := by
  rw [neT (sh_l L) (sh_z _)]
  have : PyData.eqv (.list (nD L)) (.list ((sortU (zL L)).map PyData.int)) = adjB L := by
    simp only [PyData.eqv]
    rw [nD_z, eqv_ints, Bool.eq_iff_iff, decide_eq_true_eq, ← sortU_id]
    exact eq_comm
  rw [this]
open Classical in
theorem law_is_cut_eq {n : Net} (ok : n.Ok) {S : List Nat} (hS : S.length ≤ 9) {t : Nat} (g : PyData) (ws : List PyData) (hg : GOk g) (hw : ∀ w ∈ ws, WOk w) (hl : ws.length ≤ 30) :
    m__law_is_cut [.val n.D, .val (.int (t : Int)), .val (.tuple (nD S)), .val (.tuple [g, .tuple ws])] = M.ok (.val (.bool (cutB n S t g ws)), [some (.val n.D), some (.val (.int (t : Int))), some (.val (.tuple (nD S))), some (.val (.tuple [g, .tuple ws]))]) := by
  have y1 : n.D = .tuple [.tuple (n.js.map Joint.D), .tuple (n.ps.map Pipe.D)] := rfl
  have w63 : ws.length ≤ 63 := by omega
  have y2 : ixD n.D (.int 1) = some (.val (.tuple (n.ps.map Pipe.D))) := by rw [y1]; simp
  have ne := law_numbers_eq g n.ps.length fun gs e => by have := hg.tup gs e; omega
  cases g with
  | tuple gs =>
    have l60 := hg.tup gs rfl
    dsimp only at ne
    cases q : natsOf n.ps.length gs with
    | none =>
      rw [q] at ne
      have cb : cutB n S t (.tuple gs) ws = false := by simp only [cutB, gatesB, q]
      rw [cb]
      simp [m__law_is_cut, f__law_is_cut, isiB, y2, ne]
    | some L =>
      rw [q] at ne
      obtain ⟨rfl, hL⟩ := natsOf_some q
      have l60' : L.length ≤ 63 := by simp at l60; omega
      have ns := ne_sorted L
      cases ha : adjB L with
      | false =>
        rw [ha] at ns
        have cb : cutB n S t (.tuple (nD L)) ws = false := by
          simp only [cutB, gatesB, q]
          rw [if_neg fun z => by rw [ha] at z; cases z.2]
        rw [cb]
        simp [m__law_is_cut, f__law_is_cut, isiB, y2, ne, intsOf_n, l60', ns]
      | true =>
        rw [ha] at ns
        have x1 : ∀ o6 o7 : Option Sl, lcL (gtName 6) (tOrF (tNotF (eT (e2 ixD (e2 ixD (e2 ixD (eVar 0) (eC (.int 1))) (eVar 6)) (eC (.int 5))))) (eT (e2 inD (eVar 6) (eVar 2)))) (eVar 6) [6] (nD L) [] [some (.val n.D), some (.val (.int (t : Int))), some (.val (.tuple (nD S))), some (.val (.tuple [.tuple (nD L), .tuple ws])), some (.val (.tuple (nD L))), some (.val (.tuple ws)), none, o7] =
            some (.ok (nD (L.filter fun k => !decide (k ∈ gates n S)), [some (.val n.D), some (.val (.int (t : Int))), some (.val (.tuple (nD S))), some (.val (.tuple [.tuple (nD L), .tuple ws])), some (.val (.tuple (nD L))), some (.val (.tuple ws)), none, o7])) := fun o6 o7 =>
          lcL_typF (enc := iD) (q := fun k => !decide (k ∈ gates n S)) (l := L) (fun k hk => by
            have hk' := hL k hk
            have e := pick_p n hk'
            have hp : n.ps[k]? = some n.ps[k] := List.getElem?_eq_getElem hk'
            have gm : k ∈ gates n S ↔ n.ps[k].gate = true ∧ k ∉ S := by
              rw [gates_mem, hp]
              constructor
              · rintro ⟨p, hp', h⟩; cases hp'; exact h
              · intro h; exact ⟨_, rfl, h⟩
            cases q : n.ps[k].gate <;> by_cases hs : k ∈ S <;> simp [y1, iD, e, Pipe.D, gm, q, hs]) (by simp; omega)
        have x1' := x1 none none
        have fe : (∀ k ∈ L, k ∈ gates n S) ↔ L.filter (fun k => !decide (k ∈ gates n S)) = [] := by
          rw [List.filter_eq_nil_iff]; simp
        generalize hX : L.filter (fun k => !decide (k ∈ gates n S)) = X at x1' fe
        by_cases c : ∀ k ∈ L, k ∈ gates n S
        · have gb : gatesB n S (.tuple (nD L)) = some L := by
            simp only [gatesB, q]
            rw [if_pos ⟨c, ha⟩]
          have cut_def : cutB n S t (.tuple (nD L)) ws = decide (L.length = ws.length ∧ ¬ Reach n (S ++ L) t ∧ (∀ w ∈ ws, (wayB n S t w).isSome = true) ∧ ((waysN n S t ws).flatMap (gatesOn n)).Nodup) := by
            simp only [cutB, gb]
          have X0 := fe.mp c
          subst X0
          by_cases hlen : L.length = ws.length
          · have hlen' : (L.length : Int) = ws.length := by omega
            have x2 : ∀ o6 : Option Sl, lcL (gtName 7) yesF (callV m__law_leads [] (aCons (eVar 0) (aCons (eVar 1) (aCons (eVar 2) (aCons (eVar 7) aNil))))) [7] ws [] [some (.val n.D), some (.val (.int (t : Int))), some (.val (.tuple (nD S))), some (.val (.tuple [.tuple (nD L), .tuple ws])), some (.val (.tuple (nD L))), some (.val (.tuple ws)), o6, none] =
                some (.ok (ws.map fun w => .bool (wayB n S t w).isSome, [some (.val n.D), some (.val (.int (t : Int))), some (.val (.tuple (nD S))), some (.val (.tuple [.tuple (nD L), .tuple ws])), some (.val (.tuple (nD L))), some (.val (.tuple ws)), o6, none])) := fun o6 => by
              have := lcL_typM (gt := gtName 7) (ft := yesF) (fe := callV m__law_leads [] (aCons (eVar 0) (aCons (eVar 1) (aCons (eVar 2) (aCons (eVar 7) aNil))))) (vs := [7]) (env := [some (.val n.D), some (.val (.int (t : Int))), some (.val (.tuple (nD S))), some (.val (.tuple [.tuple (nD L), .tuple ws])), some (.val (.tuple (nD L))), some (.val (.tuple ws)), o6, none]) (enc := id) (h := fun w => .bool (wayB n S t w).isSome) (l := ws) (fun w hw' => by simp [law_leads_eq ok S t w (hw w hw')]) (by simp; omega)
              simpa using this
            have b1 : boolsOf (ws.map fun w => PyData.bool (wayB n S t w).isSome) = some (ws.map fun w => (wayB n S t w).isSome) := boolsOf_map
            by_cases hw1 : ∀ w ∈ ws, (wayB n S t w).isSome = true
            · have a1 : (ws.map fun w => (wayB n S t w).isSome).all id = true := by
                rw [List.all_map, List.all_eq_true]
                exact fun w hw => hw1 w hw
              have eW : ws = (waysN n S t ws).map lotD := by
                unfold waysN
                rw [List.map_map]
                conv => lhs; rw [← List.map_id ws]
                refine List.map_congr_left fun w hw => ?_
                have := hw1 w hw
                cases r : wayB n S t w with
                | none => rw [r] at this; cases this
                | some W =>
                  show w = lotD ((wayB n S t w).getD [])
                  rw [r]
                  exact (wayB_some r).1
              have okW : ∀ W ∈ waysN n S t ws, W.length ≤ 100 ∧ ∀ k ∈ W, k < n.ps.length := fun W hW => by
                obtain ⟨w, hw', rfl⟩ := List.mem_map.mp hW
                have := hw1 w hw'
                cases r : wayB n S t w with
                | none => rw [r] at this; cases this
                | some W =>
                  obtain ⟨e, h3, _⟩ := wayB_some r
                  exact ⟨by simpa using ((hw w hw').tup _ e).1, h3⟩
              have wl : (waysN n S t ws).length = ws.length := by simp [waysN]
              have ap := law_apart_eq (waysN n S t ws) okW (by omega)
              rw [← eW] at ap
              by_cases hn : ((waysN n S t ws).flatMap (gatesOn n)).Nodup
              · rw [decide_eq_true hn] at ap
                obtain ⟨F, fe2, hF⟩ := law_fed_eq ok (S ++ L)
                rw [nD_app] at fe2
                have h2 : S.length + ws.length ≤ 100000 := by omega
                by_cases hr : Reach n (S ++ L) t
                · have hm := (hF t).mpr hr
                  have cb : cutB n S t (.tuple (nD L)) ws = false := by
                    rw [cut_def]
                    exact decide_eq_false fun z => z.2.1 hr
                  rw [cb]
                  simp [m__law_is_cut, f__law_is_cut, isiB, y2, ne, intsOf_n, l60', w63, ns, x1', hlen, hlen', x2, b1, a1, ap, h2, fe2, hm, -List.all_map]
                · have hm : ¬ t ∈ F := fun z => hr ((hF t).mp z)
                  have cb : cutB n S t (.tuple (nD L)) ws = true := by
                    rw [cut_def]
                    exact decide_eq_true ⟨hlen, hr, hw1, hn⟩
                  rw [cb]
                  simp [m__law_is_cut, f__law_is_cut, isiB, y2, ne, intsOf_n, l60', w63, ns, x1', hlen, hlen', x2, b1, a1, ap, h2, fe2, hm, -List.all_map]
              · rw [decide_eq_false hn] at ap
                have cb : cutB n S t (.tuple (nD L)) ws = false := by
                  rw [cut_def]
                  exact decide_eq_false fun z => hn z.2.2.2
                rw [cb]
                simp [m__law_is_cut, f__law_is_cut, isiB, y2, ne, intsOf_n, l60', w63, ns, x1', hlen, hlen', x2, b1, a1, ap, -List.all_map]
            · have a1 : (ws.map fun w => (wayB n S t w).isSome).all id = false := by
                rw [Bool.eq_false_iff]
                intro z
                rw [List.all_map, List.all_eq_true] at z
                exact hw1 fun w hw => z w hw
              have cb : cutB n S t (.tuple (nD L)) ws = false := by
                rw [cut_def]
                exact decide_eq_false fun z => hw1 z.2.2.1
              rw [cb]
              simp [m__law_is_cut, f__law_is_cut, isiB, y2, ne, intsOf_n, l60', w63, ns, x1', hlen, hlen', x2, b1, a1, -List.all_map]
          · have hlen' : ¬ (L.length : Int) = ws.length := by omega
            have cb : cutB n S t (.tuple (nD L)) ws = false := by
              rw [cut_def]
              exact decide_eq_false fun z => hlen z.1
            rw [cb]
            simp [m__law_is_cut, f__law_is_cut, isiB, y2, ne, intsOf_n, l60', ns, x1', beqF hlen']
        · have X0 : ¬ X = [] := fun z => c (fe.mpr z)
          have cb : cutB n S t (.tuple (nD L)) ws = false := by
            simp only [cutB, gatesB, q]
            rw [if_neg fun z => c z.1]
          rw [cb]
          simp [m__law_is_cut, f__law_is_cut, isiB, y2, ne, intsOf_n, l60', ns, x1', X0]
  | _ =>
    simp [m__law_is_cut, f__law_is_cut, isiB, y2, ne, cutB, gatesB]
theorem law_is_cut_no {n : Net} {S : List Nat} {t : Nat} (d : PyData) (hd : noPair d = true) :
    m__law_is_cut [.val n.D, .val (.int (t : Int)), .val (.tuple (nD S)), .val d] = M.ok (.val (.bool false), [some (.val n.D), some (.val (.int (t : Int))), some (.val (.tuple (nD S))), some (.val d)]) := by
  cases d with
  | tuple xs =>
    match xs with
    | [] => simp [m__law_is_cut, f__law_is_cut, isiB]
    | [a] => simp [m__law_is_cut, f__law_is_cut, isiB]
    | [a, b] =>
      cases b with
      | tuple _ => simp [noPair] at hd
      | _ => simp [m__law_is_cut, f__law_is_cut, isiB]
    | a :: b :: c :: r =>
      have h3 : ((r.length : Int) + 1 + 1 + 1 == 2) = false := beqF (by omega)
      simp [m__law_is_cut, f__law_is_cut, isiB, h3]
  | _ => simp [m__law_is_cut, f__law_is_cut, isiB]
end WH
set_option Elab.async false
set_option linter.all false
set_option maxRecDepth 100000
set_option maxHeartbeats 4000000
namespace WH
open PySem PySem.Spec PyProof.Rows L2 DL He
/-! ### what the law draws -/
theorem dr (p : Pen) (n : Int) (h : 0 < n) : ∃ r : Nat, drawR p n = r ∧ (r : Int) < n := by
  have h1 := drawR_lo p h
  have h2 := drawR_hi p h
  exact ⟨(drawR p n).toNat, by omega, by omega⟩
theorem joint3_ok (p : Pen) : ∃ (j : Joint) (p' : Pen), j.Ok ∧ m__law_joint__3 [.pen (penO p)] = M.ok (.val j.D, [some (.pen (penO p'))]) := by
  obtain ⟨a, ha, ha'⟩ := dr p 8 (by decide)
  obtain ⟨b, hb, hb'⟩ := dr (drawP p 8) 6 (by decide)
  by_cases h : a < 6
  · obtain ⟨c, hc, hc'⟩ := dr (drawP (drawP p 8) 6) 9 (by decide)
    obtain ⟨d, hd, hd'⟩ := dr (drawP (drawP (drawP p 8) 6) 9) 60 (by decide)
    refine ⟨.place c b (b + d), drawP (drawP (drawP (drawP p 8) 6) 9) 60, .place (by omega) (by omega) (by omega), ?_⟩
    have h6 : (a : Int) < 6 := by omega
    simp [m__law_joint__3, f__law_joint__3, draw_eq, ha, hb, hc, hd, h6, Joint.D]
  · have h6 : ¬ (a : Int) < 6 := by omega
    obtain ⟨c, hc, hc'⟩ := dr (drawP (drawP p 8) 6) 60 (by decide)
    obtain ⟨d, hd, hd'⟩ := dr (drawP (drawP (drawP p 8) 6) 60) 30 (by decide)
    obtain ⟨e, he, he'⟩ := dr (drawP (drawP (drawP (drawP p 8) 6) 60) 30) 50 (by decide)
    by_cases h7 : a = 6
    · subst h7
      refine ⟨.source (20 + c), drawP (drawP (drawP (drawP (drawP p 8) 6) 60) 30) 50, .source (by omega), ?_⟩
      simp [m__law_joint__3, f__law_joint__3, draw_eq, ha, hb, hc, hd, he, Joint.D]
    · have h8 : a = 7 := by omega
      subst h8
      refine ⟨.tank (10 + d) (1 + e) 20, drawP (drawP (drawP (drawP (drawP p 8) 6) 60) 30) 50, .tank (by omega) (by omega) (by omega) (by omega) (by omega), ?_⟩
      simp [m__law_joint__3, f__law_joint__3, draw_eq, ha, hb, hc, hd, he, Joint.D]
theorem nat_step {a s m : Nat} (h0 : a < m) (h1 : s < m - 1) : ∃ r : Nat, ((a : Int) + 1 + s).fmod m = r ∧ r < m ∧ r ≠ a := by
  have := fmod_step (a := (a : Int)) (s := 1 + s) (n := m) (by omega) (by omega) (by omega) (by omega)
  rw [show (a : Int) + (1 + s) = (a : Int) + 1 + s from by omega] at this
  exact ⟨(((a : Int) + 1 + s).fmod m).toNat, by omega, by omega, by omega⟩
theorem pipe3_ok (p : Pen) (m : Nat) (hm : 2 ≤ m) (hm7 : m ≤ 7) (qs : List Pipe) (hq : qs.length ≤ 20) : ∃ (q : Pipe) (p' : Pen), q.Ok m ∧ (q.on = true → qs.countP (·.on) < 4) ∧ m__law_pipe__3 [.pen (penO p), .val (.int (m : Int)), .val (.list (qs.map Pipe.D))] = M.ok (.val q.D, [some (.pen (penO p')), some (.val (.int (m : Int))), some (.val (.list (qs.map Pipe.D)))]) := by
  obtain ⟨a, ha, ha'⟩ := dr p m (by omega)
  obtain ⟨s, hs, hs'⟩ := dr (drawP p m) ((m : Int) - 1) (by omega)
  obtain ⟨b, hb, hb', hab⟩ := nat_step (a := a) (s := s) (m := m) (by omega) (by omega)
  let p2 := drawP (drawP p m) ((m : Int) - 1)
  obtain ⟨c, hc, hc'⟩ := dr p2 4 (by decide)
  have d1 := draw_eq p m (by omega) (by omega)
  have d2 := draw_eq (drawP p m) ((m : Int) - 1) (by omega) (by omega)
  have m0 : ¬ (m : Int) = 0 := by omega
  have m0' : ¬ m = 0 := by omega
  have x1 : ∀ (o0 o1 o3 o4 o5 o6 o7 o8 : Option Sl), lcL (gtName 9) (eT (e2 eqD (e2 ixD (eVar 9) (eC (.int 3))) (eC (.str (Str.ofString "on"))))) (eVar 9) [9] (qs.map Pipe.D) [] [o0, o1, some (.val (.list (qs.map Pipe.D))), o3, o4, o5, o6, o7, o8, none] = some (.ok ((qs.filter (·.on)).map Pipe.D, [o0, o1, some (.val (.list (qs.map Pipe.D))), o3, o4, o5, o6, o7, o8, none])) := fun o0 o1 o3 o4 o5 o6 o7 o8 =>
    lcL_typF (enc := Pipe.D) (q := fun q => q.on) (l := qs) (fun q hq => by cases h : q.on <;> simp [Pipe.D, h, n_bo]) (by simp; omega)
  have fl : (qs.filter (·.on)).length = qs.countP (·.on) := (List.countP_eq_length_filter).symm
  -- the way on, or both ways
  by_cases on : c = 0 ∧ qs.countP (·.on) < 4
  · obtain ⟨c0, c4⟩ := on
    subst c0
    have c4' : ((qs.countP fun q => q.on : Nat) : Int) < 4 := by omega
    let p3 := drawP p2 4
    obtain ⟨l, hl, hl'⟩ := dr p3 50 (by decide)
    obtain ⟨e, he, he'⟩ := dr (drawP p3 50) 2 (by decide)
    obtain ⟨g, hg, hg'⟩ := dr (drawP (drawP p3 50) 2) 3 (by decide)
    obtain ⟨f, hf, hf'⟩ := dr (drawP (drawP (drawP p3 50) 2) 3) 20 (by decide)
    obtain ⟨v, hv, hv'⟩ := dr (drawP (drawP (drawP (drawP p3 50) 2) 3) 20) 21 (by decide)
    refine ⟨⟨a, b, 1 + f, true, if e = 0 then 0 else 1 + l, decide (0 < g), v⟩, drawP (drawP (drawP (drawP (drawP p3 50) 2) 3) 20) 21, ⟨by show a < m; omega, hb', fun z => hab z.symm, by simp, by simp only []; omega, by simp only []; split <;> omega, fun z => by simp at z, by simp only []; omega⟩, fun _ => c4, ?_⟩
    have hg0 : decide ((0 : Int) < g) = decide (0 < g) := by rw [decide_eq_decide]; omega
    have e01 : e = 0 ∨ e = 1 := by omega
    rcases e01 with rfl | rfl <;> simp [m__law_pipe__3, f__law_pipe__3, d1, d2, draw_eq, p2, p3, ha, hs, hb, hc, m0, m0', x1, fl, c4, c4', hl, he, hg, hf, hv, Pipe.D, hg0]
  · let p3 := drawP p2 4
    obtain ⟨g, hg, hg'⟩ := dr p3 3 (by decide)
    obtain ⟨f, hf, hf'⟩ := dr (drawP p3 3) 20 (by decide)
    obtain ⟨v, hv, hv'⟩ := dr (drawP (drawP p3 3) 20) 21 (by decide)
    refine ⟨⟨a, b, 1 + f, false, 0, decide (0 < g), v⟩, drawP (drawP (drawP p3 3) 20) 21, ⟨by show a < m; omega, hb', fun z => hab z.symm, by simp, by simp only []; omega, by simp, fun _ => rfl, by simp only []; omega⟩, fun z => by simp at z, ?_⟩
    have hg0 : decide ((0 : Int) < g) = decide (0 < g) := by rw [decide_eq_decide]; omega
    by_cases c0 : c = 0
    · subst c0
      have c4 : ¬ qs.countP (·.on) < 4 := fun z => on ⟨rfl, z⟩
      have c4' : ¬ ((qs.countP fun q => q.on : Nat) : Int) < 4 := by omega
      simp [m__law_pipe__3, f__law_pipe__3, d1, d2, draw_eq, p2, p3, ha, hs, hb, hc, m0, m0', x1, fl, c4, c4', hg, hf, hv, Pipe.D, hg0]
    · have c0' : ¬ (c : Int) = 0 := by omega
      simp [m__law_pipe__3, f__law_pipe__3, d1, d2, draw_eq, p2, p3, ha, hs, hb, hc, m0, m0', beqF c0', c0, hg, hf, hv, Pipe.D, hg0]
end WH
set_option Elab.async false
set_option linter.all false
set_option maxRecDepth 100000
set_option maxHeartbeats 4000000
namespace WH
open PySem PySem.Spec PyProof.Rows L2 DL He
def nE (p : Pen) (most : Int) (m : Nat) (js : List Joint) (qs : List Pipe) (o5 o6 o7 : Option Sl) : EnvD := [some (.pen (penO p)), some (.val (.int most)), some (.val (.int (m : Int))), some (.own (.lst (js.map Joint.D))), some (.own (.lst (qs.map Pipe.D))), o5, o6, o7]
structure Qs (m : Nat) (qs : List Pipe) : Prop where
  ok : ∀ q ∈ qs, q.Ok m
  on : qs.countP (·.on) ≤ 4
theorem pl_call (p : Pen) (most : Int) (m : Nat) (hm : 2 ≤ m) (hm7 : m ≤ 7) (js : List Joint) (qs : List Pipe) (hq : qs.length ≤ 20) (o5 o6 o7 : Option Sl) : ∃ (q : Pipe) (p' : Pen), q.Ok m ∧ (q.on = true → qs.countP (·.on) < 4) ∧
    callPL 4 m__law_pipe__3 (aCons (eVar 0) (aCons (eVar 2) (aCons (eVar 4) aNil))) (nE p most m js qs o5 o6 o7) = M.ok (.val q.D, nE p' most m js qs o5 o6 o7) := by
  obtain ⟨q, p', h1, h2, e⟩ := pipe3_ok p m hm hm7 qs hq
  refine ⟨q, p', h1, h2, ?_⟩
  have fl : flatD q.D = true := by simp [Pipe.D, flatD, scalD]
  unfold penO at e
  simp [nE, callPLr, lendA, penO, e, lendEnd, fl, scalD]
theorem Qs.snoc {m : Nat} {qs : List Pipe} (h : Qs m qs) {q : Pipe} (hq : q.Ok m) (hon : q.on = true → qs.countP (·.on) < 4) : Qs m (qs ++ [q]) := by
  refine ⟨fun x hx => ?_, ?_⟩
  · rcases List.mem_append.mp hx with g | g
    · exact h.ok x g
    · simp at g; subst g; exact hq
  · rw [List.countP_append]
    have := h.on
    cases e : q.on with
    | true => have := hon e; simp [e]; omega
    | false => simp [e]; omega
theorem joints_walk (most : Int) (m : Nat) (js0 : List PyData) (o3 o4 o6 o7 : Option Sl) : ∀ (ds : List PyData) (acc : List PyData) (p : Pen), acc.length + ds.length ≤ 1000 →
    ∃ (js : List Joint) (p' : Pen), lcL (gtName 5) yesF (callP m__law_joint__3 (aCons (eVar 0) aNil)) [5] ds acc [some (.pen (penO p)), some (.val (.int most)), some (.val (.int (m : Int))), o3, o4, none, o6, o7] =
      M.ok (acc ++ js.map Joint.D, [some (.pen (penO p')), some (.val (.int most)), some (.val (.int (m : Int))), o3, o4, none, o6, o7]) ∧ js.length = ds.length ∧ ∀ j ∈ js, j.Ok
  | [], acc, p, _ => ⟨[], p, by simp, rfl, by simp⟩
  | d :: ds, acc, p, hl => by
    simp only [List.length_cons] at hl
    obtain ⟨j, p1, hj, e⟩ := joint3_ok p
    obtain ⟨js, p', x, h1, h2⟩ := joints_walk most m js0 o3 o4 o6 o7 ds (acc ++ [j.D]) p1 (by simp only [List.length_append, List.length_singleton]; omega)
    refine ⟨j :: js, p', ?_, by simp [h1], fun i hi => ?_⟩
    · have hb : acc.length < 100000 := by omega
      rw [lcL_step]
      have : lcStep (gtName 5) yesF (callP m__law_joint__3 (aCons (eVar 0) aNil)) [5] d [some (.pen (penO p)), some (.val (.int most)), some (.val (.int (m : Int))), o3, o4, none, o6, o7] = some (some j.D, [some (.pen (penO p1)), some (.val (.int most)), some (.val (.int (m : Int))), o3, o4, none, o6, o7]) := by
        simp [e]
      rw [this]
      dsimp only
      rw [if_pos (show acc.length < bigL from hb), x]
      simp
    · rcases List.mem_cons.mp hi with rfl | hi
      · exact hj
      · exact h2 i hi
def nU1 : FS := (seqF (asgF 6 (callPL 4 m__law_pipe__3 (aCons (eVar 0) (aCons (eVar 2) (aCons (eVar 4) aNil)))))
    (dropF (eApp 4 (e2 addD (eTup (aCons (callP m__law_draw (aCons (eVar 0) (aCons (eVar 5) aNil))) (aCons (eVar 5) aNil))) (eSl (eVar 6) (oSome (eC (.int 2))) oNone)))))
theorem nw1 (most : Int) (m : Nat) (hm : 2 ≤ m) (hm7 : m ≤ 7) (js : List Joint) : ∀ (c j : Nat) (p : Pen) (qs : List Pipe) (o5 o6 o7 : Option Sl), 1 ≤ j → j + c = m → Qs m qs → qs.length + 1 = j → Vac o5 → Vac o6 →
    ∃ p' qs' b5 b6, Vac b5 ∧ Vac b6 ∧ Qs m qs' ∧ qs'.length + 1 = m ∧ forL (gtName 5) nU1 (rngL (j : Int) c) (nE p most m js qs o5 o6 o7) = M.ok (.nx (nE p' most m js qs' b5 b6 o7))
  | 0, j, p, qs, o5, o6, o7, _, e, hq, hl, h5, h6 => ⟨p, qs, o5, o6, h5, h6, hq, by omega, by simp [rngL]⟩
  | c + 1, j, p, qs, o5, o6, o7, h1, e, hq, hl, h5, h6 => by
    obtain ⟨q, p1, g1, g2, x⟩ := pl_call p most m hm hm7 js qs (by omega) (some (.val (.int (j : Int)))) o6 o7
    obtain ⟨r, hr, hr'⟩ := dr p1 j (by omega)
    have dq := draw_eq p1 (j : Int) (by omega) (by omega)
    let q' : Pipe := { q with a := r, b := j }
    have ok' : q'.Ok m := ⟨by show r < m; omega, by show j < m; omega, by show r ≠ j; omega, g1.f1, g1.f2, g1.l, g1.l0, g1.v⟩
    have hq' : Qs m (qs ++ [q']) := hq.snoc ok' g2
    obtain ⟨p', qs', b5, b6, i5, i6, k1, k2, y⟩ := nw1 most m hm hm7 js c (j + 1) (drawP p1 j) (qs ++ [q']) (some (.val (.int (j : Int)))) (some (.val q.D)) o7 (by omega) (by omega) hq' (by simp; omega) (.inr ⟨_, rfl⟩) (.inr ⟨_, rfl⟩)
    refine ⟨p', qs', b5, b6, i5, i6, k1, k2, ?_⟩
    rw [rngL, forL_step]
    have s : forStep (gtName 5) nU1 (.int (j : Int)) (nE p most m js qs o5 o6 o7) = nU1 (nE p most m js qs (some (.val (.int (j : Int)))) o6 o7) := by
      rcases h5 with rfl | ⟨d, rfl⟩ <;> simp [nE]
    have s2 : nU1 (nE p most m js qs (some (.val (.int (j : Int)))) o6 o7) = M.ok (.nx (nE (drawP p1 j) most m js (qs ++ [q']) (some (.val (.int (j : Int)))) (some (.val q.D)) o7)) := by
      unfold nU1
      rw [seq_nx (env1 := nE p1 most m js qs (some (.val (.int (j : Int)))) (some (.val q.D)) o7) (by
        rw [s_asgF, x]
        rcases h6 with rfl | ⟨d, rfl⟩ <;> simp [nE])]
      have hl' : qs.length < 100000 := by omega
      have hc : DL.cutD [PyData.int (q.a : Int), .int (q.b : Int), .int (q.fac : Int), .str (if q.on then "on" else "both"), .int (q.lift : Int), .bool q.gate, .int (q.vol : Int)] (some 2) none = [.int (q.fac : Int), .str (if q.on then "on" else "both"), .int (q.lift : Int), .bool q.gate, .int (q.vol : Int)] := rfl
      have eD : q'.D = .tuple [.int (r : Int), .int (j : Int), .int (q.fac : Int), .str (if q.on then "on" else "both"), .int (q.lift : Int), .bool q.gate, .int (q.vol : Int)] := rfl
      have eq : q.D = .tuple [PyData.int (q.a : Int), .int (q.b : Int), .int (q.fac : Int), .str (if q.on then "on" else "both"), .int (q.lift : Int), .bool q.gate, .int (q.vol : Int)] := rfl
      unfold nE
      rw [List.map_append, List.map_cons, List.map_nil, eD, eq]
      simp [dq, hr, hc, hl']
    rw [s, s2]
    simp only [s_bok]
    exact_mod_cast y
theorem nw2 (most : Int) (m : Nat) (hm : 2 ≤ m) (hm7 : m ≤ 7) (js : List Joint) (o5 o6 : Option Sl) : ∀ (ds : List PyData) (p : Pen) (qs : List Pipe) (o7 : Option Sl), Qs m qs → qs.length + ds.length ≤ 9 → Vac o7 →
    ∃ p' qs' b7, Qs m qs' ∧ qs'.length = qs.length + ds.length ∧ forL (gtName 7) (dropF (eApp 4 (callPL 4 m__law_pipe__3 (aCons (eVar 0) (aCons (eVar 2) (aCons (eVar 4) aNil)))))) ds (nE p most m js qs o5 o6 o7) = M.ok (.nx (nE p' most m js qs' o5 o6 b7))
  | [], p, qs, o7, hq, _, _ => ⟨p, qs, o7, hq, by simp, by simp⟩
  | d :: ds, p, qs, o7, hq, hl, h7 => by
    simp only [List.length_cons] at hl
    obtain ⟨q, p1, g1, g2, x⟩ := pl_call p most m hm hm7 js qs (by omega) o5 o6 (some (.val d))
    obtain ⟨p', qs', b7, k1, k2, y⟩ := nw2 most m hm hm7 js o5 o6 ds p1 (qs ++ [q]) (some (.val d)) (hq.snoc g1 g2) (by simp; omega) (.inr ⟨_, rfl⟩)
    refine ⟨p', qs', b7, k1, by rw [k2]; simp; omega, ?_⟩
    rw [forL_step]
    have hl' : qs.length < 100000 := by omega
    have s : forStep (gtName 7) (dropF (eApp 4 (callPL 4 m__law_pipe__3 (aCons (eVar 0) (aCons (eVar 2) (aCons (eVar 4) aNil)))))) d (nE p most m js qs o5 o6 o7) = M.ok (.nx (nE p1 most m js (qs ++ [q]) o5 o6 (some (.val d)))) := by
      have g : gtName 7 d (nE p most m js qs o5 o6 o7) = some (nE p most m js qs o5 o6 (some (.val d))) := by
        rcases h7 with rfl | ⟨d', rfl⟩ <;> simp [nE]
      rw [s_forStep, g]
      simp only [s_dropF, s_eApp, x]
      simp [nE, hl']
    rw [s]
    exact y
theorem net3_ok (p : Pen) (mo : Nat) (h1 : 2 ≤ mo) (h2 : mo ≤ 7) : ∃ (n : Net) (p' : Pen), n.Ok ∧ m__law_net__3 [.pen (penO p), .val (.int (mo : Int))] = M.ok (.val n.D, [some (.pen (penO p')), some (.val (.int (mo : Int)))]) := by
  obtain ⟨a, ha, ha'⟩ := dr p ((mo : Int) - 1) (by omega)
  have d1 := draw_eq p ((mo : Int) - 1) (by omega) (by omega)
  let m := 2 + a
  have hm7 : m ≤ 7 := by show 2 + a ≤ 7; omega
  let p1 := drawP p ((mo : Int) - 1)
  obtain ⟨b, hb, hb'⟩ := dr p1 60 (by decide)
  obtain ⟨c, hc, hc'⟩ := dr (drawP p1 60) 9 (by decide)
  let p2 := drawP (drawP p1 60) 9
  let js0 : List Joint := [.source (20 + b), .place c 0 99]
  obtain ⟨js, p3, x1, jl, jo⟩ := joints_walk mo m [] (some (.own (.lst (js0.map Joint.D)))) (some (.own (.lst []))) none none ((List.range a).map iD) [] p2 (by simp; omega)
  obtain ⟨p4, qs, b5, b6, v5, v6, q1, q2, x2⟩ := nw1 mo m (by show 2 ≤ 2 + a; omega) hm7 (js0 ++ js) (m - 1) 1 p3 [] none none none (by omega) (by show 1 + (2 + a - 1) = 2 + a; omega) ⟨by simp, by simp⟩ rfl (.inl rfl) (.inl rfl)
  obtain ⟨e, he, he'⟩ := dr p4 (11 - (m : Int)) (by omega)
  have d4 := draw_eq p4 (11 - (m : Int)) (by omega) (by omega)
  have qe : qs.length + 1 = 2 + a := q2
  have em : (e : Int) < 11 - ((2 + a : Nat) : Int) := he'
  obtain ⟨p5, qs', b7, r1, r2, x3⟩ := nw2 mo m (by show 2 ≤ 2 + a; omega) hm7 (js0 ++ js) b5 b6 ((List.range e).map iD) (drawP p4 (11 - (m : Int))) qs none q1 (by simp; omega) (.inl rfl)
  have jl' : js.length = a := by simpa using jl
  have len : (js0 ++ js).length = m := by show ([_, _] ++ js : List Joint).length = 2 + a; simp [jl']; omega
  have r2' : qs'.length = qs.length + e := by simpa using r2
  refine ⟨⟨js0 ++ js, qs'⟩, p5, ⟨fun d hd => ?_, by show 2 ≤ (js0 ++ js).length; rw [len]; show 2 ≤ 2 + a; omega, by show (js0 ++ js).length ≤ 7; rw [len]; exact hm7, fun d hd => by show d.Ok (js0 ++ js).length; rw [len]; exact r1.ok d hd, by show 1 ≤ qs'.length; omega, by show qs'.length ≤ 9; omega, r1.on⟩, ?_⟩
  · rcases List.mem_append.mp hd with g | g
    · simp only [js0, List.mem_cons, List.not_mem_nil, or_false] at g
      rcases g with rfl | rfl
      · exact .source (by omega)
      · exact .place (by omega) (by omega) (by omega)
    · exact jo d g
  · have z1 : asgF 2 (e2 addD (eC (.int 2)) (callP m__law_draw (aCons (eVar 0) (aCons (e2 subD (eVar 1) (eC (.int 1))) aNil)))) [some (.pen (penO p)), some (.val (.int (mo : Int))), none, none, none, none, none, none] = M.ok (.nx [some (.pen (penO p1)), some (.val (.int (mo : Int))), some (.val (.int (m : Int))), none, none, none, none, none]) := by
      simp [d1, ha, p1, m]
    have z2 : parF 3 4 (eLst (aCons (eTup (aCons (eC (.str (Str.ofString "source"))) (aCons (e2 addD (eC (.int 20)) (callP m__law_draw (aCons (eVar 0) (aCons (eC (.int 60)) aNil)))) aNil))) (aCons (eTup (aCons (eC (.str (Str.ofString "place"))) (aCons (callP m__law_draw (aCons (eVar 0) (aCons (eC (.int 9)) aNil))) (aCons (eC (.int 0)) (aCons (eC (.int 99)) aNil))))) aNil))) (eLst aNil) [some (.pen (penO p1)), some (.val (.int (mo : Int))), some (.val (.int (m : Int))), none, none, none, none, none] = M.ok (.nx [some (.pen (penO p2)), some (.val (.int (mo : Int))), some (.val (.int (m : Int))), some (.own (.lst (js0.map Joint.D))), some (.own (.lst [])), none, none, none]) := by
      simp [draw_eq, hb, hc, p2, js0, Joint.D]
    have z3i : argI rng1I (aCons (e2 subD (eVar 2) (eC (.int 2))) aNil) [some (.pen (penO p2)), some (.val (.int (mo : Int))), some (.val (.int (m : Int))), some (.own (.lst (js0.map Joint.D))), some (.own (.lst [])), none, none, none] = M.ok ((List.range a).map iD, [some (.pen (penO p2)), some (.val (.int (mo : Int))), some (.val (.int (m : Int))), some (.own (.lst (js0.map Joint.D))), some (.own (.lst [])), none, none, none]) :=
      argI_run (ds := [.int (a : Int)]) (by
        have : ((m : Nat) : Int) - 2 = a := by show ((2 + a : Nat) : Int) - 2 = a; omega
        simp [this]) (rng1_n (by omega))
    have z3 : asgF 3 (e2 addD (eVar 3) (lcF (argI rng1I (aCons (e2 subD (eVar 2) (eC (.int 2))) aNil)) (gtName 5) yesF (callP m__law_joint__3 (aCons (eVar 0) aNil)) [5])) [some (.pen (penO p2)), some (.val (.int (mo : Int))), some (.val (.int (m : Int))), some (.own (.lst (js0.map Joint.D))), some (.own (.lst [])), none, none, none] = M.ok (.nx (nE p3 mo m (js0 ++ js) [] none none none)) := by
      have l2 : (js0.map Joint.D).length + (js.map Joint.D).length ≤ 100000 := by simp [js0, jl']; omega
      have lc : lcF (argI rng1I (aCons (e2 subD (eVar 2) (eC (.int 2))) aNil)) (gtName 5) yesF (callP m__law_joint__3 (aCons (eVar 0) aNil)) [5] [some (.pen (penO p2)), some (.val (.int (mo : Int))), some (.val (.int (m : Int))), some (.own (.lst (js0.map Joint.D))), some (.own (.lst [])), none, none, none] = M.ok (.own (.lst (js.map Joint.D)), [some (.pen (penO p3)), some (.val (.int (mo : Int))), some (.val (.int (m : Int))), some (.own (.lst (js0.map Joint.D))), some (.own (.lst [])), none, none, none]) := by
        rw [s_lcF, z3i]
        simp only [s_bok, s_wipe1, s_wipe0]
        simp only [List.set_cons_succ, List.set_cons_zero]
        rw [x1]
        simp
      rw [s_asgF, s_e2]
      have ev : eVar 3 [some (.pen (penO p2)), some (.val (.int (mo : Int))), some (.val (.int (m : Int))), some (.own (.lst (js0.map Joint.D))), some (.own (.lst [])), none, none, none] = M.ok (.al 3, [some (.pen (penO p2)), some (.val (.int (mo : Int))), some (.val (.int (m : Int))), some (.own (.lst (js0.map Joint.D))), some (.own (.lst [])), none, none, none]) := by simp
      rw [ev]
      simp only [s_bok]
      rw [lc]
      simp [l2, nE, -List.length_map]
    have z4 : argI rng2I (aCons (eC (.int 1)) (aCons (eVar 2) aNil)) (nE p3 mo m (js0 ++ js) [] none none none) = M.ok (rngL ((1 : Nat) : Int) (m - 1), nE p3 mo m (js0 ++ js) [] none none none) :=
      argI_run (ds := [.int 1, .int (m : Int)]) (by simp [nE]) (by
        have s1 : smallI 1 = true := by decide
        have s2 : smallI (m : Int) = true := smallI_ok (by omega) (by omega)
        unfold rng2I
        simp only
        rw [if_pos ⟨s1, s2⟩]
        have : ((m : Int) - 1).toNat = m - 1 := by omega
        rw [this]
        rfl)
    have z5 : argI rng1I (aCons (callP m__law_draw (aCons (eVar 0) (aCons (e2 subD (eC (.int 11)) (eVar 2)) aNil))) aNil) (nE p4 mo m (js0 ++ js) qs b5 b6 none) = M.ok ((List.range e).map iD, nE (drawP p4 (11 - (m : Int))) mo m (js0 ++ js) qs b5 b6 none) :=
      argI_run (ds := [.int (e : Int)]) (by simp [nE, d4, he]) (rng1_n (by omega))
    rw [← for_run z4] at x2
    rw [← for_run z5] at x3
    have h0 : f__law_net__3 ([Sl.pen (penO p), .val (.int (mo : Int))].map some ++ List.replicate 6 none) = M.ok (.rt (.val (Net.D ⟨js0 ++ js, qs'⟩)) (nE p5 mo m (js0 ++ js) qs' b5 b6 b7)) := by
      show seqF _ (seqF _ (seqF _ (seqF (forF _ (gtName 5) nU1) (seqF _ _)))) [some (.pen (penO p)), some (.val (.int (mo : Int))), none, none, none, none, none, none] = _
      rw [seq_nx z1, seq_nx z2, seq_nx z3, seq_nx x2, seq_nx x3]
      have l9 : qs'.length ≤ 100000 := by omega
      simp [nE, Net.D, netD]
    unfold m__law_net__3
    rw [body_rt (by rfl) h0]
    simp [nE, penO]
end WH
set_option Elab.async false
set_option linter.all false
set_option maxRecDepth 100000
set_option maxHeartbeats 4000000
namespace WH
open PySem PySem.Spec PyProof.Rows L2 DL He
theorem pen_of_eq (z : Int) : ∃ p, m__law_pen_of [.val (.int z)] = M.ok (.own (penO p), [some (.val (.int z))]) := by
  refine ⟨⟨if 0 - z > z then 0 - z else z, decide ((10 : Int) ^ 18 ≤ (if 0 - z > z then 0 - z else z)), (if 0 - z > z then 0 - z else z).fmod 1000003⟩, ?_⟩
  have h : (10 : Int) ^ 18 = 1000000000000000000 := by decide
  simp [m__law_pen_of, f__law_pen_of, powD, penO, b2, ordD, vB, vI]
theorem cell_at_eq (ns : List Int) : ∃ z : Int, m__law_cell_at [.val (.list (ns.map PyData.int)), .val (.int 0)] = M.ok (.val (.int z), [some (.val (.list (ns.map PyData.int))), some (.val (.int 0))]) := by
  cases ns with
  | nil => exact ⟨0, by simp [m__law_cell_at, f__law_cell_at]⟩
  | cons a r =>
    have : (0 : Int) < (r.length : Int) + 1 := by omega
    exact ⟨a, by simp [m__law_cell_at, f__law_cell_at, this]⟩
/-! ### shut pipes, places -/
def enumP : Nat → List Pipe → List (Nat × Pipe)
  | _, [] => []
  | k, p :: ps => (k, p) :: enumP (k + 1) ps
def encP (a : Nat × Pipe) : PyData := .tuple [.int (a.1 : Int), a.2.D]
theorem numL_enum : ∀ (ps : List Pipe) (k : Nat), numL k (ps.map Pipe.D) = (enumP k ps).map encP
  | [], _ => rfl
  | p :: ps, k => by simp [numL, enumP, encP, numL_enum ps]
theorem enumP_len : ∀ (ps : List Pipe) (k : Nat), (enumP k ps).length = ps.length
  | [], _ => rfl
  | p :: ps, k => by simp [enumP, enumP_len ps]
theorem enumP_mem {a : Nat × Pipe} : ∀ {ps : List Pipe} {k : Nat}, a ∈ enumP k ps → ∃ i, a.1 = k + i ∧ ps[i]? = some a.2
  | [], k, h => by cases h
  | p :: ps, k, h => by
    rcases List.mem_cons.mp h with rfl | h
    · exact ⟨0, by simp, rfl⟩
    · obtain ⟨i, h1, h2⟩ := enumP_mem h
      exact ⟨i + 1, by omega, by simpa using h2⟩
theorem enumP_lt : ∀ (ps : List Pipe) (k : Nat), (enumP k ps).Pairwise fun a b => a.1 < b.1
  | [], k => by simp [enumP]
  | p :: ps, k => by
    refine List.pairwise_cons.mpr ⟨fun b hb => ?_, enumP_lt ps (k + 1)⟩
    obtain ⟨i, h1, _⟩ := enumP_mem hb
    show k < b.1
    omega
theorem fm_if {α β : Type} {q : α → Bool} {g : α → β} : ∀ l : List α, l.filterMap (fun a => if q a = true then some (g a) else none) = (l.filter q).map g
  | [] => rfl
  | a :: l => by
    rw [List.filterMap_cons, List.filter_cons, fm_if l]
    cases q a <;> simp
theorem shut_ok {n : Net} (ok : n.Ok) (p : Pen) : ∃ (S : List Nat) (p' : Pen), ShutOk n S ∧ m__law_shut [.pen (penO p), .val n.D] = M.ok (.val (.tuple (nD S)), [some (.pen (penO p')), some (.val n.D)]) := by
  have y1 : n.D = .tuple [.tuple (n.js.map Joint.D), .tuple (n.ps.map Pipe.D)] := rfl
  have f9 := ok.p1
  let C := (enumP 0 n.ps).filter fun a => a.2.gate || decide (0 < a.2.lift)
  have x1 : lcL (gtTup (gtCons (gtName 3) (gtCons (gtName 4) gtNil))) (tOrF (eT (e2 ixD (eVar 4) (eC (.int 5)))) (eT (e2 gtD (e2 ixD (eVar 4) (eC (.int 4))) (eC (.int 0))))) (eVar 3) [3, 4] (numL 0 (n.ps.map Pipe.D)) [] [some (.pen (penO p)), some (.val n.D), none, none, none] =
      M.ok (nD (C.map (·.1)), [some (.pen (penO p)), some (.val n.D), none, none, none]) := by
    rw [numL_enum, lcL_typ (h := fun a => if (a.2.gate || decide (0 < a.2.lift)) = true then some (iD a.1) else none) (fun a _ => by
      have hl : decide ((0 : Int) < (a.2.lift : Int)) = decide (0 < a.2.lift) := by rw [decide_eq_decide]; omega
      cases h1 : a.2.gate <;> cases h2 : decide (0 < a.2.lift) <;> rw [h2] at hl <;> simp [encP, Pipe.D, h1, h2, hl, iD]) (by rw [enumP_len]; simp; omega)]
    congr 2
    rw [List.nil_append]
    show _ = (((enumP 0 n.ps).filter fun a => a.2.gate || decide (0 < a.2.lift)).map (·.1)).map iD
    rw [fm_if (q := fun a : Nat × Pipe => a.2.gate || decide (0 < a.2.lift)) (g := fun a => iD a.1), List.map_map]
    rfl
  obtain ⟨out, env', x2, ⟨p', rfl⟩, hsub⟩ := lcL_sub (gt := gtName 3) (ft := eT (e2 eqD (callP m__law_draw (aCons (eVar 0) (aCons (eC (.int 5)) aNil))) (eC (.int 0)))) (fe := eVar 3) (vs := [3]) (Inv := fun env => ∃ p', env = [some (.pen (penO p')), some (.val n.D), some (.val (.list (nD (C.map (·.1))))), none, none]) (ds := nD (C.map (·.1))) (acc := []) (env := [some (.pen (penO p)), some (.val n.D), some (.val (.list (nD (C.map (·.1))))), none, none]) (fun d hd env he => by
    obtain ⟨p', rfl⟩ := he
    obtain ⟨k, _, rfl⟩ := List.mem_map.mp hd
    by_cases h : drawR p' 5 = 0
    · exact ⟨true, _, by simp [draw_eq, h, iD]; exact rfl, _, rfl⟩
    · exact ⟨false, _, by simp [draw_eq, beqF h, iD]; exact rfl, _, rfl⟩) ⟨p, rfl⟩ (by
      have : C.length ≤ (enumP 0 n.ps).length := List.length_filter_le _ _
      rw [enumP_len] at this
      simp; omega)
  rw [List.nil_append] at x2
  obtain ⟨S, hS, rfl⟩ := List.sublist_map_iff.mp hsub
  have mem : ∀ k ∈ S, ∃ q, n.ps[k]? = some q ∧ (q.gate = true ∨ 0 < q.lift) := fun k hk => by
    obtain ⟨a, ha, rfl⟩ := List.mem_map.mp (hS.subset hk)
    obtain ⟨h1, h2⟩ := List.mem_filter.mp ha
    obtain ⟨i, e, h3⟩ := enumP_mem h1
    rw [Nat.zero_add] at e
    rw [e]
    exact ⟨a.2, h3, by simpa using h2⟩
  refine ⟨S, p', ⟨?_, fun k hk => ?_, fun k hk q hq => ?_⟩, ?_⟩
  · refine List.Pairwise.sublist hS ?_
    rw [List.pairwise_map]
    exact (enumP_lt n.ps 0).filter _
  · obtain ⟨q, h, _⟩ := mem k hk
    exact (List.getElem?_eq_some_iff.mp h).1
  · obtain ⟨q', h, h2⟩ := mem k hk
    rw [hq] at h
    cases h
    exact h2
  · have x2' : lcL (gtName 3) (eT (e2 eqD (callP m__law_draw (aCons (eVar 0) (aCons (eC (.int 5)) aNil))) (eC (.int 0)))) (eVar 3) [3] (nD (C.map (·.1))) [] [some (.pen (penO p)), some (.val n.D), some (.val (.list (nD (C.map (·.1))))), none, none] = M.ok (nD S, [some (.pen (penO p')), some (.val n.D), some (.val (.list (nD (C.map (·.1))))), none, none]) := x2
    generalize C.map (·.1) = K at x1 x2'
    rw [y1] at x1 x2' ⊢
    simp [m__law_shut, f__law_shut, x1, x2']
def places (n : Net) : List Nat := (List.range n.js.length).filter n.place
theorem places_eq {n : Net} (ok : n.Ok) : m__law_places [.val n.D] = M.ok (.own (.lst (nD (places n))), [some (.val n.D)]) := by
  have y1 : n.D = .tuple [.tuple (n.js.map Joint.D), .tuple (n.ps.map Pipe.D)] := rfl
  have n7 := ok.j1
  have z : argI rng1I (aCons (eCB lenD (aCons (e2 ixD (eVar 0) (eC (.int 0))) aNil)) aNil) [some (.val n.D), none] = M.ok ((List.range n.js.length).map iD, [some (.val n.D), none]) :=
    argI_run (ds := [.int (n.js.length : Int)]) (by simp [y1]) (rng1_n (by omega))
  have inner : lcL (gtName 1) (eT (e2 eqD (e2 ixD (e2 ixD (e2 ixD (eVar 0) (eC (.int 0))) (eVar 1)) (eC (.int 0))) (eC (.str (Str.ofString "place"))))) (eVar 1) [1] ((List.range n.js.length).map iD) [] [some (.val n.D), none] = some (.ok ((places n).map iD, [some (.val n.D), none])) :=
    lcL_typF (enc := iD) (q := n.place) (l := List.range n.js.length) (fun j hj => by
      have hj' := List.mem_range.mp hj
      obtain ⟨w, r, e1, e2⟩ := not_place n hj'
      have pj := pick_j n hj'
      rw [e1] at pj
      cases q : n.place j <;> rw [q] at e2 <;> simp [y1, iD, pj, e2]) (by simp; omega)
  have lc : lcF (argI rng1I (aCons (eCB lenD (aCons (e2 ixD (eVar 0) (eC (.int 0))) aNil)) aNil)) (gtName 1) (eT (e2 eqD (e2 ixD (e2 ixD (e2 ixD (eVar 0) (eC (.int 0))) (eVar 1)) (eC (.int 0))) (eC (.str (Str.ofString "place"))))) (eVar 1) [1] [some (.val n.D), none] = M.ok (.own (.lst (nD (places n))), [some (.val n.D), none]) := by
    rw [s_lcF, z]
    simp [inner]
    rfl
  have h0 : f__law_places ([Sl.val n.D].map some ++ List.replicate 1 none) = M.ok (.rt (.own (.lst (nD (places n)))) [some (.val n.D), none]) := by
    show retF _ [some (.val n.D), none] = _
    rw [s_retF, lc]
    rfl
  unfold m__law_places
  rw [body_rt (by rfl) h0]
  rfl
/-! ### things -/
structure ThingP (d : PyData) : Prop where
  rep : ∃ s, reprG [d] = some (.val (.str s))
  kind : noPair d = true ∨ ∃ g ws, d = .tuple [g, .tuple ws] ∧ GOk g ∧ (∀ w ∈ ws, WOk w) ∧ ws.length ≤ 30
theorem rep_tup {w k : Nat} {xs : List PyData} (h : Sm w k (.tuple xs)) (hw : w ≤ 1048576 := by decide) (hk : k ≤ 64 := by decide) : ∃ s, reprG [.tuple xs] = some (.val (.str s)) :=
  ⟨_, by unfold reprG; simp only; unfold reprD; simp only; rw [if_pos (h.repr hw hk)]⟩
theorem rep_lst {w k : Nat} {xs : List PyData} (h : Sm w k (.list xs)) (hw : w ≤ 1048576 := by decide) (hk : k ≤ 64 := by decide) : ∃ s, reprG [.list xs] = some (.val (.str s)) :=
  ⟨_, by unfold reprG; simp only; unfold reprD; simp only; rw [if_pos (h.repr hw hk)]⟩
def oddL : List PyData := [.none, .bool true, .bool false, .int (-1), .int 0, .int 100000000000, .str (Str.ofString ""), .str (Str.ofString "gate"), .tuple [], .list [], .dict [], .tuple [.int 0], .list [.int 0], .tuple [.tuple []], .tuple [.tuple [], .tuple []], .tuple [.bool true]]
theorem odd_thing : ∀ d ∈ oddL, ThingP d := fun d hd => by
  have gr : ∀ d, (match reprG [d] with | some (.val (.str _)) => true | _ => false) = true → ∃ s, reprG [d] = some (.val (.str s)) := fun d h => by
    split at h
    · exact ⟨_, by assumption⟩
    · cases h
  simp only [oddL, List.mem_cons, List.not_mem_nil, or_false] at hd
  rcases hd with rfl | rfl | rfl | rfl | rfl | rfl | rfl | rfl | rfl | rfl | rfl | rfl | rfl | rfl | rfl | rfl
  case inr.inr.inr.inr.inr.inr.inr.inr.inr.inr.inr.inr.inr.inr.inl =>
    exact ⟨gr _ (by decide +kernel), .inr ⟨_, _, rfl, ⟨fun gs e => by cases e; simp⟩, by simp, by simp⟩⟩
  all_goals exact ⟨gr _ (by decide +kernel), .inl rfl⟩
theorem odd_ok (p : Pen) : ∃ (d : PyData) (p' : Pen), ThingP d ∧ m__law_odd__3 [.pen (penO p)] = M.ok (.val d, [some (.pen (penO p'))]) := by
  obtain ⟨r, hr, hr'⟩ := dr p 16 (by decide)
  have hl : r < oddL.length := by show r < 16; omega
  refine ⟨oddL[r], drawP p 16, odd_thing _ (List.getElem_mem hl), ?_⟩
  have e : atI oddL (r : Int) = some oddL[r] := by rw [atI_nat hl, List.getElem?_eq_getElem hl]
  have pw : powD (.int 10) (.int 11) = some (.val (.int 100000000000)) := by simp [powD, vI]
  have dn : eDNew [some (Sl.pen (penO p)), none] = M.ok (.own (.dct []), [some (.pen (penO p)), none]) := rfl
  have h0 : asgF 1 (eLst (aCons (eC .none) (aCons (eC (.bool true)) (aCons (eC (.bool false)) (aCons (e1 negD (eC (.int 1))) (aCons (eC (.int 0)) (aCons (e2 powD (eC (.int 10)) (eC (.int 11))) (aCons (eC (.str (Str.ofString ""))) (aCons (eC (.str (Str.ofString "gate"))) (aCons (eTup aNil) (aCons (eLst aNil) (aCons eDNew (aCons (eTup (aCons (eC (.int 0)) aNil)) (aCons (eLst (aCons (eC (.int 0)) aNil)) (aCons (eTup (aCons (eTup aNil) aNil)) (aCons (eTup (aCons (eTup aNil) (aCons (eTup aNil) aNil))) (aCons (eTup (aCons (eC (.bool true)) aNil)) aNil))))))))))))))))) [some (.pen (penO p)), none] = M.ok (.nx [some (.pen (penO p)), some (.own (.lst oddL))]) := by
    simp [pw, dn, oddL, Own.d]
  have h1 : f__law_odd__3 ([Sl.pen (penO p)].map some ++ List.replicate 1 none) = M.ok (.rt (.val oddL[r]) [some (.pen (penO (drawP p 16))), some (.own (.lst oddL))]) := by
    show seqF _ _ [some (.pen (penO p)), none] = _
    rw [seq_nx h0]
    generalize oddL[r] = z at e ⊢
    generalize oddL = O at e ⊢
    simp [draw_eq, hr, e]
  unfold m__law_odd__3
  rw [body_rt (by rfl) h1]
  simp [penO]
end WH
set_option Elab.async false
set_option linter.all false
set_option maxRecDepth 100000
set_option maxHeartbeats 4000000
namespace WH
open PySem PySem.Spec PyProof.Rows L2 DL He
inductive Item : PyData → Prop
  | int (k : Int) (h : k.natAbs ≤ 1000) : Item (.int k)
  | bool (b : Bool) : Item (.bool b)
  | non : Item .none
  | s0 : Item (.str (Str.ofString "0"))
  | t0 : Item (.tuple [.int 0])
theorem Item.sm {d : PyData} (h : Item d) : Sm 60 1 d := by
  cases h with
  | int k h => exact Sm.int (by omega)
  | bool b => exact Sm.bool
  | non => exact Sm.none
  | s0 => exact Sm.str (by decide +kernel) (by decide +kernel)
  | t0 => exact Sm.tup (w := 40) (k := 0) (n := 1) (fun x hx => by simp at hx; subst hx; exact Sm.int (by decide)) (by simp) (by decide) (by decide)
def Its (B : Nat) (xs : List PyData) : Prop := xs.length ≤ B ∧ ∀ x ∈ xs, Item x
def RowP (d : PyData) : Prop := ∃ xs, Its 30 xs ∧ (d = .tuple xs ∨ d = .list xs)
theorem RowP.sm {d : PyData} (h : RowP d) : Sm 1830 2 d := by
  obtain ⟨xs, ⟨h1, h2⟩, rfl | rfl⟩ := h
  · exact Sm.tup (w := 60) (k := 1) (n := 30) (fun x hx => (h2 x hx).sm) h1 (by decide) (by decide)
  · exact Sm.lst (w := 60) (k := 1) (n := 30) (fun x hx => (h2 x hx).sm) h1 (by decide) (by decide)
theorem cutD_len (ds : List PyData) (lo hi : Option Int) : (DL.cutD ds lo hi).length ≤ ds.length := by
  unfold DL.cutD
  rw [List.length_take, List.length_drop]
  omega
theorem cutD_mem {ds : List PyData} {lo hi : Option Int} {x : PyData} (h : x ∈ DL.cutD ds lo hi) : x ∈ ds := by
  unfold DL.cutD at h
  exact List.mem_of_mem_drop (List.mem_of_mem_take h)
theorem nD_items {R : List Nat} (h : ∀ k ∈ R, k ≤ 1000) : ∀ x ∈ nD R, Item x := fun x hx => by
  obtain ⟨k, hk, rfl⟩ := List.mem_map.mp hx
  exact .int _ (by have := h k hk; omega)
theorem pick_any {l : List PyData} {r : Nat} (h : r < l.length) : atI l (r : Int) = some l[r] := by
  rw [atI_nat h, List.getElem?_eq_getElem h]
theorem row_ok (p : Pen) (R : List Nat) (hR : R.length ≤ 10) (hk : ∀ k ∈ R, k ≤ 1000) (m : Nat) (h1 : 1 ≤ m) (h2 : m ≤ 100) : ∃ (d : PyData) (p' : Pen), RowP d ∧ m__law_row [.pen (penO p), .val (.tuple (nD R)), .val (.int (m : Int))] = M.ok (.val d, [some (.pen (penO p')), some (.val (.tuple (nD R))), some (.val (.int (m : Int)))]) := by
  obtain ⟨r, hr, hr'⟩ := dr p ((R.length : Int) + 1) (by omega)
  have d1 := draw_eq p ((R.length : Int) + 1) (by omega) (by omega)
  let p1 := drawP p ((R.length : Int) + 1)
  obtain ⟨a, ha, ha'⟩ := dr p1 m (by omega)
  have d2 := draw_eq p1 (m : Int) (by omega) (by omega)
  let p2 := drawP p1 m
  obtain ⟨b, hb, hb'⟩ := dr p2 7 (by decide)
  let p3 := drawP p2 7
  obtain ⟨c, hc, hc'⟩ := dr p3 7 (by decide)
  let NL : List PyData := [.int (a : Int), .int (m : Int), .int (-1), .bool true, .none, .str (Str.ofString "0"), .tuple [.int 0]]
  have bl : b < NL.length := by show b < 7; omega
  have eb := pick_any bl
  have ita : ∀ y ∈ NL, Item y := fun y this => by
    simp only [NL, List.mem_cons, List.not_mem_nil, or_false] at this
    rcases this with e | e | e | e | e | e | e
    · rw [e]; exact .int _ (by omega)
    · rw [e]; exact .int _ (by omega)
    · rw [e]; exact .int _ (by decide)
    · rw [e]; exact .bool _
    · rw [e]; exact .non
    · rw [e]; exact .s0
    · rw [e]; exact .t0
  have it : Item NL[b] := ita _ (List.getElem_mem bl)
  have z1 : asgF 3 (callP m__law_draw (aCons (eVar 0) (aCons (e2 addD (eCB lenD (aCons (eVar 1) aNil)) (eC (.int 1))) aNil))) [some (.pen (penO p)), some (.val (.tuple (nD R))), some (.val (.int (m : Int))), none, none, none, none] = M.ok (.nx [some (.pen (penO p1)), some (.val (.tuple (nD R))), some (.val (.int (m : Int))), some (.val (.int (r : Int))), none, none, none]) := by
    simp [d1, hr, p1]
  have z2 : asgF 4 (e2 ixD (eLst (aCons (callP m__law_draw (aCons (eVar 0) (aCons (eVar 2) aNil))) (aCons (eVar 2) (aCons (e1 negD (eC (.int 1))) (aCons (eC (.bool true)) (aCons (eC .none) (aCons (eC (.str (Str.ofString "0"))) (aCons (eTup (aCons (eC (.int 0)) aNil)) aNil)))))))) (callP m__law_draw (aCons (eVar 0) (aCons (eC (.int 7)) aNil)))) [some (.pen (penO p1)), some (.val (.tuple (nD R))), some (.val (.int (m : Int))), some (.val (.int (r : Int))), none, none, none] =
      M.ok (.nx [some (.pen (penO p3)), some (.val (.tuple (nD R))), some (.val (.int (m : Int))), some (.val (.int (r : Int))), some (.val NL[b]), none, none]) := by
    have d3 := draw_eq p2 7 (by decide) (by decide)
    have eb' : atI [PyData.int (a : Int), .int (m : Int), .int (-1), .bool true, .none, .str (Str.ofString "0"), .tuple [.int 0]] (b : Int) = some NL[b] := eb
    generalize NL[b] = z at eb'
    have d2' : m__law_draw [Sl.pen (penO p1), .val (.int (m : Int))] = M.ok (.val (.int (a : Int)), [some (.pen (penO p2)), some (.val (.int (m : Int)))]) := by rw [d2, ha]
    have d3' : m__law_draw [Sl.pen (penO p2), .val (.int 7)] = M.ok (.val (.int (b : Int)), [some (.pen (penO p3)), some (.val (.int 7))]) := by rw [d3, hb]
    simp [d2', d3', eb']
  generalize hx : NL[b] = x at z2 it
  have rl : R.length ≤ 10 := hR
  have cl := fun lo hi => cutD_len (nD R) lo hi
  have ci : ∀ lo hi, ∀ y ∈ DL.cutD (nD R) lo hi, Item y := fun lo hi y hy => nD_items hk y (cutD_mem hy)
  generalize hA : DL.cutD (nD R) none (some (r : Int)) = A
  generalize hB1 : DL.cutD (nD R) (some ((r : Int) + 1)) none = B1
  generalize hB0 : DL.cutD (nD R) (some (r : Int)) none = B0
  generalize hZ : DL.cutD (nD R) (some (-1)) none = Z
  have lA : A.length ≤ 10 := by rw [← hA]; have := cl none (some (r : Int)); simp at this; omega
  have lB1 : B1.length ≤ 10 := by rw [← hB1]; have := cl (some ((r : Int) + 1)) none; simp at this; omega
  have lB0 : B0.length ≤ 10 := by rw [← hB0]; have := cl (some (r : Int)) none; simp at this; omega
  have lZ : Z.length ≤ 10 := by rw [← hZ]; have := cl (some (-1)) none; simp at this; omega
  have iA : ∀ y ∈ A, Item y := by rw [← hA]; exact ci _ _
  have iB1 : ∀ y ∈ B1, Item y := by rw [← hB1]; exact ci _ _
  have iB0 : ∀ y ∈ B0, Item y := by rw [← hB0]; exact ci _ _
  have iZ : ∀ y ∈ Z, Item y := by rw [← hZ]; exact ci _ _
  let SL : List PyData := [.tuple (A ++ [x] ++ B1), .tuple (A ++ [x] ++ B0), .tuple (A ++ B1), .tuple (nD R).reverse]
  have z3 : asgF 5 (eLst (aCons (e2 addD (e2 addD (eSl (eVar 1) oNone (oSome (eVar 3))) (eTup (aCons (eVar 4) aNil))) (eSl (eVar 1) (oSome (e2 addD (eVar 3) (eC (.int 1)))) oNone)) (aCons (e2 addD (e2 addD (eSl (eVar 1) oNone (oSome (eVar 3))) (eTup (aCons (eVar 4) aNil))) (eSl (eVar 1) (oSome (eVar 3)) oNone)) (aCons (e2 addD (eSl (eVar 1) oNone (oSome (eVar 3))) (eSl (eVar 1) (oSome (e2 addD (eVar 3) (eC (.int 1)))) oNone)) (aCons (e1 revD (eVar 1)) aNil))))) [some (.pen (penO p3)), some (.val (.tuple (nD R))), some (.val (.int (m : Int))), some (.val (.int (r : Int))), some (.val x), none, none] =
      M.ok (.nx [some (.pen (penO p3)), some (.val (.tuple (nD R))), some (.val (.int (m : Int))), some (.val (.int (r : Int))), some (.val x), some (.own (.lst SL)), none]) := by
    have q1 : A.length + 1 ≤ 100000 := by omega
    have q2 : A.length + 1 + B1.length ≤ 100000 := by omega
    have q3 : A.length + 1 + B0.length ≤ 100000 := by omega
    have q4 : A.length + B1.length ≤ 100000 := by omega
    have q5 : A.length + (B1.length + 1) ≤ 100000 := by omega
    have q6 : A.length + (B0.length + 1) ≤ 100000 := by omega
    simp [hA, hB1, hB0, q1, q2, q3, q4, q5, q6, SL]
  let BL : List PyData := R.map fun k : Nat => .bool ((k : Int) == 1)
  let FL : List PyData := SL ++ [.list (nD R), .tuple (nD R ++ Z), .tuple BL]
  have fl : c < FL.length := by show c < 7; omega
  have ef := pick_any fl
  have rpa : ∀ y ∈ FL, RowP y := fun y this => by
    simp only [FL, SL, List.cons_append, List.nil_append, List.mem_cons, List.not_mem_nil, or_false] at this
    have mem2 : ∀ {P Q : List PyData}, (∀ y ∈ P, Item y) → (∀ y ∈ Q, Item y) → ∀ y ∈ P ++ Q, Item y := fun hP hQ y hy => (List.mem_append.mp hy).elim (hP y) (hQ y)
    have ix : ∀ y ∈ [x], Item y := fun y hy => by simp at hy; subst hy; exact it
    rcases this with e | e | e | e | e | e | e
    · rw [e]; exact ⟨_, ⟨by simp; omega, mem2 (mem2 iA ix) iB1⟩, .inl rfl⟩
    · rw [e]; exact ⟨_, ⟨by simp; omega, mem2 (mem2 iA ix) iB0⟩, .inl rfl⟩
    · rw [e]; exact ⟨_, ⟨by simp; omega, mem2 iA iB1⟩, .inl rfl⟩
    · rw [e]; exact ⟨_, ⟨by simp; omega, fun y hy => nD_items hk y (List.mem_reverse.mp hy)⟩, .inl rfl⟩
    · rw [e]; exact ⟨_, ⟨by simp; omega, nD_items hk⟩, .inr rfl⟩
    · rw [e]; exact ⟨_, ⟨by simp; omega, mem2 (nD_items hk) iZ⟩, .inl rfl⟩
    · rw [e]; exact ⟨_, ⟨by simp [BL]; omega, fun y hy => by obtain ⟨k, _, rfl⟩ := List.mem_map.mp hy; exact .bool _⟩, .inl rfl⟩
  have rp : RowP FL[c] := rpa _ (List.getElem_mem fl)
  refine ⟨FL[c], drawP p3 7, rp, ?_⟩
  have x6 : ∀ o0 o5 : Option Sl, lcL (gtName 6) yesF (e2 eqD (eVar 6) (eC (.int 1))) [6] (nD R) [] [o0, some (.val (.tuple (nD R))), some (.val (.int (m : Int))), some (.val (.int (r : Int))), some (.val x), o5, none] = some (.ok (BL, [o0, some (.val (.tuple (nD R))), some (.val (.int (m : Int))), some (.val (.int (r : Int))), some (.val x), o5, none])) := fun o0 o5 =>
    lcL_typM (enc := iD) (h := fun k => .bool ((k : Int) == 1)) (l := R) (fun k hk => by simp [iD]) (by simp; omega)
  have d4' : m__law_draw [Sl.pen (penO p3), .val (.int 7)] = M.ok (.val (.int (c : Int)), [some (.pen (penO (drawP p3 7))), some (.val (.int 7))]) := by rw [draw_eq p3 7 (by decide) (by decide), hc]
  have h0 : f__law_row ([Sl.pen (penO p), .val (.tuple (nD R)), .val (.int (m : Int))].map some ++ List.replicate 4 none) = M.ok (.rt (.val FL[c]) [some (.pen (penO (drawP p3 7))), some (.val (.tuple (nD R))), some (.val (.int (m : Int))), some (.val (.int (r : Int))), some (.val x), some (.own (.lst SL)), none]) := by
    show seqF _ (seqF _ (seqF _ (retF _))) [some (.pen (penO p)), some (.val (.tuple (nD R))), some (.val (.int (m : Int))), none, none, none, none] = _
    rw [seq_nx z1, seq_nx z2, seq_nx z3]
    have l3 : SL.length + 3 ≤ 100000 := by show 4 + 3 ≤ 100000; decide
    have l4 : R.length + Z.length ≤ 100000 := by omega
    have ef' : atI (SL ++ [.list (nD R), .tuple (nD R ++ Z), .tuple BL]) (c : Int) = some FL[c] := ef
    generalize FL[c] = z at ef'
    generalize SL = SL' at ef' l3 ⊢
    generalize BL = BL' at ef' x6
    simp [x6, hZ, l3, l4, d4', ef']
  unfold m__law_row
  rw [body_rt (by rfl) h0]
  simp [penO]
end WH
set_option Elab.async false
set_option linter.all false
set_option maxRecDepth 100000
set_option maxHeartbeats 4000000
namespace WH
open PySem PySem.Spec PyProof.Rows L2 DL He
def WP (w : PyData) : Prop := RowP w ∨ Item w
theorem WP.sm {w : PyData} (h : WP w) : Sm 1830 2 w := by
  rcases h with h | h
  · exact h.sm
  · exact h.sm.mono (by decide) (by decide)
theorem WP.wok {w : PyData} (h : WP w) : WOk w := by
  refine ⟨fun xs e => ⟨?_, ?_⟩⟩
  · rcases h with ⟨ys, ⟨h1, _⟩, rfl | rfl⟩ | h
    · cases e; omega
    · cases e
    · subst e; cases h; simp
  · rw [← e]; exact h.sm.shaped
theorem ws_sm {ws : List PyData} (hw : ∀ w ∈ ws, WP w) (hl : ws.length ≤ 20) : Sm 36620 3 (.tuple ws) := Sm.tup (w := 1830) (k := 2) (n := 20) (fun x hx => (hw x hx).sm) hl (by decide) (by decide)
theorem thing_pair {g : PyData} {ws : List PyData} (hg : Sm 36620 3 g) (hgk : GOk g) (hw : ∀ w ∈ ws, WP w) (hl : ws.length ≤ 20) : ThingP (.tuple [g, .tuple ws]) := by
  refine ⟨rep_tup (w := 100000) (k := 4) ?_, .inr ⟨g, ws, rfl, hgk, fun w h => (hw w h).wok, by omega⟩⟩
  refine Sm.tup (w := 36620) (k := 3) (n := 2) (fun x hx => ?_) (by simp) (by decide) (by decide)
  simp only [List.mem_cons, List.not_mem_nil, or_false] at hx
  rcases hx with rfl | rfl
  · exact hg
  · exact ws_sm hw hl
theorem row_g {g : PyData} (h : RowP g) : Sm 36620 3 g ∧ GOk g := by
  refine ⟨h.sm.mono (by decide) (by decide), ⟨fun gs e => ?_⟩⟩
  obtain ⟨ys, ⟨h1, _⟩, rfl | rfl⟩ := h
  · cases e; omega
  · cases e
theorem nD_row {R : List Nat} (hl : R.length ≤ 30) (hk : ∀ k ∈ R, k ≤ 1000) : RowP (.tuple (nD R)) := ⟨nD R, ⟨by simpa using hl, nD_items hk⟩, .inl rfl⟩
theorem row_two {g : PyData} {ws : List PyData} (hg : RowP g) (hw : ∀ w ∈ ws, WP w) (hl : ws.length ≤ 20) : ThingP (.tuple [g, .tuple ws]) := thing_pair (row_g hg).1 (row_g hg).2 hw hl
structure CutP (n : Net) (L : List Nat) (Ws : List (List Nat)) : Prop where
  l9 : L.length ≤ 9
  w9 : Ws.length ≤ 9
  lk : ∀ k ∈ L, k < n.ps.length
  wk : ∀ w ∈ Ws, w.length ≤ 9 ∧ ∀ k ∈ w, k < n.ps.length
theorem CutP.ways {n : Net} (ok : n.Ok) {L : List Nat} {Ws : List (List Nat)} (h : CutP n L Ws) : ∀ w ∈ Ws.map lotD, WP w := fun w hw => by
  obtain ⟨W, hW, rfl⟩ := List.mem_map.mp hw
  obtain ⟨h1, h2⟩ := h.wk W hW
  have := ok.p1
  exact .inl (nD_row (by omega) fun k hk => by have := h2 k hk; omega)
theorem sort_items {zs : List Int} (h : ∀ z ∈ zs, z.natAbs ≤ 1000) : ∀ x ∈ (sortI zs).map PyData.int, Item x := fun x hx => by
  obtain ⟨z, hz, rfl⟩ := List.mem_map.mp hx
  have : ∀ (zs : List Int), (sortI zs).Perm zs := fun zs => by
    induction zs with
    | nil => exact List.Perm.refl _
    | cons a r ih => exact (insI_perm a (sortI r)).trans (ih.cons a)
  exact .int _ (h z ((this zs).mem_iff.mp hz))
theorem sort_len (zs : List Int) : (sortI zs).length = zs.length := by
  have : ∀ (zs : List Int), (sortI zs).Perm zs := fun zs => by
    induction zs with
    | nil => exact List.Perm.refl _
    | cons a r ih => exact (insI_perm a (sortI r)).trans (ih.cons a)
  exact (this zs).length_eq
def bU : FS := (seqF (asgF 10 (callP m__law_row (aCons (eVar 0) (aCons (eVar 9) (aCons (eVar 5) aNil)))))
    (seqF (dropF (eApp 8 (eTup (aCons (eVar 3) (aCons (e2 addD (e2 addD (eSl (eVar 4) oNone (oSome (eVar 6))) (eTup (aCons (eVar 10) aNil))) (eSl (eVar 4) (oSome (e2 addD (eVar 6) (eC (.int 1)))) oNone)) aNil)))))
    (dropF (eApp 8 (eTup (aCons (eVar 3) (aCons (e2 addD (e2 addD (eSl (eVar 4) oNone (oSome (eVar 6))) (eTup (aCons (e2 addD (eVar 9) (e2 mulG (eSl (eVar 9) (oSome (e1 negD (eC (.int 1)))) oNone) (eC (.int 2)))) aNil))) (eSl (eVar 4) (oSome (e2 addD (eVar 6) (eC (.int 1)))) oNone)) aNil)))))))
def bE (p : Pen) (n : Net) (gs ws : List PyData) (m at_ k : Nat) (T : List PyData) (o9 o10 : Option Sl) : EnvD := [some (.pen (penO p)), some (.val n.D), some (.val (.tuple [.tuple gs, .tuple ws])), some (.val (.tuple gs)), some (.val (.tuple ws)), some (.val (.int (m : Int))), some (.val (.int (at_ : Int))), some (.val (.int (k : Int))), some (.own (.lst T)), o9, o10]
theorem b_walk {n : Net} (gs ws : List PyData) (hg : RowP (.tuple gs)) (hw : ∀ w ∈ ws, WP w) (hl : ws.length ≤ 9) (m at_ k : Nat) (hm1 : 1 ≤ m) (hm2 : m ≤ 100) : ∀ (Us : List (List Nat)) (p : Pen) (T : List PyData) (o9 o10 : Option Sl), (∀ W ∈ Us, W.length ≤ 9 ∧ ∀ k ∈ W, k ≤ 1000) → (∀ d ∈ T, ThingP d) → T.length + 2 * Us.length ≤ 900 → Vac o9 → Vac o10 →
    ∃ p' T' b9 b10, (∀ d ∈ T', ThingP d) ∧ T.length ≤ T'.length ∧ T'.length ≤ T.length + 2 * Us.length ∧ forL (gtName 9) bU (Us.map lotD) (bE p n gs ws m at_ k T o9 o10) = M.ok (.nx (bE p' n gs ws m at_ k T' b9 b10))
  | [], p, T, o9, o10, _, hT, _, _, _ => ⟨p, T, o9, o10, hT, Nat.le_refl _, by simp, by simp⟩
  | W :: Us, p, T, o9, o10, hU, hT, hl', h9, h10 => by
    simp only [List.length_cons] at hl'
    obtain ⟨w1, w2⟩ := hU W (by simp)
    obtain ⟨d, p1, hd, e⟩ := row_ok p W (by omega) w2 m hm1 hm2
    generalize hA : DL.cutD ws none (some (at_ : Int)) = A
    generalize hB : DL.cutD ws (some ((at_ : Int) + 1)) none = B
    have lA : A.length ≤ 9 := by rw [← hA]; have := cutD_len ws none (some (at_ : Int)); omega
    have lB : B.length ≤ 9 := by rw [← hB]; have := cutD_len ws (some ((at_ : Int) + 1)) none; omega
    have iA : ∀ y ∈ A, WP y := by rw [← hA]; exact fun y hy => hw y (cutD_mem hy)
    have iB : ∀ y ∈ B, WP y := by rw [← hB]; exact fun y hy => hw y (cutD_mem hy)
    generalize hZ : DL.cutD (nD W) (some (-1)) none = Z
    have lZ : Z.length ≤ 9 := by rw [← hZ]; have := cutD_len (nD W) (some (-1)) none; simp at this; omega
    have iZ : ∀ y ∈ Z, Item y := by rw [← hZ]; exact fun y hy => nD_items w2 y (cutD_mem hy)
    have mid : ∀ w, WP w → ThingP (.tuple [.tuple gs, .tuple (A ++ [w] ++ B)]) := fun w h => row_two hg (fun y hy => by
      rcases List.mem_append.mp hy with hy | hy
      · rcases List.mem_append.mp hy with hy | hy
        · exact iA y hy
        · simp at hy; subst hy; exact h
      · exact iB y hy) (by simp; omega)
    have w3 : WP (.tuple (nD W ++ (List.replicate 2 Z).flatten)) := .inl ⟨_, ⟨by simp; omega, fun y hy => by
      rcases List.mem_append.mp hy with hy | hy
      · exact nD_items w2 y hy
      · simp only [List.replicate, List.flatten_cons, List.flatten_nil, List.append_nil, List.mem_append] at hy
        exact hy.elim (iZ y) (iZ y)⟩, .inl rfl⟩
    have t1 := mid d (.inl hd)
    have t2 := mid _ w3
    obtain ⟨p', T', b9, b10, g1, g2, g3, x⟩ := b_walk (n := n) gs ws hg hw hl m at_ k hm1 hm2 Us p1 (T ++ [.tuple [.tuple gs, .tuple (A ++ [d] ++ B)]] ++ [.tuple [.tuple gs, .tuple (A ++ [.tuple (nD W ++ (List.replicate 2 Z).flatten)] ++ B)]]) (some (.val (lotD W))) (some (.val d)) (fun V hV => hU V (by simp [hV])) (fun y hy => by
      rcases List.mem_append.mp hy with hy | hy
      · rcases List.mem_append.mp hy with hy | hy
        · exact hT y hy
        · simp at hy; subst hy; simpa using t1
      · simp at hy; subst hy; simpa using t2) (by simp; omega) (.inr ⟨_, rfl⟩) (.inr ⟨_, rfl⟩)
    refine ⟨p', T', b9, b10, g1, by simp at g2; omega, by simp at g3 ⊢; omega, ?_⟩
    rw [List.map_cons, forL_step]
    have s : forStep (gtName 9) bU (lotD W) (bE p n gs ws m at_ k T o9 o10) = bU (bE p n gs ws m at_ k T (some (.val (lotD W))) o10) := by
      rcases h9 with rfl | ⟨z, rfl⟩ <;> simp [bE]
    have q1 : A.length + 1 ≤ 100000 := by omega
    have q2 : A.length + (B.length + 1) ≤ 100000 := by omega
    have q2' : A.length + 1 + B.length ≤ 100000 := by omega
    have q3 : T.length < 100000 := by omega
    have q4 : T.length + 1 < 100000 := by omega
    have q5 : Z.length ≤ 1000 := by omega
    have q6 : W.length + (Z.length + Z.length) ≤ 100000 := by omega
    have s2 : bU (bE p n gs ws m at_ k T (some (.val (lotD W))) o10) = M.ok (.nx (bE p1 n gs ws m at_ k (T ++ [.tuple [.tuple gs, .tuple (A ++ [d] ++ B)]] ++ [.tuple [.tuple gs, .tuple (A ++ [.tuple (nD W ++ (List.replicate 2 Z).flatten)] ++ B)]]) (some (.val (lotD W))) (some (.val d)))) := by
      unfold bU
      rw [seq_nx (env1 := bE p1 n gs ws m at_ k T (some (.val (lotD W))) (some (.val d))) (by
        unfold lotD
        rcases h10 with rfl | ⟨z, rfl⟩ <;> simp [bE, e])]
      rw [seq_nx (env1 := bE p1 n gs ws m at_ k (T ++ [.tuple [.tuple gs, .tuple (A ++ [d] ++ B)]]) (some (.val (lotD W))) (some (.val d))) (by
        simp [bE, hA, hB, q1, q2, q2', q3])]
      unfold lotD
      simp [bE, hA, hB, hZ, q1, q2, q2', q3, q4, q5, q6, mulG]
    rw [s, s2]
    exact x
end WH
set_option Elab.async false
set_option linter.all false
set_option maxRecDepth 100000
set_option maxHeartbeats 4000000
namespace WH
open PySem PySem.Spec PyProof.Rows L2 DL He
theorem cut_to (ds : List PyData) (i : Nat) : DL.cutD ds none (some (i : Int)) = ds.take i := by
  unfold DL.cutD
  have e : HT.sIx ds.length ds.length (some (i : Int)) = min i ds.length := by
    unfold HT.sIx
    simp
    omega
  rw [e]
  simp only [HT.sIx]
  simp
theorem cut_one (ws : List PyData) (i : Nat) : DL.cutD ws (some (i : Int)) (some ((i : Int) + 1)) = (ws.drop i).take 1 := by
  unfold DL.cutD
  have e1 : HT.sIx ws.length 0 (some (i : Int)) = min i ws.length := by
    unfold HT.sIx
    simp
    omega
  have e2 : HT.sIx ws.length ws.length (some ((i : Int) + 1)) = min (i + 1) ws.length := by
    unfold HT.sIx
    have : ¬ ((i : Int) + 1 < 0) := by omega
    simp
    omega
  rw [e1, e2]
  rcases Nat.lt_or_ge i ws.length with h | h
  · rw [Nat.min_eq_left (by omega), Nat.min_eq_left (by omega)]
    congr 1
    omega
  · rw [Nat.min_eq_right h, Nat.min_eq_right (by omega), List.drop_eq_nil_of_le (Nat.le_refl _), List.drop_eq_nil_of_le h]
    simp
theorem bent_ok {n : Net} (ok : n.Ok) (p : Pen) (L : List Nat) (Ws : List (List Nat)) (h : CutP n L Ws) : ∃ (d : PyData) (p' : Pen), ThingP d ∧
    m__law_bent__3 [.pen (penO p), .val n.D, .val (.tuple [lotD L, .tuple (Ws.map lotD)])] = M.ok (.val d, [some (.pen (penO p')), some (.val n.D), some (.val (.tuple [lotD L, .tuple (Ws.map lotD)]))]) := by
  have y1 : n.D = .tuple [.tuple (n.js.map Joint.D), .tuple (n.ps.map Pipe.D)] := rfl
  have y2 : ixD n.D (.int 1) = some (.val (.tuple (n.ps.map Pipe.D))) := by rw [y1]; simp
  have p0 := ok.p0
  have p9 := ok.p1
  have l9 := h.l9
  have w9 := h.w9
  have Lk : ∀ k ∈ L, k ≤ 1000 := fun k hk => by have := h.lk k hk; omega
  have hw := h.ways ok
  have gr : RowP (.tuple (nD L)) := nD_row (by omega) Lk
  let M1 : Int := if (Ws.length : Int) > 1 then (Ws.length : Int) else 1
  have M0 : 0 < M1 := by show 0 < (if (Ws.length : Int) > 1 then (Ws.length : Int) else 1); split <;> omega
  have M2 : M1 ≤ 9 := by show (if (Ws.length : Int) > 1 then (Ws.length : Int) else 1) ≤ 9; split <;> omega
  obtain ⟨a, ha, ha'⟩ := dr p M1 M0
  have d1 := draw_eq p M1 M0 (by omega)
  rw [ha] at d1
  let p1 := drawP p M1
  obtain ⟨k, hk, hk'⟩ := dr p1 (n.ps.length : Int) (by omega)
  have d2 := draw_eq p1 (n.ps.length : Int) (by omega) (by omega)
  rw [hk] at d2
  let p2 := drawP p1 (n.ps.length : Int)
  obtain ⟨rw', p3, hrow, erow⟩ := row_ok p2 L (by omega) Lk n.ps.length p0 (by omega)
  generalize hWD : Ws.map lotD = ws at hw
  have wl : ws.length = Ws.length := by rw [← hWD]; simp
  generalize hA : DL.cutD ws none (some (a : Int)) = A
  generalize hB : DL.cutD ws (some ((a : Int) + 1)) none = B
  generalize hF : DL.cutD ws none (some 1) = F1
  have lA : A.length ≤ 9 := by rw [← hA]; have := cutD_len ws none (some (a : Int)); omega
  have lB : B.length ≤ 9 := by rw [← hB]; have := cutD_len ws (some ((a : Int) + 1)) none; omega
  have lF : F1.length ≤ 9 := by rw [← hF]; have := cutD_len ws none (some 1); omega
  have iA : ∀ y ∈ A, WP y := by rw [← hA]; exact fun y hy => hw y (cutD_mem hy)
  have iB : ∀ y ∈ B, WP y := by rw [← hB]; exact fun y hy => hw y (cutD_mem hy)
  have iF : ∀ y ∈ F1, WP y := by rw [← hF]; exact fun y hy => hw y (cutD_mem hy)
  have lw : ws.length ≤ 9 := by omega
  have k9 : k ≤ 1000 := by omega
  -- the gates with one more, as they stand and sorted
  let G1 : List PyData := nD L ++ [.int (k : Int)]
  let G2 : List PyData := (sortI (zL (L ++ [k]))).map PyData.int
  have rG1 : RowP (.tuple G1) := ⟨G1, ⟨by simp [G1]; omega, fun y hy => by
    rcases List.mem_append.mp hy with hy | hy
    · exact nD_items Lk y hy
    · simp at hy; subst hy; exact .int _ (by omega)⟩, .inl rfl⟩
  have rG2 : RowP (.tuple G2) := ⟨G2, ⟨by simp [G2, sort_len, zL]; omega, sort_items fun z hz => by
    obtain ⟨x, hx, rfl⟩ := List.mem_map.mp hz
    rcases List.mem_append.mp hx with hx | hx
    · have := Lk x hx; simp; omega
    · simp at hx; subst hx; simp; omega⟩, .inl rfl⟩
  have iG1 : intsOf G1 = some (zL (L ++ [k])) := by
    have := intsOf_n (L ++ [k])
    rw [nD_app, nD_one] at this
    exact this
  let T1 : List PyData := [.tuple [rw', .tuple ws], .tuple [.tuple G1, .tuple ws], .tuple [.tuple G2, .tuple ws]]
  let T2 : List PyData := [.tuple [.tuple (nD L), .tuple (A ++ B)], .tuple [.tuple (nD L), .tuple (ws ++ F1)], .tuple [.tuple (nD L), .tuple ws.reverse]]
  let T3 : List PyData := [.tuple [.tuple (nD L), .list ws], .tuple [.tuple ws, .tuple (nD L)], .list [.tuple (nD L), .tuple ws], .tuple [.tuple (nD L)], .tuple [.tuple (nD L), .tuple ws, .tuple []]]
  let T4 : PyData := .tuple [.tuple (nD L), .tuple (A ++ [.tuple [.int (k : Int)]] ++ B)]
  have sL : Sm 36620 3 (.tuple (nD L)) := (row_g gr).1
  have sW : Sm 36620 3 (.tuple ws) := ws_sm hw (by omega)
  have apP : ∀ {P Q : List PyData}, (∀ y ∈ P, WP y) → (∀ y ∈ Q, WP y) → ∀ y ∈ P ++ Q, WP y := fun hP hQ y hy => (List.mem_append.mp hy).elim (hP y) (hQ y)
  have all1 : ∀ d ∈ T1, ThingP d := fun d hd => by
    simp only [T1, List.mem_cons, List.not_mem_nil, or_false] at hd
    rcases hd with rfl | rfl | rfl
    · exact row_two hrow hw (by omega)
    · exact row_two rG1 hw (by omega)
    · exact row_two rG2 hw (by omega)
  have all2 : ∀ d ∈ T2, ThingP d := fun d hd => by
    simp only [T2, List.mem_cons, List.not_mem_nil, or_false] at hd
    rcases hd with rfl | rfl | rfl
    · exact row_two gr (apP iA iB) (by simp; omega)
    · exact row_two gr (apP hw iF) (by simp; omega)
    · exact row_two gr (fun y hy => hw y (List.mem_reverse.mp hy)) (by simp; omega)
  have two : ∀ {xs : List PyData}, (∀ x ∈ xs, Sm 36620 3 x) → xs.length ≤ 3 → Sm 200000 4 (.tuple xs) ∧ Sm 200000 4 (.list xs) := fun hx hl =>
    ⟨Sm.tup (w := 36620) (k := 3) (n := 3) hx hl (by decide) (by decide), Sm.lst (w := 36620) (k := 3) (n := 3) hx hl (by decide) (by decide)⟩
  have all3 : ∀ d ∈ T3, ThingP d := fun d hd => by
    simp only [T3, List.mem_cons, List.not_mem_nil, or_false] at hd
    rcases hd with rfl | rfl | rfl | rfl | rfl
    · refine ⟨rep_tup (two (xs := [.tuple (nD L), .list ws]) (fun x hx => ?_) (by simp)).1, .inl rfl⟩
      simp only [List.mem_cons, List.not_mem_nil, or_false] at hx
      rcases hx with rfl | rfl
      · exact sL
      · exact Sm.lst (w := 1830) (k := 2) (n := 20) (fun x hx => (hw x hx).sm) (by omega) (by decide) (by decide)
    · exact thing_pair sW ⟨fun gs e => by cases e; omega⟩ (fun y hy => .inr (nD_items Lk y hy)) (by simp; omega)
    · refine ⟨rep_lst (two (xs := [.tuple (nD L), .tuple ws]) (fun x hx => ?_) (by simp)).2, .inl rfl⟩
      simp only [List.mem_cons, List.not_mem_nil, or_false] at hx
      rcases hx with rfl | rfl
      · exact sL
      · exact sW
    · refine ⟨rep_tup (two (xs := [.tuple (nD L)]) (fun x hx => ?_) (by simp)).1, .inl rfl⟩
      simp only [List.mem_cons, List.not_mem_nil, or_false] at hx
      subst hx
      exact sL
    · refine ⟨rep_tup (two (xs := [.tuple (nD L), .tuple ws, .tuple []]) (fun x hx => ?_) (by simp)).1, .inl rfl⟩
      simp only [List.mem_cons, List.not_mem_nil, or_false] at hx
      rcases hx with rfl | rfl | rfl
      · exact sL
      · exact sW
      · exact Sm.tup (w := 0) (k := 0) (n := 0) (by simp) (by simp) (by decide) (by decide)
  have all4 : ThingP T4 := row_two gr (apP (apP iA (fun y hy => by
    simp at hy; subst hy; exact .inl ⟨_, ⟨by simp, fun z hz => by simp at hz; subst hz; exact .int _ (by omega)⟩, .inl rfl⟩)) iB) (by simp; omega)
  have one : DL.cutD ws (some (a : Int)) (some ((a : Int) + 1)) = ((Ws.drop a).take 1).map lotD := by
    rw [cut_one, ← hWD]; simp
  let T : List PyData := T1 ++ T2 ++ T3 ++ [T4]
  have allT : ∀ d ∈ T, ThingP d := fun d hd => by
    simp only [T, List.mem_append, List.mem_singleton] at hd
    rcases hd with ((hd | hd) | hd) | rfl
    · exact all1 d hd
    · exact all2 d hd
    · exact all3 d hd
    · exact all4
  have lT : T.length = 12 := rfl
  obtain ⟨p5, T', b9, b10, g1, g2, g3, x⟩ := b_walk (n := n) (nD L) ws gr hw lw n.ps.length a k p0 (by omega) ((Ws.drop a).take 1) p3 T none none (fun W hW => by
    have hW' := List.mem_of_mem_drop (List.mem_of_mem_take hW)
    obtain ⟨h1, h2⟩ := h.wk W hW'
    exact ⟨h1, fun k hk => by have := h2 k hk; omega⟩) allT (by rw [lT]; simp; omega) (.inl rfl) (.inl rfl)
  have lU : ((Ws.drop a).take 1).length ≤ 1 := by simp; omega
  obtain ⟨c, hc, hc'⟩ := dr p5 (T'.length : Int) (by omega)
  have d5 := draw_eq p5 (T'.length : Int) (by omega) (by omega)
  rw [hc] at d5
  have cl : c < T'.length := by omega
  have ef := pick_any cl
  refine ⟨T'[c], drawP p5 (T'.length : Int), g1 _ (List.getElem_mem cl), ?_⟩
  have z1 : asgG (gtTup (gtCons (gtName 3) (gtCons (gtName 4) gtNil))) (eVar 2) [some (.pen (penO p)), some (.val n.D), some (.val (.tuple [.tuple (nD L), .tuple ws])), none, none, none, none, none, none, none, none] = M.ok (.nx [some (.pen (penO p)), some (.val n.D), some (.val (.tuple [.tuple (nD L), .tuple ws])), some (.val (.tuple (nD L))), some (.val (.tuple ws)), none, none, none, none, none, none]) := by simp
  have z2 : parF 5 6 (eCB lenD (aCons (e2 ixD (eVar 1) (eC (.int 1))) aNil)) (callP m__law_draw (aCons (eVar 0) (aCons (eCB maxD (aCons (eC (.int 1)) (aCons (eCB lenD (aCons (eVar 4) aNil)) aNil))) aNil))) [some (.pen (penO p)), some (.val n.D), some (.val (.tuple [.tuple (nD L), .tuple ws])), some (.val (.tuple (nD L))), some (.val (.tuple ws)), none, none, none, none, none, none] =
      M.ok (.nx [some (.pen (penO p1)), some (.val n.D), some (.val (.tuple [.tuple (nD L), .tuple ws])), some (.val (.tuple (nD L))), some (.val (.tuple ws)), some (.val (.int (n.ps.length : Int))), some (.val (.int (a : Int))), none, none, none, none]) := by
    have d1' : m__law_draw [Sl.pen (penO p), .val (.int (if (1 : Int) < (ws.length : Int) then (ws.length : Int) else 1))] = M.ok (.val (.int (a : Int)), [some (.pen (penO p1)), some (.val (.int M1))]) := by
      rw [wl]; exact d1
    simp [y2, d1']
  have z3 : asgF 7 (callP m__law_draw (aCons (eVar 0) (aCons (eVar 5) aNil))) [some (.pen (penO p1)), some (.val n.D), some (.val (.tuple [.tuple (nD L), .tuple ws])), some (.val (.tuple (nD L))), some (.val (.tuple ws)), some (.val (.int (n.ps.length : Int))), some (.val (.int (a : Int))), none, none, none, none] =
      M.ok (.nx [some (.pen (penO p2)), some (.val n.D), some (.val (.tuple [.tuple (nD L), .tuple ws])), some (.val (.tuple (nD L))), some (.val (.tuple ws)), some (.val (.int (n.ps.length : Int))), some (.val (.int (a : Int))), some (.val (.int (k : Int))), none, none, none]) := by
    simp [d2, p2]
  have q0 : L.length + 1 ≤ 100000 := by omega
  have z4 : asgF 8 (eLst (aCons (eTup (aCons (callP m__law_row (aCons (eVar 0) (aCons (eVar 3) (aCons (eVar 5) aNil)))) (aCons (eVar 4) aNil))) (aCons (eTup (aCons (e2 addD (eVar 3) (eTup (aCons (eVar 7) aNil))) (aCons (eVar 4) aNil))) (aCons (eTup (aCons (eCB tupleD (aCons (eCB sortedD (aCons (e2 addD (eVar 3) (eTup (aCons (eVar 7) aNil))) aNil)) aNil)) (aCons (eVar 4) aNil))) aNil)))) [some (.pen (penO p2)), some (.val n.D), some (.val (.tuple [.tuple (nD L), .tuple ws])), some (.val (.tuple (nD L))), some (.val (.tuple ws)), some (.val (.int (n.ps.length : Int))), some (.val (.int (a : Int))), some (.val (.int (k : Int))), none, none, none] =
      M.ok (.nx (bE p3 n (nD L) ws n.ps.length a k T1 none none)) := by
    have so : sortedD [.tuple (nD L ++ [.int (k : Int)])] = some (.own (.lst G2)) := by
      show (match intsOf G1 with | some ns => some (Sl.own (.lst ((sortI ns).map .int))) | none => none) = _
      rw [iG1]
    simp [bE, erow, q0, so, T1, G1]
  have q1 : A.length + B.length ≤ 100000 := by omega
  have q2 : ws.length + F1.length ≤ 100000 := by omega
  have z5 : asgF 8 (e2 addD (eVar 8) (eLst (aCons (eTup (aCons (eVar 3) (aCons (e2 addD (eSl (eVar 4) oNone (oSome (eVar 6))) (eSl (eVar 4) (oSome (e2 addD (eVar 6) (eC (.int 1)))) oNone)) aNil))) (aCons (eTup (aCons (eVar 3) (aCons (e2 addD (eVar 4) (eSl (eVar 4) oNone (oSome (eC (.int 1))))) aNil))) (aCons (eTup (aCons (eVar 3) (aCons (e1 revD (eVar 4)) aNil))) aNil))))) (bE p3 n (nD L) ws n.ps.length a k T1 none none) = M.ok (.nx (bE p3 n (nD L) ws n.ps.length a k (T1 ++ T2) none none)) := by
    simp [bE, hA, hB, hF, q1, q2, T1, T2]
  have z6 : asgF 8 (e2 addD (eVar 8) (eLst (aCons (eTup (aCons (eVar 3) (aCons (eCB listD (aCons (eVar 4) aNil)) aNil))) (aCons (eTup (aCons (eVar 4) (aCons (eVar 3) aNil))) (aCons (eLst (aCons (eVar 3) (aCons (eVar 4) aNil))) (aCons (eTup (aCons (eVar 3) aNil)) (aCons (eTup (aCons (eVar 3) (aCons (eVar 4) (aCons (eTup aNil) aNil)))) aNil))))))) (bE p3 n (nD L) ws n.ps.length a k (T1 ++ T2) none none) = M.ok (.nx (bE p3 n (nD L) ws n.ps.length a k (T1 ++ T2 ++ T3) none none)) := by
    have q : (T1 ++ T2).length + 5 ≤ 100000 := by show 6 + 5 ≤ 100000; decide
    generalize T1 ++ T2 = U at q
    simp at q
    simp [bE, q, T3]
  have z7 : dropF (eApp 8 (eTup (aCons (eVar 3) (aCons (e2 addD (e2 addD (eSl (eVar 4) oNone (oSome (eVar 6))) (eTup (aCons (eTup (aCons (eVar 7) aNil)) aNil))) (eSl (eVar 4) (oSome (e2 addD (eVar 6) (eC (.int 1)))) oNone)) aNil)))) (bE p3 n (nD L) ws n.ps.length a k (T1 ++ T2 ++ T3) none none) = M.ok (.nx (bE p3 n (nD L) ws n.ps.length a k T none none)) := by
    have q : (T1 ++ T2 ++ T3).length < 100000 := by show 11 < 100000; decide
    have q3 : A.length + 1 ≤ 100000 := by omega
    have q4 : A.length + 1 + B.length ≤ 100000 := by omega
    have q5 : A.length + (B.length + 1) ≤ 100000 := by omega
    show _ = M.ok (Flo.nx (bE p3 n (nD L) ws n.ps.length a k (T1 ++ T2 ++ T3 ++ [T4]) none none))
    generalize T1 ++ T2 ++ T3 = U at q
    simp [bE, hA, hB, q, q3, q4, q5, T4]
  have z8 : seqI (eSl (eVar 4) (oSome (eVar 6)) (oSome (e2 addD (eVar 6) (eC (.int 1))))) (bE p3 n (nD L) ws n.ps.length a k T none none) = M.ok (((Ws.drop a).take 1).map lotD, bE p3 n (nD L) ws n.ps.length a k T none none) := by
    simp [bE, one]
  rw [← for_run z8] at x
  have h0 : f__law_bent__3 ([Sl.pen (penO p), .val n.D, .val (.tuple [lotD L, .tuple ws])].map some ++ List.replicate 8 none) = M.ok (.rt (.val T'[c]) (bE (drawP p5 (T'.length : Int)) n (nD L) ws n.ps.length a k T' b9 b10)) := by
    show seqF _ (seqF _ (seqF _ (seqF _ (seqF _ (seqF _ (seqF _ (seqF (forF _ (gtName 9) bU) (retF _)))))))) [some (.pen (penO p)), some (.val n.D), some (.val (.tuple [.tuple (nD L), .tuple ws])), none, none, none, none, none, none, none, none] = _
    rw [seq_nx z1, seq_nx z2, seq_nx z3, seq_nx z4, seq_nx z5, seq_nx z6, seq_nx z7, seq_nx x]
    generalize T'[c] = z at ef
    simp [bE, d5, ef]
  unfold m__law_bent__3
  rw [body_rt (by rfl) h0]
  simp [bE, penO]
end WH
set_option Elab.async false
set_option linter.all false
set_option maxRecDepth 100000
set_option maxHeartbeats 4000000
namespace WH
open PySem PySem.Spec PyProof.Rows L2 DL He
def NP (o : Option Sl) : Prop := o = none ∨ (∃ d, o = some (.val d)) ∨ ∃ x, o = some (.own x)
theorem NP.none : NP none := .inl rfl
theorem NP.val {d : PyData} : NP (some (.val d)) := .inr (.inl ⟨d, rfl⟩)
theorem NP.own {x : Own} : NP (some (.own x)) := .inr (.inr ⟨x, rfl⟩)
def zE (s0 c1 : Option Sl) (p : Pen) (n : Net) (S : List Nat) (t : Nat) (a6 a7 a8 a9 a10 a11 a12 a13 a14 : Option Sl) : EnvD := [s0, c1, some (.own (penO p)), some (.val n.D), some (.val (.tuple (nD S))), some (.val (.int (t : Int))), a6, a7, a8, a9, a10, a11, a12, a13, a14, none, none]
def tU : FS := (seqF (parF 12 13 (eCB reprG (aCons (eVar 11) aNil)) (callV m__law_is_cut [] (aCons (eVar 3) (aCons (eVar 5) (aCons (eVar 4) (aCons (eVar 11) aNil))))))
    (seqF (asgF 14 (lcF (argI rng1I (aCons (eC (.int 2)) aNil)) (gtName 10) yesF (callK 1 m_is_cut (aCons (eVar 3) (aCons (eVar 5) (aCons (eVar 11) aNil))) (aCons (eVar 4) aNil)) [10]))
    (ifF (tOrF (eT (e2 neD (eCB reprG (aCons (eVar 14) aNil)) (eCB reprG (aCons (eLst (aCons (eVar 13) (aCons (eVar 13) aNil))) aNil)))) (eT (e2 neD (eCB reprG (aCons (eVar 11) aNil)) (eVar 12)))) (retF (eC (.bool false))) nilF)))
theorem both_eq {n : Net} (ok : n.Ok) {S : List Nat} (hS : ShutOk n S) {t : Nat} (ht : n.place t = true) (d : PyData) (hd : ThingP d) : ∃ b, m__law_is_cut [.val n.D, .val (.int (t : Int)), .val (.tuple (nD S)), .val d] = M.ok (.val (.bool b), [some (.val n.D), some (.val (.int (t : Int))), some (.val (.tuple (nD S))), some (.val d)]) ∧
    m_is_cut [.val n.D, .val (.int (t : Int)), .val d, .val (.tuple (nD S))] = M.ok (.val (.bool b), [some (.val n.D), some (.val (.int (t : Int))), some (.val d), some (.val (.tuple (nD S)))]) := by
  have s9 : S.length ≤ 9 := Nat.le_trans hS.len ok.p1
  rcases hd.kind with h | ⟨g, ws, rfl, hg, hw, hl⟩
  · exact ⟨false, law_is_cut_no d h, is_cut_no ok hS ht d h⟩
  · exact ⟨_, law_is_cut_eq ok s9 g ws hg hw hl, is_cut_eq ok hS ht g ws hg hw hl⟩
theorem told_rep (b : Bool) : ∃ s, reprG [.list [.bool b, .bool b]] = some (.val (.str s)) := by
  cases b <;> exact rep_lst (w := 100) (k := 2) (Sm.lst (w := 10) (k := 0) (n := 2) (fun x hx => by simp at hx; subst hx; exact Sm.bool) (by simp) (by decide) (by decide))
theorem thing_turn {n : Net} (ok : n.Ok) {S : List Nat} (hS : ShutOk n S) {t : Nat} (ht : n.place t = true) (d : PyData) (hd : ThingP d) (s0 c1 : Option Sl) (p : Pen) (a6 a7 a8 a9 a10 a11 a12 a13 a14 : Option Sl) (h11 : NP a11) (h12 : NP a12) (h13 : NP a13) (h14 : NP a14) :
    ∃ b12 b13 b14, NP b12 ∧ NP b13 ∧ NP b14 ∧ forStep (gtName 11) tU d (zE s0 c1 p n S t a6 a7 a8 a9 a10 a11 a12 a13 a14) = M.ok (.nx (zE s0 c1 p n S t a6 a7 a8 a9 none (some (.val d)) b12 b13 b14)) := by
  obtain ⟨b, e1, e2⟩ := both_eq ok hS ht d hd
  obtain ⟨s, hs⟩ := hd.rep
  obtain ⟨s2, hs2⟩ := told_rep b
  refine ⟨some (.val (.str s)), some (.val (.bool b)), some (.own (.lst [.bool b, .bool b])), .val, .val, .own, ?_⟩
  have g : gtName 11 d (zE s0 c1 p n S t a6 a7 a8 a9 a10 a11 a12 a13 a14) = some (zE s0 c1 p n S t a6 a7 a8 a9 a10 (some (.val d)) a12 a13 a14) := by
    rcases h11 with rfl | ⟨_, rfl⟩ | ⟨_, rfl⟩ <;> simp [zE]
  rw [s_forStep, g]
  dsimp only
  unfold tU
  have z1 : parF 12 13 (eCB reprG (aCons (eVar 11) aNil)) (callV m__law_is_cut [] (aCons (eVar 3) (aCons (eVar 5) (aCons (eVar 4) (aCons (eVar 11) aNil))))) (zE s0 c1 p n S t a6 a7 a8 a9 a10 (some (.val d)) a12 a13 a14) = M.ok (.nx (zE s0 c1 p n S t a6 a7 a8 a9 a10 (some (.val d)) (some (.val (.str s))) (some (.val (.bool b))) a14)) := by
    rcases h12 with rfl | ⟨_, rfl⟩ | ⟨_, rfl⟩ <;> rcases h13 with rfl | ⟨_, rfl⟩ | ⟨_, rfl⟩ <;> simp [zE, hs, e1]
  rw [seq_nx z1]
  have zi : argI rng1I (aCons (eC (.int 2)) aNil) (zE s0 c1 p n S t a6 a7 a8 a9 a10 (some (.val d)) (some (.val (.str s))) (some (.val (.bool b))) a14) = M.ok ((List.range 2).map iD, zE s0 c1 p n S t a6 a7 a8 a9 a10 (some (.val d)) (some (.val (.str s))) (some (.val (.bool b))) a14) :=
    argI_run (ds := [.int ((2 : Nat) : Int)]) (by simp [zE]) (rng1_n (by omega))
  have lc : lcL (gtName 10) yesF (callK 1 m_is_cut (aCons (eVar 3) (aCons (eVar 5) (aCons (eVar 11) aNil))) (aCons (eVar 4) aNil)) [10] ((List.range 2).map iD) [] (zE s0 c1 p n S t a6 a7 a8 a9 none (some (.val d)) (some (.val (.str s))) (some (.val (.bool b))) a14) = some (.ok ((List.range 2).map fun _ => .bool b, zE s0 c1 p n S t a6 a7 a8 a9 none (some (.val d)) (some (.val (.str s))) (some (.val (.bool b))) a14)) :=
    lcL_typM (enc := iD) (h := fun _ => .bool b) (l := List.range 2) (fun k _ => by simp [zE, e2]) (by simp)
  have z2 : asgF 14 (lcF (argI rng1I (aCons (eC (.int 2)) aNil)) (gtName 10) yesF (callK 1 m_is_cut (aCons (eVar 3) (aCons (eVar 5) (aCons (eVar 11) aNil))) (aCons (eVar 4) aNil)) [10]) (zE s0 c1 p n S t a6 a7 a8 a9 a10 (some (.val d)) (some (.val (.str s))) (some (.val (.bool b))) a14) = M.ok (.nx (zE s0 c1 p n S t a6 a7 a8 a9 none (some (.val d)) (some (.val (.str s))) (some (.val (.bool b))) (some (.own (.lst [.bool b, .bool b]))))) := by
    rw [s_asgF, s_lcF, zi]
    simp only [s_bok]
    have : wipeD (zE s0 c1 p n S t a6 a7 a8 a9 a10 (some (.val d)) (some (.val (.str s))) (some (.val (.bool b))) a14) [10] = zE s0 c1 p n S t a6 a7 a8 a9 none (some (.val d)) (some (.val (.str s))) (some (.val (.bool b))) a14 := by simp [zE]
    rw [this, lc]
    rcases h14 with rfl | ⟨_, rfl⟩ | ⟨_, rfl⟩ <;> simp [zE, List.range_succ]
  rw [seq_nx z2]
  simp [zE, hs, hs2]
theorem thing_walk {n : Net} (ok : n.Ok) {S : List Nat} (hS : ShutOk n S) {t : Nat} (ht : n.place t = true) (s0 c1 : Option Sl) (p : Pen) (a6 a7 a8 a9 : Option Sl) : ∀ (ds : List PyData) (a10 a11 a12 a13 a14 : Option Sl), (∀ d ∈ ds, ThingP d) → NP a10 → NP a11 → NP a12 → NP a13 → NP a14 →
    ∃ b10 b11 b12 b13 b14, NP b10 ∧ NP b11 ∧ NP b12 ∧ NP b13 ∧ NP b14 ∧ forL (gtName 11) tU ds (zE s0 c1 p n S t a6 a7 a8 a9 a10 a11 a12 a13 a14) = M.ok (.nx (zE s0 c1 p n S t a6 a7 a8 a9 b10 b11 b12 b13 b14))
  | [], a10, a11, a12, a13, a14, _, h10, h11, h12, h13, h14 => ⟨a10, a11, a12, a13, a14, h10, h11, h12, h13, h14, by simp⟩
  | d :: ds, a10, a11, a12, a13, a14, hd, h10, h11, h12, h13, h14 => by
    obtain ⟨c12, c13, c14, g12, g13, g14, x⟩ := thing_turn ok hS ht d (hd d (by simp)) s0 c1 p a6 a7 a8 a9 a10 a11 a12 a13 a14 h11 h12 h13 h14
    obtain ⟨b10, b11, b12, b13, b14, k10, k11, k12, k13, k14, y⟩ := thing_walk ok hS ht s0 c1 p a6 a7 a8 a9 ds none (some (.val d)) c12 c13 c14 (fun x hx => hd x (by simp [hx])) .none .val g12 g13 g14
    refine ⟨b10, b11, b12, b13, b14, k10, k11, k12, k13, k14, ?_⟩
    rw [forL_step, x]
    exact y
def lapU : FS := dropF (eApp 9 (callP m__law_bent__3 (aCons (eVar 2) (aCons (eVar 3) (aCons (eVar 8) aNil)))))
theorem lap_walk {n : Net} (ok : n.Ok) (S : List Nat) (t : Nat) (s0 c1 : Option Sl) (a6 a7 : Option Sl) (L : List Nat) (Ws : List (List Nat)) (h : CutP n L Ws) (a11 a12 a13 a14 : Option Sl) : ∀ (ds : List PyData) (p : Pen) (T : List PyData) (a10 : Option Sl), (∀ d ∈ T, ThingP d) → T.length + ds.length ≤ 1000 → NP a10 →
    ∃ p' T' b10, (∀ d ∈ T', ThingP d) ∧ NP b10 ∧ forL (gtName 10) lapU ds (zE s0 c1 p n S t a6 a7 (some (.val (.tuple [lotD L, .tuple (Ws.map lotD)]))) (some (.own (.lst T))) a10 a11 a12 a13 a14) = M.ok (.nx (zE s0 c1 p' n S t a6 a7 (some (.val (.tuple [lotD L, .tuple (Ws.map lotD)]))) (some (.own (.lst T'))) b10 a11 a12 a13 a14))
  | [], p, T, a10, hT, _, h10 => ⟨p, T, a10, hT, h10, by simp⟩
  | d :: ds, p, T, a10, hT, hl, h10 => by
    simp only [List.length_cons] at hl
    obtain ⟨b, p1, hb, e⟩ := bent_ok ok p L Ws h
    obtain ⟨p', T', b10, g1, g2, y⟩ := lap_walk ok S t s0 c1 a6 a7 L Ws h a11 a12 a13 a14 ds p1 (T ++ [b]) (some (.val d)) (fun x hx => by
      rcases List.mem_append.mp hx with hx | hx
      · exact hT x hx
      · simp at hx; subst hx; exact hb) (by simp; omega) .val
    refine ⟨p', T', b10, g1, g2, ?_⟩
    have lt : T.length < 100000 := by omega
    have g : gtName 10 d (zE s0 c1 p n S t a6 a7 (some (.val (.tuple [lotD L, .tuple (Ws.map lotD)]))) (some (.own (.lst T))) a10 a11 a12 a13 a14) = some (zE s0 c1 p n S t a6 a7 (some (.val (.tuple [lotD L, .tuple (Ws.map lotD)]))) (some (.own (.lst T))) (some (.val d)) a11 a12 a13 a14) := by
      rcases h10 with rfl | ⟨_, rfl⟩ | ⟨_, rfl⟩ <;> simp [zE]
    rw [forL_step, s_forStep, g]
    have s : lapU (zE s0 c1 p n S t a6 a7 (some (.val (.tuple [lotD L, .tuple (Ws.map lotD)]))) (some (.own (.lst T))) (some (.val d)) a11 a12 a13 a14) = M.ok (.nx (zE s0 c1 p1 n S t a6 a7 (some (.val (.tuple [lotD L, .tuple (Ws.map lotD)]))) (some (.own (.lst (T ++ [b])))) (some (.val d)) a11 a12 a13 a14)) := by
      unfold lapU
      simp [zE, e, lt]
    dsimp only
    rw [s]
    exact y
end WH
set_option Elab.async false
set_option linter.all false
set_option maxRecDepth 100000
set_option maxHeartbeats 4000000
namespace WH
open PySem PySem.Spec PyProof.Rows L2 DL He
def GL (n : Net) : List Nat := ((enumP 0 n.ps).filter fun a => a.2.gate).map (·.1)
theorem GL_lt {n : Net} : (∀ k ∈ GL n, k < n.ps.length) ∧ (GL n).length ≤ n.ps.length := by
  refine ⟨fun k hk => ?_, ?_⟩
  · obtain ⟨a, ha, rfl⟩ := List.mem_map.mp hk
    obtain ⟨i, e, h⟩ := enumP_mem (List.mem_filter.mp ha).1
    have := (List.getElem?_eq_some_iff.mp h).1
    omega
  · have : ((enumP 0 n.ps).filter fun a => a.2.gate).length ≤ (enumP 0 n.ps).length := List.length_filter_le _ _
    rw [enumP_len] at this
    simpa [GL] using this
def cutOf (n : Net) (S : List Nat) (t : Nat) (L : List Nat) (Ws : List (List Nat)) : Prop := (cutV n S t = .none ∧ L = [] ∧ Ws = []) ∨ cutV n S t = .tuple [lotD L, .tuple (Ws.map lotD)]
theorem cutOf_ex {n : Net} (ok : n.Ok) {S : List Nat} {t : Nat} (ht : n.place t = true) : ∃ L Ws, CutP n L Ws ∧ cutOf n S t L Ws := by
  rcases cutV_is ok (S := S) ht with h | ⟨l, ws, h, h1, h2, h3, h4⟩
  · exact ⟨[], [], ⟨by simp, by simp, by simp, by simp⟩, .inl ⟨h, rfl, rfl⟩⟩
  · exact ⟨l, ws, ⟨h1, by omega, h4, h3⟩, .inr h⟩
def pU : FS := (seqF (parF 6 7 (callK 1 m_cut_of (aCons (eVar 3) (aCons (eVar 5) aNil)) (aCons (eVar 4) aNil)) (eCB tupleD (aCons (lcF (argI enumI (aCons (e2 ixD (eVar 3) (eC (.int 1))) aNil)) (gtTup (gtCons (gtName 15) (gtCons (gtName 16) gtNil))) (eT (e2 ixD (eVar 16) (eC (.int 5)))) (eVar 15) [15, 16]) aNil)))
    (seqF (asgF 8 (eIf (eT (e2 isD (eVar 6) (eC .none))) (eTup (aCons (eTup aNil) (aCons (eTup aNil) aNil))) (eVar 6)))
    (seqF (asgF 9 (eLst (aCons (eVar 6) (aCons (eVar 8) (aCons (eTup (aCons (eVar 7) (aCons (eCB tupleD (aCons (lcF (seqI (eVar 7)) (gtName 15) yesF (eTup (aCons (eVar 15) aNil)) [15]) aNil)) aNil))) (aCons (eTup (aCons (eSl (eVar 7) oNone (oSome (eC (.int 1)))) (aCons (eTup (aCons (eTup (aCons (eC (.int 0)) aNil)) aNil)) aNil))) (aCons (callP m__law_odd__3 (aCons (eVar 2) aNil)) aNil)))))))
    (seqF (asgF 9 (e2 addD (eVar 9) (eLst (aCons (eTup (aCons (e1 revD (e2 ixD (eVar 8) (eC (.int 0)))) (aCons (e2 ixD (eVar 8) (eC (.int 1))) aNil))) (aCons (eTup (aCons (e2 ixD (eVar 8) (eC (.int 0))) (aCons (e2 mulG (eSl (e2 ixD (eVar 8) (eC (.int 1))) oNone (oSome (eC (.int 1)))) (eCB lenD (aCons (e2 ixD (eVar 8) (eC (.int 0))) aNil))) aNil))) (aCons (eTup (aCons (eSl (e2 ixD (eVar 8) (eC (.int 0))) (oSome (eC (.int 1))) oNone) (aCons (eSl (e2 ixD (eVar 8) (eC (.int 1))) (oSome (eC (.int 1))) oNone) aNil))) aNil))))))
    (seqF (forF (argI rng1I (aCons (eC (.int 10)) aNil)) (gtName 10) lapU)
    (forF (seqI (eVar 9)) (gtName 11) tU))))))
theorem rep_flat {w : PyData} : ∀ (m : Nat) {xs : List PyData}, (∀ x ∈ xs, WP x) → ∀ x ∈ (List.replicate m xs).flatten, WP x
  | 0, _, _ => by simp
  | m + 1, xs, h => fun x hx => by
    simp only [List.replicate_succ, List.flatten_cons, List.mem_append] at hx
    exact hx.elim (h x) (rep_flat (w := w) m h x)
theorem rep_flat_len : ∀ (m : Nat) (xs : List PyData), (List.replicate m xs).flatten.length = m * xs.length
  | 0, _ => by simp
  | m + 1, xs => by
    simp only [List.replicate_succ, List.flatten_cons, List.length_append, rep_flat_len m xs, Nat.add_mul]
    omega
theorem place_turn {n : Net} (ok : n.Ok) {S : List Nat} (hS : ShutOk n S) {t : Nat} (ht : n.place t = true) (s0 c1 : Option Sl) (p : Pen) (a6 a7 a8 a9 a10 a11 a12 a13 a14 : Option Sl) (h6 : NP a6) (h7 : NP a7) (h8 : NP a8) (h9 : NP a9) (h10 : NP a10) (h11 : NP a11) (h12 : NP a12) (h13 : NP a13) (h14 : NP a14) :
    ∃ p' b6 b7 b8 b9 b10 b11 b12 b13 b14, NP b6 ∧ NP b7 ∧ NP b8 ∧ NP b9 ∧ NP b10 ∧ NP b11 ∧ NP b12 ∧ NP b13 ∧ NP b14 ∧ pU (zE s0 c1 p n S t a6 a7 a8 a9 a10 a11 a12 a13 a14) = M.ok (.nx (zE s0 c1 p' n S t b6 b7 b8 b9 b10 b11 b12 b13 b14)) := by
  have y1 : n.D = .tuple [.tuple (n.js.map Joint.D), .tuple (n.ps.map Pipe.D)] := rfl
  have y2 : ixD n.D (.int 1) = some (.val (.tuple (n.ps.map Pipe.D))) := by rw [y1]; simp
  have p9 := ok.p1
  obtain ⟨g1, g2⟩ := GL_lt (n := n)
  obtain ⟨L, Ws, hc, hcut⟩ := cutOf_ex ok (S := S) ht
  have co := cut_of_eq ok hS ht
  have l9 := hc.l9
  have w9 := hc.w9
  have Lk : ∀ k ∈ L, k ≤ 1000 := fun k hk => by have := hc.lk k hk; omega
  have Gk : ∀ k ∈ GL n, k ≤ 1000 := fun k hk => by have := g1 k hk; omega
  have hw := hc.ways ok
  have gr : RowP (.tuple (nD L)) := nD_row (by omega) Lk
  have gG : RowP (.tuple (nD (GL n))) := nD_row (by omega) Gk
  have tcut : ThingP (.tuple [lotD L, .tuple (Ws.map lotD)]) := row_two gr hw (by simp; omega)
  have tfound : ThingP (cutV n S t) := by
    rcases hcut with ⟨h, _, _⟩ | h
    · rw [h]; exact odd_thing _ (by simp [oddL])
    · rw [h]; exact tcut
  have hif : ∀ z : Bool, isNon (cutV n S t) = z → (if z then (PyData.tuple [.tuple [], .tuple []]) else cutV n S t) = .tuple [lotD L, .tuple (Ws.map lotD)] := fun z hz => by
    rcases hcut with ⟨h, rfl, rfl⟩ | h
    · rw [h] at hz; subst hz; rfl
    · rw [h] at hz ⊢; subst hz; rfl
  generalize hF : cutV n S t = fd at co tfound hif
  generalize hWD : Ws.map lotD = ws at hw tcut hif
  have wl : ws.length = Ws.length := by rw [← hWD]; simp
  have x7 : ∀ (o2 o6 o7 o8 o9 o10 o11 o12 o13 o14 : Option Sl), lcL (gtTup (gtCons (gtName 15) (gtCons (gtName 16) gtNil))) (eT (e2 ixD (eVar 16) (eC (.int 5)))) (eVar 15) [15, 16] (numL 0 (n.ps.map Pipe.D)) [] [s0, c1, o2, some (.val n.D), some (.val (.tuple (nD S))), some (.val (.int (t : Int))), o6, o7, o8, o9, o10, o11, o12, o13, o14, none, none] =
      M.ok (nD (GL n), [s0, c1, o2, some (.val n.D), some (.val (.tuple (nD S))), some (.val (.int (t : Int))), o6, o7, o8, o9, o10, o11, o12, o13, o14, none, none]) := fun o2 o6 o7 o8 o9 o10 o11 o12 o13 o14 => by
    rw [numL_enum, lcL_typ (h := fun a => if a.2.gate = true then some (iD a.1) else none) (fun a _ => by cases h1 : a.2.gate <;> simp [encP, Pipe.D, h1, iD]) (by rw [enumP_len]; simp; omega)]
    congr 2
    rw [List.nil_append, fm_if (q := fun a : Nat × Pipe => a.2.gate) (g := fun a => iD a.1)]
    unfold nD GL
    rw [List.map_map]
    rfl
  have z1 : parF 6 7 (callK 1 m_cut_of (aCons (eVar 3) (aCons (eVar 5) aNil)) (aCons (eVar 4) aNil)) (eCB tupleD (aCons (lcF (argI enumI (aCons (e2 ixD (eVar 3) (eC (.int 1))) aNil)) (gtTup (gtCons (gtName 15) (gtCons (gtName 16) gtNil))) (eT (e2 ixD (eVar 16) (eC (.int 5)))) (eVar 15) [15, 16]) aNil)) (zE s0 c1 p n S t a6 a7 a8 a9 a10 a11 a12 a13 a14) = M.ok (.nx (zE s0 c1 p n S t (some (.val fd)) (some (.val (.tuple (nD (GL n))))) a8 a9 a10 a11 a12 a13 a14)) := by
    have x7' := x7 (some (.own (penO p))) a6 a7 a8 a9 a10 a11 a12 a13 a14
    generalize nD (GL n) = G at x7' ⊢
    unfold zE
    rcases h6 with rfl | ⟨_, rfl⟩ | ⟨_, rfl⟩ <;> rcases h7 with rfl | ⟨_, rfl⟩ | ⟨_, rfl⟩ <;> simp [co, y2, x7']
  have z2 : asgF 8 (eIf (eT (e2 isD (eVar 6) (eC .none))) (eTup (aCons (eTup aNil) (aCons (eTup aNil) aNil))) (eVar 6)) (zE s0 c1 p n S t (some (.val fd)) (some (.val (.tuple (nD (GL n))))) a8 a9 a10 a11 a12 a13 a14) = M.ok (.nx (zE s0 c1 p n S t (some (.val fd)) (some (.val (.tuple (nD (GL n))))) (some (.val (.tuple [lotD L, .tuple ws]))) a9 a10 a11 a12 a13 a14)) := by
    cases hz : DL.isNon fd with
    | true =>
      have := hif true hz
      simp only [if_true] at this
      rw [← this]
      rcases h8 with rfl | ⟨_, rfl⟩ | ⟨_, rfl⟩ <;> simp [zE, hz]
    | false =>
      have := hif false hz
      simp only [Bool.false_eq_true, if_false] at this
      rw [← this]
      rcases h8 with rfl | ⟨_, rfl⟩ | ⟨_, rfl⟩ <;> simp [zE, hz]
  obtain ⟨od, p1, hod, eod⟩ := odd_ok p
  let GT : List PyData := (GL n).map fun k : Nat => .tuple [.int (k : Int)]
  let T5 : List PyData := [fd, .tuple [lotD L, .tuple ws], .tuple [.tuple (nD (GL n)), .tuple GT], .tuple [.tuple (DL.cutD (nD (GL n)) none (some 1)), .tuple [.tuple [.int 0]]], od]
  have z3 : asgF 9 (eLst (aCons (eVar 6) (aCons (eVar 8) (aCons (eTup (aCons (eVar 7) (aCons (eCB tupleD (aCons (lcF (seqI (eVar 7)) (gtName 15) yesF (eTup (aCons (eVar 15) aNil)) [15]) aNil)) aNil))) (aCons (eTup (aCons (eSl (eVar 7) oNone (oSome (eC (.int 1)))) (aCons (eTup (aCons (eTup (aCons (eC (.int 0)) aNil)) aNil)) aNil))) (aCons (callP m__law_odd__3 (aCons (eVar 2) aNil)) aNil)))))) (zE s0 c1 p n S t (some (.val fd)) (some (.val (.tuple (nD (GL n))))) (some (.val (.tuple [lotD L, .tuple ws]))) a9 a10 a11 a12 a13 a14) = M.ok (.nx (zE s0 c1 p1 n S t (some (.val fd)) (some (.val (.tuple (nD (GL n))))) (some (.val (.tuple [lotD L, .tuple ws]))) (some (.own (.lst T5))) a10 a11 a12 a13 a14)) := by
    have xg : ∀ (e : EnvD), e = [s0, c1, some (.own (penO p)), some (.val n.D), some (.val (.tuple (nD S))), some (.val (.int (t : Int))), some (.val fd), some (.val (.tuple (nD (GL n)))), some (.val (.tuple [lotD L, .tuple ws])), a9, a10, a11, a12, a13, a14, none, none] → lcL (gtName 15) yesF (eTup (aCons (eVar 15) aNil)) [15] (nD (GL n)) [] e = some (.ok (GT, e)) := fun e he => by
      subst he
      exact lcL_typM (enc := iD) (h := fun k : Nat => .tuple [.int (k : Int)]) (l := GL n) (fun k _ => by simp [iD]) (by simp; omega)
    have xg' := xg _ rfl
    show _ = M.ok (Flo.nx (zE s0 c1 p1 n S t (some (.val fd)) (some (.val (.tuple (nD (GL n))))) (some (.val (.tuple [lotD L, .tuple ws]))) (some (.own (.lst [fd, .tuple [lotD L, .tuple ws], .tuple [.tuple (nD (GL n)), .tuple GT], .tuple [.tuple (DL.cutD (nD (GL n)) none (some 1)), .tuple [.tuple [.int 0]]], od]))) a10 a11 a12 a13 a14))
    generalize GT = GT' at xg' ⊢
    generalize nD (GL n) = G at xg' ⊢
    unfold zE
    rcases h9 with rfl | ⟨_, rfl⟩ | ⟨_, rfl⟩ <;> simp [xg', eod]
  have t5 : ∀ d ∈ T5, ThingP d := fun d hd => by
    simp only [T5, List.mem_cons, List.not_mem_nil, or_false] at hd
    rcases hd with rfl | rfl | rfl | rfl | rfl
    · exact tfound
    · exact tcut
    · refine row_two gG (fun y hy => ?_) (by simp [GT]; omega)
      obtain ⟨k, hk, rfl⟩ := List.mem_map.mp hy
      exact .inl ⟨_, ⟨by simp, fun z hz => by simp at hz; subst hz; exact .int _ (by have := Gk k hk; omega)⟩, .inl rfl⟩
    · refine row_two ⟨_, ⟨?_, fun y hy => nD_items Gk y (cutD_mem hy)⟩, .inl rfl⟩ (fun y hy => ?_) (by simp)
      · have := cutD_len (nD (GL n)) none (some 1); simp at this; omega
      · simp at hy; subst hy; exact .inr .t0
    · exact hod
  let T3 : List PyData := [.tuple [.tuple (nD L).reverse, .tuple ws], .tuple [lotD L, .tuple (List.replicate L.length (DL.cutD ws none (some 1))).flatten], .tuple [.tuple (DL.cutD (nD L) (some 1) none), .tuple (DL.cutD ws (some 1) none)]]
  have c1l : (DL.cutD ws none (some 1)).length ≤ 1 := by
    have := cut_to ws 1
    rw [show ((1 : Nat) : Int) = 1 from rfl] at this
    rw [this]
    simp; omega
  have z4 : asgF 9 (e2 addD (eVar 9) (eLst (aCons (eTup (aCons (e1 revD (e2 ixD (eVar 8) (eC (.int 0)))) (aCons (e2 ixD (eVar 8) (eC (.int 1))) aNil))) (aCons (eTup (aCons (e2 ixD (eVar 8) (eC (.int 0))) (aCons (e2 mulG (eSl (e2 ixD (eVar 8) (eC (.int 1))) oNone (oSome (eC (.int 1)))) (eCB lenD (aCons (e2 ixD (eVar 8) (eC (.int 0))) aNil))) aNil))) (aCons (eTup (aCons (eSl (e2 ixD (eVar 8) (eC (.int 0))) (oSome (eC (.int 1))) oNone) (aCons (eSl (e2 ixD (eVar 8) (eC (.int 1))) (oSome (eC (.int 1))) oNone) aNil))) aNil))))) (zE s0 c1 p1 n S t (some (.val fd)) (some (.val (.tuple (nD (GL n))))) (some (.val (.tuple [lotD L, .tuple ws]))) (some (.own (.lst T5))) a10 a11 a12 a13 a14) = M.ok (.nx (zE s0 c1 p1 n S t (some (.val fd)) (some (.val (.tuple (nD (GL n))))) (some (.val (.tuple [lotD L, .tuple ws]))) (some (.own (.lst (T5 ++ T3)))) a10 a11 a12 a13 a14)) := by
    have q : T5.length + 3 ≤ 100000 := by show 5 + 3 ≤ 100000; decide
    have q1 : (DL.cutD ws none (some 1)).length ≤ 1000 := by omega
    have q2 : (L.length : Int) ≤ 100 := by omega
    generalize T5 = U at q ⊢
    unfold zE lotD
    simp [mulG, q, q1, q2, T3, lotD]
  have t3 : ∀ d ∈ T3, ThingP d := fun d hd => by
    simp only [T3, List.mem_cons, List.not_mem_nil, or_false] at hd
    rcases hd with rfl | rfl | rfl
    · exact row_two ⟨_, ⟨by simp; omega, fun y hy => nD_items Lk y (List.mem_reverse.mp hy)⟩, .inl rfl⟩ hw (by omega)
    · refine row_two gr (rep_flat (w := .none) _ fun y hy => hw y (cutD_mem hy)) ?_
      rw [rep_flat_len]
      have : L.length * (DL.cutD ws none (some 1)).length ≤ 9 * 1 := Nat.mul_le_mul l9 c1l
      omega
    · refine row_two ⟨_, ⟨?_, fun y hy => nD_items Lk y (cutD_mem hy)⟩, .inl rfl⟩ (fun y hy => hw y (cutD_mem hy)) ?_
      · have := cutD_len (nD L) (some 1) none; simp at this; omega
      · have := cutD_len ws (some 1) none; omega
  have t8 : ∀ d ∈ T5 ++ T3, ThingP d := fun d hd => (List.mem_append.mp hd).elim (t5 d) (t3 d)
  obtain ⟨p2, T', b10, tt, n10, x5⟩ := lap_walk ok S t s0 c1 (some (.val fd)) (some (.val (.tuple (nD (GL n))))) L Ws hc a11 a12 a13 a14 ((List.range 10).map iD) p1 (T5 ++ T3) a10 t8 (by show 8 + 10 ≤ 1000; decide) h10
  rw [hWD] at x5
  have z5 : argI rng1I (aCons (eC (.int 10)) aNil) (zE s0 c1 p1 n S t (some (.val fd)) (some (.val (.tuple (nD (GL n))))) (some (.val (.tuple [lotD L, .tuple ws]))) (some (.own (.lst (T5 ++ T3)))) a10 a11 a12 a13 a14) = M.ok ((List.range 10).map iD, zE s0 c1 p1 n S t (some (.val fd)) (some (.val (.tuple (nD (GL n))))) (some (.val (.tuple [lotD L, .tuple ws]))) (some (.own (.lst (T5 ++ T3)))) a10 a11 a12 a13 a14) :=
    argI_run (ds := [.int ((10 : Nat) : Int)]) (by simp [zE]) (rng1_n (by omega))
  rw [← for_run z5] at x5
  obtain ⟨c10, c11, c12, c13, c14, n10', n11, n12, n13, n14, x6⟩ := thing_walk ok hS ht s0 c1 p2 (some (.val fd)) (some (.val (.tuple (nD (GL n))))) (some (.val (.tuple [lotD L, .tuple ws]))) (some (.val (.list T'))) T' b10 a11 a12 a13 a14 tt n10 h11 h12 h13 h14
  have z6 : seqI (eVar 9) (zE s0 c1 p2 n S t (some (.val fd)) (some (.val (.tuple (nD (GL n))))) (some (.val (.tuple [lotD L, .tuple ws]))) (some (.own (.lst T'))) b10 a11 a12 a13 a14) = M.ok (T', zE s0 c1 p2 n S t (some (.val fd)) (some (.val (.tuple (nD (GL n))))) (some (.val (.tuple [lotD L, .tuple ws]))) (some (.val (.list T'))) b10 a11 a12 a13 a14) := by
    simp [zE]
  refine ⟨p2, some (.val fd), some (.val (.tuple (nD (GL n)))), some (.val (.tuple [lotD L, .tuple ws])), some (.val (.list T')), c10, c11, c12, c13, c14, .val, .val, .val, .val, n10', n11, n12, n13, n14, ?_⟩
  unfold pU
  rw [seq_nx z1, seq_nx z2, seq_nx z3, seq_nx z4, seq_nx x5, for_run z6]
  exact x6
theorem place_walk {n : Net} (ok : n.Ok) {S : List Nat} (hS : ShutOk n S) (s0 c1 : Option Sl) : ∀ (ts : List Nat) (p : Pen) (a5 a6 a7 a8 a9 a10 a11 a12 a13 a14 : Option Sl), (∀ t ∈ ts, n.place t = true) → NP a5 → NP a6 → NP a7 → NP a8 → NP a9 → NP a10 → NP a11 → NP a12 → NP a13 → NP a14 →
    ∃ p' b5 b6 b7 b8 b9 b10 b11 b12 b13 b14, NP b5 ∧ NP b6 ∧ NP b7 ∧ NP b8 ∧ NP b9 ∧ NP b10 ∧ NP b11 ∧ NP b12 ∧ NP b13 ∧ NP b14 ∧ forL (gtName 5) pU (nD ts) [s0, c1, some (.own (penO p)), some (.val n.D), some (.val (.tuple (nD S))), a5, a6, a7, a8, a9, a10, a11, a12, a13, a14, none, none] =
      M.ok (.nx [s0, c1, some (.own (penO p')), some (.val n.D), some (.val (.tuple (nD S))), b5, b6, b7, b8, b9, b10, b11, b12, b13, b14, none, none])
  | [], p, a5, a6, a7, a8, a9, a10, a11, a12, a13, a14, _, h5, h6, h7, h8, h9, h10, h11, h12, h13, h14 => ⟨p, a5, a6, a7, a8, a9, a10, a11, a12, a13, a14, h5, h6, h7, h8, h9, h10, h11, h12, h13, h14, by simp⟩
  | t :: ts, p, a5, a6, a7, a8, a9, a10, a11, a12, a13, a14, hp, h5, h6, h7, h8, h9, h10, h11, h12, h13, h14 => by
    obtain ⟨p1, b6, b7, b8, b9, b10, b11, b12, b13, b14, g6, g7, g8, g9, g10, g11, g12, g13, g14, x⟩ := place_turn ok hS (hp t (by simp)) s0 c1 p a6 a7 a8 a9 a10 a11 a12 a13 a14 h6 h7 h8 h9 h10 h11 h12 h13 h14
    obtain ⟨p2, e5, e6, e7, e8, e9, e10, e11, e12, e13, e14, k5, k6, k7, k8, k9, k10, k11, k12, k13, k14, y⟩ := place_walk ok hS s0 c1 ts p1 (some (.val (.int (t : Int)))) b6 b7 b8 b9 b10 b11 b12 b13 b14 (fun x hx => hp x (by simp [hx])) .val g6 g7 g8 g9 g10 g11 g12 g13 g14
    refine ⟨p2, e5, e6, e7, e8, e9, e10, e11, e12, e13, e14, k5, k6, k7, k8, k9, k10, k11, k12, k13, k14, ?_⟩
    have g : gtName 5 (iD t) [s0, c1, some (.own (penO p)), some (.val n.D), some (.val (.tuple (nD S))), a5, a6, a7, a8, a9, a10, a11, a12, a13, a14, none, none] = some (zE s0 c1 p n S t a6 a7 a8 a9 a10 a11 a12 a13 a14) := by
      rcases h5 with rfl | ⟨_, rfl⟩ | ⟨_, rfl⟩ <;> simp [zE, iD]
    rw [nD_cons, forL_step, s_forStep, g]
    dsimp only
    rw [x]
    exact y
def cU : FS := (seqF (asgF 2 (callV m__law_pen_of [] (aCons (eVar 1) aNil)))
    (seqF (asgF 3 (callP m__law_net__3 (aCons (eVar 2) (aCons (e2 ixD (eLst (aCons (eC (.int 7)) (aCons (eC (.int 4)) aNil))) (callP m__law_draw (aCons (eVar 2) (aCons (eC (.int 2)) aNil)))) aNil))))
    (seqF (asgF 4 (callP m__law_shut (aCons (eVar 2) (aCons (eVar 3) aNil))))
    (forF (seqI (eSl (callV m__law_places [] (aCons (eVar 3) aNil)) oNone (oSome (eC (.int 3))))) (gtName 5) pU))))
structure Slots (t : EnvD) : Prop where
  ex : ∃ a1 a2 a3 a4 a5 a6 a7 a8 a9 a10 a11 a12 a13 a14, t = [a1, a2, a3, a4, a5, a6, a7, a8, a9, a10, a11, a12, a13, a14, none, none] ∧ NP a1 ∧ NP a2 ∧ NP a3 ∧ NP a4 ∧ NP a5 ∧ NP a6 ∧ NP a7 ∧ NP a8 ∧ NP a9 ∧ NP a10 ∧ NP a11 ∧ NP a12 ∧ NP a13 ∧ NP a14
theorem cell_turn (s0 : Option Sl) (z : Int) (t : EnvD) (h : Slots t) : ∃ t', Slots t' ∧ forStep (gtName 1) cU (.int z) (s0 :: t) = M.ok (.nx (s0 :: t')) := by
  obtain ⟨a1, a2, a3, a4, a5, a6, a7, a8, a9, a10, a11, a12, a13, a14, rfl, h1, h2, h3, h4, h5, h6, h7, h8, h9, h10, h11, h12, h13, h14⟩ := h.ex
  obtain ⟨p, ep⟩ := pen_of_eq z
  obtain ⟨r, hr, hr'⟩ := dr p 2 (by decide)
  have d1 := draw_eq p 2 (by decide) (by decide)
  rw [hr] at d1
  have mo : ∃ mo : Nat, 2 ≤ mo ∧ mo ≤ 7 ∧ atI [PyData.int 7, .int 4] (r : Int) = some (.int (mo : Int)) := by
    have r01 : r = 0 ∨ r = 1 := by omega
    rcases r01 with rfl | rfl
    · exact ⟨7, by decide, by decide, by simp⟩
    · exact ⟨4, by decide, by decide, by simp⟩
  obtain ⟨mo, m2, m7, em⟩ := mo
  obtain ⟨n, p1, ok, en⟩ := net3_ok (drawP p 2) mo m2 m7
  obtain ⟨S, p2, hS, es⟩ := shut_ok ok p1
  have pl := places_eq ok
  obtain ⟨p3, b5, b6, b7, b8, b9, b10, b11, b12, b13, b14, k5, k6, k7, k8, k9, k10, k11, k12, k13, k14, x⟩ := place_walk ok hS s0 (some (.val (.int z))) ((places n).take 3) p2 a5 a6 a7 a8 a9 a10 a11 a12 a13 a14 (fun t ht => by
    have := List.mem_of_mem_take ht
    exact (List.mem_filter.mp this).2) h5 h6 h7 h8 h9 h10 h11 h12 h13 h14
  refine ⟨_, ⟨_, _, _, _, b5, b6, b7, b8, b9, b10, b11, b12, b13, b14, rfl, .val (d := .int z), .own (x := penO p3), .val (d := n.D), .val (d := .tuple (nD S)), k5, k6, k7, k8, k9, k10, k11, k12, k13, k14⟩, ?_⟩
  have g : gtName 1 (.int z) [s0, a1, a2, a3, a4, a5, a6, a7, a8, a9, a10, a11, a12, a13, a14, none, none] = some [s0, some (.val (.int z)), a2, a3, a4, a5, a6, a7, a8, a9, a10, a11, a12, a13, a14, none, none] := by
    rcases h1 with rfl | ⟨_, rfl⟩ | ⟨_, rfl⟩ <;> simp
  rw [s_forStep, g]
  dsimp only
  unfold cU
  rw [seq_nx (env1 := [s0, some (.val (.int z)), some (.own (penO p)), a3, a4, a5, a6, a7, a8, a9, a10, a11, a12, a13, a14, none, none]) (by
    rcases h2 with rfl | ⟨_, rfl⟩ | ⟨_, rfl⟩ <;> simp [ep])]
  rw [seq_nx (env1 := [s0, some (.val (.int z)), some (.own (penO p1)), some (.val n.D), a4, a5, a6, a7, a8, a9, a10, a11, a12, a13, a14, none, none]) (by
    rcases h3 with rfl | ⟨_, rfl⟩ | ⟨_, rfl⟩ <;> simp [d1, em, en])]
  rw [seq_nx (env1 := [s0, some (.val (.int z)), some (.own (penO p2)), some (.val n.D), some (.val (.tuple (nD S))), a5, a6, a7, a8, a9, a10, a11, a12, a13, a14, none, none]) (by
    rcases h4 with rfl | ⟨_, rfl⟩ | ⟨_, rfl⟩ <;> simp [es])]
  have ct : DL.cutD (nD (places n)) none (some 3) = nD ((places n).take 3) := by
    have := cut_to (nD (places n)) 3
    rw [show ((3 : Nat) : Int) = 3 from rfl] at this
    rw [this]
    unfold nD
    rw [List.map_take]
  have zz : seqI (eSl (callV m__law_places [] (aCons (eVar 3) aNil)) oNone (oSome (eC (.int 3)))) [s0, some (.val (.int z)), some (.own (penO p2)), some (.val n.D), some (.val (.tuple (nD S))), a5, a6, a7, a8, a9, a10, a11, a12, a13, a14, none, none] = M.ok (nD ((places n).take 3), [s0, some (.val (.int z)), some (.own (penO p2)), some (.val n.D), some (.val (.tuple (nD S))), a5, a6, a7, a8, a9, a10, a11, a12, a13, a14, none, none]) := by
    simp [pl, ct]
  rw [for_run zz]
  exact x
theorem cell_walk (s0 : Option Sl) : ∀ (zs : List Int) (t : EnvD), Slots t → ∃ t', Slots t' ∧ forL (gtName 1) cU (zs.map PyData.int) (s0 :: t) = M.ok (.nx (s0 :: t'))
  | [], t, h => ⟨t, h, by simp⟩
  | z :: zs, t, h => by
    obtain ⟨t1, h1, x⟩ := cell_turn s0 z t h
    obtain ⟨t2, h2, y⟩ := cell_walk s0 zs t1 h1
    refine ⟨t2, h2, ?_⟩
    rw [List.map_cons, forL_step, x]
    exact y
theorem plain32 : ∀ ns : List Int, ns.length ≤ 63 → (∀ z ∈ ns, Builtin.Int.intBits z ≤ 1048576) → ∃ outs, m_law__11 [.val (.list (ns.map PyData.int))] = M.ok (.val (.bool true), outs) := by
  intro ns hl _
  obtain ⟨z, ez⟩ := cell_at_eq ns
  have hc : ∃ r : List Int, DL.cutD (ns.map PyData.int) (some 1) (some 3) = r.map PyData.int ∧ r.length ≤ 63 := by
    refine ⟨(ns.drop (HT.sIx (ns.map PyData.int).length 0 (some 1))).take (HT.sIx (ns.map PyData.int).length (ns.map PyData.int).length (some 3) - HT.sIx (ns.map PyData.int).length 0 (some 1)), ?_, ?_⟩
    · unfold DL.cutD
      rw [List.map_take, List.map_drop]
    · rw [List.length_take, List.length_drop]; omega
  obtain ⟨r, hr, rl⟩ := hc
  obtain ⟨t, _, x⟩ := cell_walk (some (.val (.list (ns.map PyData.int)))) (z :: r) [none, none, none, none, none, none, none, none, none, none, none, none, none, none, none, none] ⟨none, none, none, none, none, none, none, none, none, none, none, none, none, none, rfl, .none, .none, .none, .none, .none, .none, .none, .none, .none, .none, .none, .none, .none, .none⟩
  have q : 1 + r.length ≤ 100000 := by omega
  have zz : seqI (e2 addD (eLst (aCons (callV m__law_cell_at [] (aCons (eVar 0) (aCons (eC (.int 0)) aNil))) aNil)) (eSl (eVar 0) (oSome (eC (.int 1))) (oSome (eC (.int 3))))) [some (.val (.list (ns.map PyData.int))), none, none, none, none, none, none, none, none, none, none, none, none, none, none, none, none] = M.ok ((z :: r).map PyData.int, [some (.val (.list (ns.map PyData.int))), none, none, none, none, none, none, none, none, none, none, none, none, none, none, none, none]) := by
    generalize ns.map PyData.int = N at ez hr
    simp [ez, hr, q]
  rw [← for_run zz] at x
  have h0 : f_law__11 ([Sl.val (.list (ns.map PyData.int))].map some ++ List.replicate 16 none) = M.ok (.rt (.val (.bool true)) (some (.val (.list (ns.map PyData.int))) :: t)) := by
    show seqF (forF _ (gtName 1) cU) (retF (eC (.bool true))) [some (.val (.list (ns.map PyData.int))), none, none, none, none, none, none, none, none, none, none, none, none, none, none, none, none] = _
    rw [seq_nx x]
    rfl
  refine ⟨[some (.val (.list (ns.map PyData.int)))], ?_⟩
  unfold m_law__11
  rw [body_rt (by rfl) h0]
  rfl
end WH
set_option Elab.async false
set_option linter.all false
set_option maxRecDepth 100000
set_option maxHeartbeats 0
namespace K32
open PySem PySem.Spec PyProof.Rows L2 DL He
open WH
theorem walk : PySem.W.WalkO qv names (PySem.W.XL qv []) hk.says R.toRowW (HandSHeadRun.topDef R.prog 67) [] (fun f vs => PySem.call f vs) :=
  walk_D (l := PySem.Challenge.rw_waterheads_k32_cuts_looked_at) (n := 63) (k := 16) (x := "_law_script") (m := m_law__11) rfl (by decide) (by kernel_rfl) ⟨rfl, by decide, by decide⟩ (by kernel_rfl) (fun K h => exq0 h) (fun K h => htk_of (xs := ["law"]) (exq8 h))
    (fun w K h mg X G c base TB => c_law (P := R.prog) (txt_of X G c TB)) plain32
end K32
open PySem PySem.W PySem.Calls PyProof.Rows in
theorem PySem.Challenge.cw_waterheads_k32_cuts_looked_at_holds : PySem.Challenge.rw_waterheads_k32_cuts_looked_at.Holds := by
  w_on; o_law
  refine HandSHeadRun.head_any (r := OpenLaw.row PySem.Challenge.rw_waterheads_k32_cuts_looked_at) (q := K32.qv) (H := K32.hk) (ob := K32.ob) (M := 8000) (loose := K32.names) (d := HandSHeadRun.topDef (OpenLaw.row PySem.Challenge.rw_waterheads_k32_cuts_looked_at).prog 67) (kwd := []) K32.ob_eq
    (by kernel_rfl) (fun s => by kernel_rfl) K32.run (by kernel_rfl) (by kernel_rfl) (by kernel_rfl) (by rfl) (by first | assumption | decide +kernel) (by decide +kernel) ⟨rfl, rfl, rfl, rfl, rfl, by decide +kernel⟩ ?hw ?hc
  case hw => w_witness2
  case hc => exact K32.walk
